/-
The pure statement of FnGroups: the printed functions of the program and of the reference answer alike for every argument within the bounds that the statement tells.
-/
import Derived.Test.YtdepnaelaoakaaaWfFnGroups
namespace Go.Proofs.Ytdepnaelaoakaaa.Pure
open Go Go.RowKit Go.Proofs.Ytdepnaelaoakaaa.PFnGroups Go.Proofs.YtdepnaelaoakaaaW.PrintWords Go.Proofs.YtdepnaelaoakaaaW.PrintLast Go.Proofs.YtdepnaelaoakaaaW.PrintMore Go.Proofs.Ytdepnaelaoakaaa.Lib
set_option linter.unusedVariables false
set_option linter.unusedSimpArgs false
namespace OfFnGroups
theorem within_eq (a b c : Int) : impl_within.f a b c = some (decide (b ≤ a∧a ≤ c)):=by
 simp only [impl_within.f]
 by_cases h : b ≤ a <;> simp [h]

theorem l1In_eq (a b c : Int) : spec_l1In.f a b c = some (decide (b ≤ a∧a ≤ c)):=by
 simp only [spec_l1In.f]
 by_cases h : b ≤ a <;> simp [h]

theorem rd_L_nat (xs : List (List Int)) (i : Nat) : rd_L1 xs (i : Int) = xs.getD i []:=by simp [rd_L1]
def blocksB (l : List (List Int)) : Bool:=decide (40 ≤ l.length∧l.length ≤ 160) && l.all (fun b=>decide (b.length = 128))
theorem indexFunc_loop (l : List (List Int)) (hl : l.length ≤ 1048576) : ∀ (m i : Nat),i + m = l.length → ∃ r : Int,Ev (fun k=>slices_IndexFunc_byte_byte.l0 k l (l.length : Int) (i : Int)) r∧(0 ≤ r ↔ ¬ ((l.drop i).all (fun b=>decide (b.length = 128)) = true)):=by
 intro m
 induction m with
 | zero =>
  intro i hi
  refine ⟨-1,Ev_succ ?_,?_⟩
  ·simp only [slices_IndexFunc_byte_byte.l0];exact Ev_f (by omega) (Ev.now _)
  ·rw [List.drop_of_length_le (by omega)];simp
 | succ m ih =>
  intro i hi
  have hd:=drop_cons l i [] (by omega)
  obtain ⟨r,h1,h2⟩:=ih (i + 1) (by omega)
  by_cases c : (l.getD i []).length = 128
  ·refine ⟨r,Ev_succ ?_,?_⟩
   ·simp only [slices_IndexFunc_byte_byte.l0,rd_L_nat,impl_areBlocks_1.f,Option.bind_some]
    rw [w64_succ (show i < l.length by omega) (by omega)]
    exact Ev_t (by omega) (Ev_t (by omega) (Ev_t (by omega) (Ev_f (by rw [c];decide) h1)))
   ·rw [hd,h2,List.all_cons,c];simp
  ·refine ⟨(i : Int),Ev_succ ?_,?_⟩
   ·simp only [slices_IndexFunc_byte_byte.l0,rd_L_nat,impl_areBlocks_1.f,Option.bind_some]
    exact Ev_t (by omega) (Ev_t (by omega) (Ev_t (by omega) (Ev_t (by simp only [bne_iff_ne];omega) (Ev.now _))))
   ·rw [hd,List.all_cons];simp only [c,decide_false,Bool.false_and,Bool.false_eq_true,not_false_eq_true,iff_true];omega
theorem areBlocks_ev (l : List (List Int)) (hl : l.length ≤ 1048576) : Ev (fun k=>impl_areBlocks.f k l) (blocksB l):=by
 simp only [impl_areBlocks.f,within_eq,Option.bind_some,decide_eq_true_eq]
 by_cases c : (40 : Int) ≤ (l.length : Int)∧(l.length : Int) ≤ 160
 ·obtain ⟨r,h1,h2⟩:=indexFunc_loop l hl l.length 0 (by omega)
  refine Ev_t c (Ev.bind (a:=decide (r ≥ 0)) ?_ (Ev_eq (Ev.now _) ?_))
  ·simp only [slices_ContainsFunc_byte_byte.f,slices_IndexFunc_byte_byte.f]
   exact Ev.bind h1 (Ev.now _)
  ·rw [List.drop_zero] at h2
   have c' : 40 ≤ l.length∧l.length ≤ 160:=by omega
   simp only [blocksB,c',and_self,decide_true,Bool.true_and]
   cases hh : l.all (fun b=>decide (b.length = 128)) with
   | true=>simp only [hh,not_true,iff_false] at h2;simp;omega
   | false=>simp only [hh] at h2;have : 0 ≤ r:=h2.2 (by simp);simp [this]
 ·refine Ev_f c (Ev_eq (Ev.now _) ?_)
  have c' : ¬ (40 ≤ l.length∧l.length ≤ 160):=by omega
  simp only [blocksB,c',decide_false,Bool.false_and]

def diskB (l : List (List Int)) (w : Int) (t : Int) : Bool:=blocksB l && (decide (0 ≤ w∧w ≤ 1000000000) && decide (-1 ≤ t∧t ≤ 1000000))
theorem implGoodDisk_ev (l : List (List Int)) (w : Int) (o : Bool) (t : Int) (hl : l.length ≤ 1048576) : Ev (fun k=>impl_GoodDisk.f k l w o t) (diskB l w t):=by
 simp only [impl_GoodDisk.f,within_eq,Option.bind_some,decide_eq_true_eq]
 refine Ev.bind (areBlocks_ev l hl) ?_
 cases hb : blocksB l with
 | false=>exact Ev_f (by decide) (Ev_eq (Ev.now _) (by simp [diskB,hb]))
 | true =>
  refine Ev_t rfl (Ev_ite (fun h=>Ev_eq (Ev.now _) (by simp [diskB,hb,h])) (fun h=>Ev_eq (Ev.now _) (by simp only [diskB,hb,h,decide_false,Bool.false_and,Bool.and_false])))
theorem specGoodDisk_loop (l : List (List Int)) (hl : l.length ≤ 1048576) : ∀ (m i : Nat),i + m = l.length → Ev (fun k=>spec_GoodDisk.l0 k l (l.length : Int) (i : Int)) ((l.drop i).all (fun b=>decide (b.length = 128))):=by
 intro m
 induction m with
 | zero =>
  intro i hi
  refine Ev_succ ?_
  simp only [spec_GoodDisk.l0]
  rw [List.drop_of_length_le (by omega)]
  exact Ev_f (by omega) (Ev.now _)
 | succ m ih =>
  intro i hi
  have hd:=drop_cons l i [] (by omega)
  refine Ev_succ ?_
  simp only [spec_GoodDisk.l0,rd_L_nat]
  rw [w64_succ (show i < l.length by omega) (by omega),hd,List.all_cons]
  refine Ev_t (by omega) (Ev_t (by omega) (Ev_t (by omega) (Ev_ite (fun h=>Ev_eq (ih (i + 1) (by omega)) ?_) (fun h=>Ev_eq (Ev.now _) ?_))))
  ·have h' : (l.getD i []).length = 128:=by omega
   simp only [h',decide_true,Bool.true_and]
  ·have h' : ¬ (l.getD i []).length = 128:=by omega
   simp only [h',decide_false,Bool.false_and]
theorem specGoodDisk_ev (l : List (List Int)) (w : Int) (o : Bool) (t : Int) (hl : l.length ≤ 1048576) : Ev (fun k=>spec_GoodDisk.f k l w o t) (diskB l w t):=by
 simp only [spec_GoodDisk.f,l1In_eq,Option.bind_some,decide_eq_true_eq]
 have hf : ∀ b : Bool,b = true → diskB l w t = false → Ev (fun k=>spec_GoodDisk.j0 k b l w o t) (diskB l w t):=by
  intro b hb hd
  refine Ev_succ ?_
  simp only [spec_GoodDisk.j0]
  exact Ev_t hb (Ev_eq (Ev.now _) hd.symm)
 by_cases c1 : (40 : Int) ≤ (l.length : Int)∧(l.length : Int) ≤ 160
 ·have c1' : 40 ≤ l.length∧l.length ≤ 160:=by omega
  refine Ev_t c1 ?_
  by_cases c2 : 0 ≤ w∧w ≤ 1000000000
  ·refine Ev_t c2 ?_
   by_cases c3 : -1 ≤ t∧t ≤ 1000000
   ·refine Ev_succ ?_
    simp only [spec_GoodDisk.j0]
    have h:=specGoodDisk_loop l hl l.length 0 (by omega)
    rw [List.drop_zero] at h
    exact Ev_f (by simp [c3]) (Ev_eq h (by simp only [diskB,blocksB,c1',c2,c3,and_self,decide_true,Bool.true_and,Bool.and_true]))
   ·exact hf _ (by simp only [c3,decide_false,Bool.not_false]) (by simp only [diskB,c3,decide_false,Bool.and_false])
  ·refine Ev_f c2 (hf _ rfl (by simp only [diskB,c2,decide_false,Bool.false_and,Bool.and_false]))
 ·refine Ev_f c1 (hf _ rfl ?_)
  have c1' : ¬ (40 ≤ l.length∧l.length ≤ 160):=by omega
  simp only [diskB,blocksB,c1',decide_false,Bool.false_and]

theorem rd_T40_nat (xs : List S40) (i : Nat) : rd_T40 xs (i : Int) = xs.getD i z40:=by simp [rd_T40]
theorem u64_rng (x : Int) : 0 ≤ IntKind.u64.wrap x∧IntKind.u64.wrap x < 18446744073709551616:=by
 unfold IntKind.wrap
 simp [IntKind.signed,IntKind.bits]
 omega
theorem and255 (x : Int) (h0 : 0 ≤ x) (h1 : x < 18446744073709551616) : 0 ≤ Go.bits .and .u64 x 255∧Go.bits .and .u64 x 255 ≤ 255:=by
 obtain ⟨n,rfl⟩:=Int.eq_ofNat_of_zero_le h0
 have h:=Go.bits_and_u64_nat n 255 (by omega) (by omega)
 have h2 : n &&& 255 ≤ 255:=Nat.and_le_right
 rw [show ((255 : Int)) = ((255 : Nat) : Int) from rfl,h]
 omega
theorem next_ev (l : List Int) (hw : ∀ x ∈ l,0 ≤ x∧x ≤ 255) (hl : l.length ≤ 9223372036854775807) (a s : Int) (h0 : 0 ≤ a) (h1 : a ≤ 1000) : ∃ r a' s',spec_l1Cur_next.f l a s = some (r,a',s')∧0 ≤ r∧r ≤ 255∧a' = a + 1:=by
 have hrd : ∀ i : Int,0 ≤ i → i < l.length → 0 ≤ rd l i∧rd l i ≤ 255:=fun i g0 g1=>by
  obtain ⟨n,rfl⟩:=Int.eq_ofNat_of_zero_le g0
  rw [rd_nat]
  rw [List.getD_eq_getElem?_getD,List.getElem?_eq_getElem (show n < l.length by omega)]
  exact hw _ (List.getElem_mem _)
 have hand : ∀ y : Int,0 ≤ wrap64 (Go.bits .and .u64 (IntKind.u64.wrap y / 1099511627776) 255)∧wrap64 (Go.bits .and .u64 (IntKind.u64.wrap y / 1099511627776) 255) ≤ 255:=fun y=>by
  have h2:=u64_rng y
  have h3:=and255 (IntKind.u64.wrap y / 1099511627776) (by omega) (by omega)
  rw [w64 (by omega) (by omega)]
  exact h3
 simp only [spec_l1Cur_next.f]
 rw [w64 (n:=a + 1) (by omega) (by omega)]
 by_cases c1 : a < (l.length : Int)
 ·rw [if_pos c1,if_pos h0]
  have h2:=hrd a h0 c1
  by_cases c2 : a + 1 ≤ (l.length : Int)
  ·rw [if_pos c2]
   rw [w64 (n:=rd l a) (by omega) (by omega)]
   exact ⟨_,_,_,rfl,h2.1,h2.2,rfl⟩
  ·rw [if_neg c2]
   exact ⟨_,_,_,rfl,(hand _).1,(hand _).2,rfl⟩
 ·rw [if_neg c1]
  by_cases c2 : a + 1 ≤ (l.length : Int)
  ·rw [if_pos c2]
   exact ⟨_,_,_,rfl,by omega,by omega,rfl⟩
  ·rw [if_neg c2]
   exact ⟨_,_,_,rfl,(hand _).1,(hand _).2,rfl⟩
theorem pick_ev (l : List Int) (hw : ∀ x ∈ l,0 ≤ x∧x ≤ 255) (hl : l.length ≤ 9223372036854775807) (a s n : Int) (h0 : 0 ≤ a) (h1 : a ≤ 900) (hn : 1 ≤ n) : ∃ r a' s',spec_l1Cur_pick.f l a s n = some (r,a',s')∧0 ≤ r∧r < n∧a ≤ a'∧a' ≤ a + 2:=by
 simp only [spec_l1Cur_pick.f]
 by_cases c1 : n ≤ 1
 ·rw [if_pos c1];exact ⟨_,_,_,rfl,by omega,by omega,by omega,by omega⟩
 rw [if_neg c1]
 obtain ⟨r,a',s',e,g0,g1,g2⟩:=next_ev l hw hl a s h0 (by omega)
 rw [e]
 simp only [Option.bind_some]
 by_cases c2 : n > 200
 ·rw [if_pos c2]
  obtain ⟨r2,a2,s2,e2,k0,k1,k2⟩:=next_ev l hw hl a' s' (by omega) (by omega)
  rw [e2]
  simp only [Option.bind_some]
  rw [if_neg (by omega),w64 (n:=r * 256) (by omega) (by omega),w64 (n:=r * 256 + r2) (by omega) (by omega),Int.tmod_eq_emod_of_nonneg (by omega)]
  exact ⟨_,_,_,rfl,Int.emod_nonneg _ (by omega),Int.emod_lt_of_pos _ (by omega),by omega,by omega⟩
 ·rw [if_neg c2,if_neg (by omega),Int.tmod_eq_emod_of_nonneg (by omega)]
  exact ⟨_,_,_,rfl,Int.emod_nonneg _ (by omega),Int.emod_lt_of_pos _ (by omega),by omega,by omega⟩
theorem one_ev (l : List Int) (hw : ∀ x ∈ l,0 ≤ x∧x ≤ 255) (hl : l.length ≤ 9223372036854775807) (a s n : Int) (h0 : 0 ≤ a) (h1 : a ≤ 900) (hn : 1 ≤ n) : ∃ r a' s',spec_l1Cur_one.f l a s n = some (r,a',s')∧a ≤ a'∧a' ≤ a + 2:=by
 obtain ⟨r,a',s',e,_,_,g2,g3⟩:=pick_ev l hw hl a s n h0 h1 hn
 simp only [spec_l1Cur_one.f]
 rw [e]
 exact ⟨_,_,_,rfl,g2,g3⟩
theorem among_ev (l : List Int) (hw : ∀ x ∈ l,0 ≤ x∧x ≤ 255) (hl : l.length ≤ 9223372036854775807) (a s : Int) (g : List Int) (h0 : 0 ≤ a) (h1 : a ≤ 900) (hn : 1 ≤ g.length) : ∃ r a' s',spec_l1Cur_among.f l a s g = some (r,a',s')∧a ≤ a'∧a' ≤ a + 2:=by
 obtain ⟨r,a',s',e,g0,g1,g2,g3⟩:=pick_ev l hw hl a s (g.length : Int) h0 h1 (by omega)
 simp only [spec_l1Cur_among.f]
 rw [e]
 simp only [Option.bind_some]
 rw [if_pos g0,if_pos g1]
 exact ⟨_,_,_,rfl,g2,g3⟩
/-- Bytes. -/
def by8 (x : List Int) : Prop:=∀ z ∈ x,0 ≤ z∧z ≤ 255
theorem by8_rep (n : Nat) : by8 (List.replicate n 0):=fun z hz=>by rw [(List.mem_replicate.1 hz).2];omega
theorem by8_set {x : List Int} (h : by8 x) (i : Nat) (v : Int) (hv : 0 ≤ v∧v ≤ 255) : by8 (x.set i v):=fun z hz=>by
 rcases List.mem_or_eq_of_mem_set hz with h1|rfl
 ·exact h z h1
 ·exact hv
theorem by8_take {x : List Int} (h : by8 x) (n : Nat) : by8 (x.take n):=fun z hz=>h z (List.mem_of_mem_take hz)
theorem block_loop (l : List Int) (hw : ∀ x ∈ l,0 ≤ x∧x ≤ 255) (hl : l.length ≤ 9223372036854775807) : ∀ (n : Nat) (x : List Int) (a s : Int),x.length = 128 → by8 x → 0 ≤ a → a + 3 * (n : Int) ≤ 890 → n ≤ 100 →
  ∃ r a' s',Ev (fun k=>spec_l1Cur_block.l0 k x (n : Int) l a s) (r,a',s')∧r.length = 128∧by8 r∧a ≤ a'∧a' ≤ a + 3 * (n : Int):=by
 intro n
 induction n with
 | zero =>
  intro x a s hx h8 _ _ _
  refine ⟨x,a,s,Ev_succ ?_,hx,h8,by omega,by omega⟩
  simp only [spec_l1Cur_block.l0]
  exact Ev_f (by omega) (Ev.now _)
 | succ n ih =>
  intro x a s hx h8 h0 h1 hn
  obtain ⟨r,a1,s1,e1,g0,g1,g2,g3⟩:=pick_ev l hw hl a s 128 h0 (by omega) (by omega)
  obtain ⟨v,a2,s2,e2,k0,k1,k2⟩:=next_ev l hw hl a1 s1 (by omega) (by omega)
  obtain ⟨R,a3,s3,e3,m0,m1,m2,m3⟩:=ih (x.set r.toNat (v % 256)) a2 s2 (by simpa using hx) (by8_set h8 _ _ (by omega)) (by omega) (by omega) (by omega)
  have e4 : wrap64 (((n + 1 : Nat) : Int) - 1) = (n : Int):=by rw [w64 (by omega) (by omega)];omega
  refine ⟨R,a3,s3,Ev_succ ?_,m0,m1,by omega,by omega⟩
  simp only [spec_l1Cur_block.l0,e1,e2,e4,Option.bind_some]
  exact Ev_t (by omega) (Ev_t g0 (Ev_t (by omega) e3))
theorem block_ev (l : List Int) (hw : ∀ x ∈ l,0 ≤ x∧x ≤ 255) (hl : l.length ≤ 9223372036854775807) (a s : Int) (h0 : 0 ≤ a) (h1 : a ≤ 800) : ∃ r a' s',Ev (fun k=>spec_l1Cur_block.f k l a s) (r,a',s')∧r.length = 128∧by8 r∧a ≤ a'∧a' ≤ a + 14:=by
 obtain ⟨r,a1,s1,e1,g0,g1,g2,g3⟩:=pick_ev l hw hl a s 5 h0 (by omega) (by omega)
 obtain ⟨n,rfl⟩:=Int.eq_ofNat_of_zero_le g0
 obtain ⟨R,a2,s2,e2,k0,k1,k2,k3⟩:=block_loop l hw hl n (List.replicate 128 0) a1 s1 (by simp) (by8_rep _) (by omega) (by omega) (by omega)
 refine ⟨R,a2,s2,?_,k0,k1,by omega,by omega⟩
 simp only [spec_l1Cur_block.f]
 exact Ev_t (by omega) (Ev_bind0 e1 e2)
/-- Blocks as they are drawn. -/
def okB (b : List (List Int)) : Prop:=b.length ≤ 60∧∀ p ∈ b,p.length ≤ 128∧by8 p
theorem put_ev (b : List (List Int)) (w : Int) (o : Bool) (t a : Int) (d : List Int) (h0 : 0 ≤ a) (h1 : a < (b.length : Int)) (hd : d.length ≤ 1000) : ∃ r b' w' o' t',spec_l2Put.f b w o t a d = some (r,b',w',o',t')∧(b' = b ∨ b' = b.set a.toNat d):=by
 simp only [spec_l2Put.f,Option.bind_some,List.nil_append,List.length_nil]
 cases o with
 | false=>exact ⟨_,_,_,_,_,by rw [if_neg (by decide)],.inl rfl⟩
 | true =>
  rw [if_pos rfl]
  by_cases c1 : t = 0
  ·rw [if_pos c1];exact ⟨_,_,_,_,_,rfl,.inl rfl⟩
  ·rw [if_neg c1]
   by_cases c2 : t > 0
   ·rw [if_pos c2,if_pos (by omega),if_pos h0,if_pos h1];exact ⟨_,_,_,_,_,rfl,.inr rfl⟩
   ·rw [if_neg c2,if_pos (by omega),if_pos h0,if_pos h1];exact ⟨_,_,_,_,_,rfl,.inr rfl⟩
theorem newDisk_loop : ∀ (n : Nat) (acc : List (List Int)) (w : Int) (o : Bool) (t : Int),acc.length + n ≤ 1000 → Ev (fun k=>spec_NewDisk.l0 k (n : Int) acc w o t) (acc ++ List.replicate n (List.replicate 128 0),w,o,t,true):=by
 intro n
 induction n with
 | zero =>
  intro acc w o t _
  refine Ev_succ ?_
  simp only [spec_NewDisk.l0]
  exact Ev_f (by omega) (Ev_eq (Ev.now _) (by simp))
 | succ n ih =>
  intro acc w o t hn
  have e4 : wrap64 (((n + 1 : Nat) : Int) - 1) = (n : Int):=by rw [w64 (by omega) (by omega)];omega
  refine Ev_succ ?_
  simp only [spec_NewDisk.l0,e4]
  exact Ev_t (by omega) (Ev_t (by omega) (Ev_t (by omega) (Ev_eq (ih _ w o t (by simp;omega)) (by simp [List.replicate_succ]))))
theorem newDisk_ev (n : Nat) (h0 : 40 ≤ n) (h1 : n ≤ 60) : Ev (fun k=>spec_NewDisk.f k (n : Int)) (List.replicate n (List.replicate 128 0),0,true,-1,true):=by
 simp only [spec_NewDisk.f,l1In_eq,Option.bind_some,decide_eq_true_eq]
 exact Ev_t (by omega) (Ev_eq (newDisk_loop n [] 0 true (-1) (by simp;omega)) (by simp))
theorem set_all {p : List Int → Prop} {b : List (List Int)} (h : ∀ x ∈ b,p x) (i : Nat) (d : List Int) (hd : p d) : ∀ x ∈ b.set i d,p x:=fun x hx=>by
 rcases List.mem_or_eq_of_mem_set hx with h1|rfl
 ·exact h x h1
 ·exact hd
theorem disk_end (l : List Int) (hw : ∀ x ∈ l,0 ≤ x∧x ≤ 255) (hl : l.length ≤ 9223372036854775807) (a s : Int) (b : List (List Int)) (w : Int) (o : Bool) (t : Int) (h0 : 0 ≤ a) (h1 : a ≤ 700) (hb : 40 ≤ b.length∧b.length ≤ 60) (hz : ∀ p ∈ b,p.length = 128∧by8 p) :
  ∃ b' w' o' t' a' s',Ev (fun k=>spec_l1Cur_disk.j1 k l a s b w o t) (b',w',o',t',a',s')∧okB b'∧a ≤ a'∧a' ≤ a + 10:=by
 have hok : okB b:=⟨hb.2,fun p hp=>⟨by have:=(hz p hp).1;omega,(hz p hp).2⟩⟩
 obtain ⟨r,a1,s1,e1,g0,g1,g2,g3⟩:=pick_ev l hw hl a s 24 h0 (by omega) (by omega)
 by_cases c0 : r = 0
 ·refine ⟨b,w,false,t,a1,s1,Ev_succ ?_,hok,by omega,by omega⟩
  simp only [spec_l1Cur_disk.j1];exact Ev_bind0 e1 (Ev_t c0 (Ev.now _))
 by_cases c1 : r = 1
 ·obtain ⟨v,a2,s2,e2,k2,k3⟩:=among_ev l hw hl a1 s1 [(-1),1000000000,1000000001] (by omega) (by omega) (by simp)
  refine ⟨b,v,o,t,a2,s2,Ev_succ ?_,hok,by omega,by omega⟩
  simp only [spec_l1Cur_disk.j1];exact Ev_bind0 e1 (Ev_f c0 (Ev_t c1 (Ev_bind0 e2 (Ev.now _))))
 by_cases c2 : r = 2
 ·obtain ⟨v,a2,s2,e2,k2,k3⟩:=among_ev l hw hl a1 s1 [(-2),1000000,1000001] (by omega) (by omega) (by simp)
  refine ⟨b,w,o,v,a2,s2,Ev_succ ?_,hok,by omega,by omega⟩
  simp only [spec_l1Cur_disk.j1];exact Ev_bind0 e1 (Ev_f c0 (Ev_f c1 (Ev_t c2 (Ev_bind0 e2 (Ev.now _)))))
 by_cases c3 : r = 3
 ·have h3:=hz _ (getD_mem (xs:=b) (i:=3) [] (by omega))
  have e3 : rd_L1 b 3 = b.getD 3 []:=rd_L_nat b 3
  refine ⟨b.set 3 ((b.getD 3 []).take 127),w,o,t,a1,s1,Ev_succ ?_,⟨by simpa using hb.2,set_all (p:=fun p=>p.length ≤ 128∧by8 p) hok.2 3 _ ⟨by simp only [List.length_take];omega,by8_take h3.2 _⟩⟩,by omega,by omega⟩
  simp only [spec_l1Cur_disk.j1,e3];exact Ev_bind0 e1 (Ev_f c0 (Ev_f c1 (Ev_f c2 (Ev_t c3 (Ev_t (by omega) (Ev_t (by omega) (Ev.now _)))))))
 by_cases c4 : r = 4
 ·refine ⟨b.take 39,w,o,t,a1,s1,Ev_succ ?_,⟨by simp only [List.length_take];omega,fun p hp=>hok.2 p (List.mem_of_mem_take hp)⟩,by omega,by omega⟩
  simp only [spec_l1Cur_disk.j1];exact Ev_bind0 e1 (Ev_f c0 (Ev_f c1 (Ev_f c2 (Ev_f c3 (Ev_t c4 (Ev_t (by omega) (Ev.now _)))))))
 refine ⟨b,w,o,t,a1,s1,Ev_succ ?_,hok,by omega,by omega⟩
 simp only [spec_l1Cur_disk.j1];exact Ev_bind0 e1 (Ev_f c0 (Ev_f c1 (Ev_f c2 (Ev_f c3 (Ev_f c4 (Ev.now _))))))
theorem disk_loop (l : List Int) (hw : ∀ x ∈ l,0 ≤ x∧x ≤ 255) (hl : l.length ≤ 9223372036854775807) : ∀ (n : Nat) (a s : Int) (b : List (List Int)) (w : Int) (o : Bool) (t : Int),0 ≤ a → a + 16 * (n : Int) ≤ 600 → (40 ≤ b.length∧b.length ≤ 60) → (∀ p ∈ b,p.length = 128∧by8 p) →
  ∃ b' w' o' t' a' s',Ev (fun k=>spec_l1Cur_disk.l0 k (n : Int) l a s b w o t) (b',w',o',t',a',s')∧okB b'∧a ≤ a'∧a' ≤ a + 16 * (n : Int) + 20:=by
 intro n
 induction n with
 | zero =>
  intro a s b w o t h0 h1 hb hz
  obtain ⟨r,a1,s1,e1,g2,g3⟩:=one_ev l hw hl a s 4 h0 (by omega) (by omega)
  cases r with
  | true =>
   obtain ⟨v,a2,s2,e2,k0,k1,k2,k3⟩:=pick_ev l hw hl a1 s1 3 (by omega) (by omega) (by omega)
   obtain ⟨b',w',o',t',a',s',m0,m1,m2,m3⟩:=disk_end l hw hl a2 s2 b w o v (by omega) (by omega) hb hz
   refine ⟨b',w',o',t',a',s',Ev_succ ?_,m1,by omega,by omega⟩
   simp only [spec_l1Cur_disk.l0]
   exact Ev_f (by omega) (Ev_bind0 e1 (Ev_t rfl (Ev_bind0 e2 m0)))
  | false =>
   obtain ⟨b',w',o',t',a',s',m0,m1,m2,m3⟩:=disk_end l hw hl a1 s1 b w o t (by omega) (by omega) hb hz
   refine ⟨b',w',o',t',a',s',Ev_succ ?_,m1,by omega,by omega⟩
   simp only [spec_l1Cur_disk.l0]
   exact Ev_f (by omega) (Ev_bind0 e1 (Ev_f (by simp) m0))
 | succ n ih =>
  intro a s b w o t h0 h1 hb hz
  obtain ⟨r,a1,s1,e1,g0,g1,g2,g3⟩:=pick_ev l hw hl a s (b.length : Int) h0 (by omega) (by omega)
  obtain ⟨d,a2,s2,e2,k0,k1,k2,k3⟩:=block_ev l hw hl a1 s1 (by omega) (by omega)
  obtain ⟨q,b2,w2,o2,t2,e3,hb2⟩:=put_ev b w o t r d g0 g1 (by omega)
  have hz2 : ∀ p ∈ b2,p.length = 128∧by8 p:=by
   rcases hb2 with rfl|rfl
   ·exact hz
   ·exact set_all hz _ _ ⟨k0,k1⟩
  have hl2 : b2.length = b.length:=by rcases hb2 with rfl|rfl <;> simp
  obtain ⟨b',w',o',t',a',s',m0,m1,m2,m3⟩:=ih a2 s2 b2 w2 o2 t2 (by omega) (by omega) (by omega) hz2
  have e4 : wrap64 (((n + 1 : Nat) : Int) - 1) = (n : Int):=by rw [w64 (by omega) (by omega)];omega
  refine ⟨b',w',o',t',a',s',Ev_succ ?_,m1,by omega,by omega⟩
  simp only [spec_l1Cur_disk.l0,e4]
  exact Ev_t (by omega) (Ev_bind0 e1 (Ev.bind e2 (Ev_bind0 e3 m0)))
theorem disk_ev (l : List Int) (hw : ∀ x ∈ l,0 ≤ x∧x ≤ 255) (hl : l.length ≤ 9223372036854775807) (s : Int) : ∃ b w o t a' s',Ev (fun k=>spec_l1Cur_disk.f k l 0 s) (b,w,o,t,a',s')∧okB b∧0 ≤ a'∧a' ≤ 100:=by
 obtain ⟨r,a1,s1,e1,g0,g1,g2,g3⟩:=pick_ev l hw hl 0 s 4 (by omega) (by omega) (by omega)
 obtain ⟨n,rfl⟩:=Int.eq_ofNat_of_zero_le g0
 have e0 : wrap64 (40 + (n : Int)) = ((40 + n : Nat) : Int):=by rw [w64 (by omega) (by omega)];omega
 obtain ⟨r2,a2,s2,e2,k0,k1,k2,k3⟩:=pick_ev l hw hl a1 s1 4 (by omega) (by omega) (by omega)
 obtain ⟨m,rfl⟩:=Int.eq_ofNat_of_zero_le k0
 obtain ⟨b',w',o',t',a',s',m0,m1,m2,m3⟩:=disk_loop l hw hl m a2 s2 (List.replicate (40 + n) (List.replicate 128 0)) 0 true (-1) (by omega) (by omega) (by simp;omega) (fun p hp=>by rw [(List.mem_replicate.1 hp).2];exact ⟨by simp,by8_rep _⟩)
 refine ⟨b',w',o',t',a',s',?_,m1,by omega,by omega⟩
 simp only [spec_l1Cur_disk.f]
 refine Ev_bind0 e1 (Ev.bind (a:=(List.replicate (40 + n) (List.replicate 128 0),0,true,-1,true)) ?_ (Ev_bind0 e2 m0))
 simp only [e0]
 exact newDisk_ev (40 + n) (by omega) (by omega)
/-- A group as it is drawn. -/
def okG (g : List S40) : Prop:=g.length ≤ 30∧∀ p ∈ g,p.f1.length ≤ 128∧by8 p.f1
theorem setG {p : S40 → Prop} {g : List S40} (h : ∀ x ∈ g,p x) (i : Nat) (d : S40) (hd : p d) : ∀ x ∈ g.set i d,p x:=fun x hx=>by
 rcases List.mem_or_eq_of_mem_set hx with h1|rfl
 ·exact h x h1
 ·exact hd
theorem group_loop (l : List Int) (hw : ∀ x ∈ l,0 ≤ x∧x ≤ 255) (hl : l.length ≤ 9223372036854775807) : ∀ (n : Nat) (acc : List S40) (at_ a s : Int),0 < acc.length + n → acc.length + n ≤ 10 → (∀ p ∈ acc,p.f1.length = 128∧by8 p.f1) → 0 ≤ a → a + 14 * (n : Int) ≤ 700 →
  ∃ g a' s',Ev (fun k=>spec_l1Cur_group.l0 k acc (n : Int) at_ l a s) (g,a',s')∧okG g:=by
 intro n
 induction n with
 | zero =>
  intro acc at_ a s hp hn hz h0 h1
  have hok : okG acc:=⟨by omega,fun p hp=>⟨by have:=(hz p hp).1;omega,(hz p hp).2⟩⟩
  have hm:=hz _ (getD_mem (xs:=acc) (i:=0) z40 (by omega))
  have e3 : rd_T40 acc 0 = acc.getD 0 z40:=rd_T40_nat acc 0
  obtain ⟨r,a1,s1,e1,g0,g1,g2,g3⟩:=pick_ev l hw hl a s 30 h0 (by omega) (by omega)
  by_cases c0 : r = 0
  ·obtain ⟨v,a2,s2,e2,k2,k3⟩:=among_ev l hw hl a1 s1 [(-1),2,32,160,0] (by omega) (by omega) (by simp)
   refine ⟨acc.set 0 ⟨v,(acc.getD 0 z40).f1⟩,a2,s2,Ev_succ ?_,⟨by simp only [List.length_set];omega,setG (p:=fun p=>p.f1.length ≤ 128∧by8 p.f1) hok.2 0 _ ⟨by have:=hm.1;simp only;omega,hm.2⟩⟩⟩
   simp only [spec_l1Cur_group.l0,e3]
   exact Ev_f (by omega) (Ev_bind0 e1 (Ev_t c0 (Ev_bind0 e2 (Ev_t (by omega) (Ev.now _)))))
  by_cases c1 : r = 1
  ·refine ⟨acc.set 0 ⟨(acc.getD 0 z40).f0,(acc.getD 0 z40).f1.take 5⟩,a1,s1,Ev_succ ?_,⟨by simp only [List.length_set];omega,setG (p:=fun p=>p.f1.length ≤ 128∧by8 p.f1) hok.2 0 _ ⟨by simp only [List.length_take];omega,by8_take hm.2 _⟩⟩⟩
   simp only [spec_l1Cur_group.l0,e3]
   exact Ev_f (by omega) (Ev_bind0 e1 (Ev_f c0 (Ev_t c1 (Ev_t (by omega) (Ev_t (by have:=hm.1;omega) (Ev.now _))))))
  by_cases c2 : r = 2
  ·refine ⟨[],a1,s1,Ev_succ ?_,⟨by simp,by simp⟩⟩
   simp only [spec_l1Cur_group.l0]
   exact Ev_f (by omega) (Ev_bind0 e1 (Ev_f c0 (Ev_f c1 (Ev_t c2 (Ev.now _)))))
  refine ⟨acc,a1,s1,Ev_succ ?_,hok⟩
  simp only [spec_l1Cur_group.l0]
  exact Ev_f (by omega) (Ev_bind0 e1 (Ev_f c0 (Ev_f c1 (Ev_f c2 (Ev.now _)))))
 | succ n ih =>
  intro acc at_ a s hp hn hz h0 h1
  obtain ⟨d,a1,s1,e1,k0,k1,k2,k3⟩:=block_ev l hw hl a s (by omega) (by omega)
  have hz2 : ∀ p ∈ acc ++ [⟨at_,d⟩],p.f1.length = 128∧by8 p.f1:=fun p hp=>by
   rcases List.mem_append.1 hp with h|h
   ·exact hz p h
   ·rw [List.mem_singleton.1 h];exact ⟨k0,k1⟩
  have e4 : wrap64 (((n + 1 : Nat) : Int) - 1) = (n : Int):=by rw [w64 (by omega) (by omega)];omega
  by_cases c : wrap64 (at_ + 1) = 2
  ·obtain ⟨g,a',s',m0,m1⟩:=ih (acc ++ [⟨at_,d⟩]) 33 a1 s1 (by simp;omega) (by simp;omega) hz2 (by omega) (by omega)
   refine ⟨g,a',s',Ev_succ ?_,m1⟩
   simp only [spec_l1Cur_group.l0,e4]
   exact Ev_t (by omega) (Ev.bind e1 (Ev_t (by omega) (Ev_bind0 rfl (Ev_t c m0))))
  ·obtain ⟨g,a',s',m0,m1⟩:=ih (acc ++ [⟨at_,d⟩]) (wrap64 (at_ + 1)) a1 s1 (by simp;omega) (by simp;omega) hz2 (by omega) (by omega)
   refine ⟨g,a',s',Ev_succ ?_,m1⟩
   simp only [spec_l1Cur_group.l0,e4]
   exact Ev_t (by omega) (Ev.bind e1 (Ev_t (by omega) (Ev_bind0 rfl (Ev_f c m0))))
theorem group_ev (l : List Int) (hw : ∀ x ∈ l,0 ≤ x∧x ≤ 255) (hl : l.length ≤ 9223372036854775807) (a s : Int) (h0 : 0 ≤ a) (h1 : a ≤ 100) (b : List (List Int)) (w : Int) (o : Bool) (t : Int) : ∃ g a' s',Ev (fun k=>spec_l1Cur_group.f k l a s b w o t) (g,a',s')∧okG g:=by
 obtain ⟨r,a1,s1,e1,g0,g1,g2,g3⟩:=pick_ev l hw hl a s 5 h0 (by omega) (by omega)
 obtain ⟨n,rfl⟩:=Int.eq_ofNat_of_zero_le g0
 obtain ⟨v,a2,s2,e2,k2,k3⟩:=among_ev l hw hl a1 s1 [0,1,33] (by omega) (by omega) (by simp)
 obtain ⟨q,a3,s3,e3,m2,m3⟩:=one_ev l hw hl a2 s2 12 (by omega) (by omega) (by omega)
 cases q with
 | true =>
  obtain ⟨g,a',s',y0,y1⟩:=group_loop l hw hl 9 [] 33 a3 s3 (by simp) (by simp) (by simp) (by omega) (by omega)
  refine ⟨g,a',s',?_,y1⟩
  simp only [spec_l1Cur_group.f]
  refine Ev_bind0 e1 (Ev_bind0 e2 (Ev_bind0 e3 (Ev_t rfl (Ev_succ ?_))))
  simp only [spec_l1Cur_group.j0]
  exact y0
 | false =>
  obtain ⟨g,a',s',y0,y1⟩:=group_loop l hw hl (1 + n) [] v a3 s3 (by simp;omega) (by simp;omega) (by simp) (by omega) (by omega)
  have e4 : wrap64 (1 + (n : Int)) = ((1 + n : Nat) : Int):=by rw [w64 (by omega) (by omega)];omega
  refine ⟨g,a',s',?_,y1⟩
  simp only [spec_l1Cur_group.f]
  refine Ev_bind0 e1 (Ev_bind0 e2 (Ev_bind0 e3 (Ev_f (by simp) (Ev_succ ?_))))
  simp only [spec_l1Cur_group.j0,e4]
  exact y0
theorem draw_ev (l : List Int) (hw : ∀ x ∈ l,0 ≤ x∧x ≤ 255) (hl : l.length ≤ 9223372036854775807) : ∃ b w o t g,Ev (fun k=>spec_DrawGoodGroup.f k l) (b,w,o,t,g)∧okB b∧okG g:=by
 obtain ⟨b,w,o,t,a,s,e1,h1,g0,g1⟩:=disk_ev l hw hl 0
 obtain ⟨g,a',s',e2,h2⟩:=group_ev l hw hl a s g0 g1 b w o t
 refine ⟨b,w,o,t,g,?_,h1,h2⟩
 simp only [spec_DrawGoodGroup.f]
 exact Ev.bind e1 (Ev.bind e2 (Ev.now _))

def okAt (N at_ : Int) : Bool:=decide (at_ = 0 ∨ at_ = 1 ∨ (33 ≤ at_∧at_ ≤ N - 1))
def gB (N : Int) : Int → List S40 → Bool
 | _,[]=>true
 | q,p :: c=>okAt N p.f0 && (decide (p.f1.length = 128) && (decide (q < p.f0) && gB N p.f0 c))
def lastAt : Int → List S40 → Int
 | q,[]=>q
 | _,p :: c=>lastAt p.f0 c
theorem gB_rise (N : Int) : ∀ (c : List S40) (q : Int),gB N q c = true → q ≤ lastAt q c:=by
 intro c
 induction c with
 | nil=>intro q _;exact Int.le_refl _
 | cons p c ih =>
  intro q h
  simp only [gB,Bool.and_eq_true,decide_eq_true_eq] at h
  have:=ih p.f0 h.2.2.2
  simp only [lastAt];omega
theorem okAt_both (a N : Int) (h0 : 40 ≤ N) (h1 : N ≤ 160) : okAt N a = (okAt 160 a && decide (a ≤ N - 1)):=by
 rw [Bool.eq_iff_iff]
 simp only [okAt,Bool.and_eq_true,decide_eq_true_eq]
 omega
theorem gB_both (N : Int) (h0 : 40 ≤ N) (h1 : N ≤ 160) : ∀ (c : List S40) (q : Int),c ≠ [] → gB N q c = (gB 160 q c && decide (lastAt q c ≤ N - 1)):=by
 intro c
 induction c with
 | nil=>intro q h;exact absurd rfl h
 | cons p c ih =>
  intro q _
  simp only [gB,lastAt]
  rcases List.eq_nil_or_concat c with rfl|⟨c',x,rfl⟩
  ·simp only [gB,lastAt,Bool.and_true]
   rw [okAt_both p.f0 N h0 h1]
   generalize okAt 160 p.f0 = A
   generalize decide (p.f1.length = 128) = C
   generalize decide (q < p.f0) = D
   by_cases d : p.f0 ≤ N - 1
   ·simp only [d,decide_true];cases A <;> cases C <;> cases D <;> rfl
   ·simp only [d,decide_false];cases A <;> cases C <;> cases D <;> rfl
  ·have hne : c'.concat x ≠ []:=by simp
   rw [ih p.f0 hne]
   cases hg : gB 160 p.f0 (c'.concat x) with
   | false=>simp only [Bool.false_and,Bool.and_false]
   | true =>
    have hr:=gB_rise 160 _ _ hg
    by_cases d : lastAt p.f0 (c'.concat x) ≤ N - 1
    ·simp only [d,decide_true,Bool.and_true,Bool.true_and]
     have h3 : decide (p.f0 ≤ N - 1) = true:=by simp only [decide_eq_true_eq];omega
     rw [okAt_both p.f0 N h0 h1,h3,Bool.and_true]
    ·simp only [d,decide_false,Bool.and_false]
theorem l4At_eq (a N : Int) (h0 : 0 ≤ N) (h1 : N ≤ 1000) : spec_l4At.f a N = some (okAt N a):=by
 have e : wrap64 (N - 1) = N - 1:=w64 (by omega) (by omega)
 simp only [spec_l4At.f,l1In_eq,e,Option.bind_some,okAt]
 by_cases c0 : a = 0
 ·simp [c0]
 ·by_cases c1 : a = 1
  ·simp [c1]
  ·rw [if_neg c0,if_neg c1];simp [c0,c1]
theorem specGroup_loop (l : List S40) (N : Int) (h0 : 0 ≤ N) (h1 : N ≤ 1000) (hl : l.length ≤ 1048576) : ∀ (m i : Nat) (q : Int),i + m = l.length → (i = 0 → q = -1) → (0 < i → q = (rd_T40 l ((i : Int) - 1)).f0) →
  Ev (fun k=>spec_l4Group.l0 k l N l (l.length : Int) (i : Int)) (gB N q (l.drop i)):=by
 intro m
 induction m with
 | zero =>
  intro i q hi _ _
  refine Ev_succ ?_
  simp only [spec_l4Group.l0]
  rw [List.drop_of_length_le (by omega)]
  exact Ev_f (by omega) (Ev.now _)
 | succ m ih =>
  intro i q hi hq0 hq1
  have hd:=drop_cons l i z40 (by omega)
  have e1 : wrap64 ((i : Int) - 1) = (i : Int) - 1:=w64 (by omega) (by omega)
  have hrd:=rd_T40_nat l i
  have hI:=ih (i + 1) (rd_T40 l (i : Int)).f0 (by omega) (by omega) (fun _=>by congr 2;omega)
  rw [hd]
  rw [← hrd]
  simp only [gB]
  refine Ev_succ ?_
  simp only [spec_l4Group.l0,l4At_eq _ N h0 h1,Option.bind_some,e1]
  rw [w64_succ (show i < l.length by omega) (by omega)]
  generalize rd_T40 l (i : Int) = p at hI ⊢
  refine Ev_t (by omega) (Ev_t (by omega) (Ev_t (by omega) ?_))
  cases ha : okAt N p.f0 with
  | false=>exact Ev_f (by decide) (Ev_eq (Ev.now _) (by simp))
  | true =>
   have hp0 : 0 ≤ p.f0:=by simp only [okAt,decide_eq_true_eq] at ha;omega
   refine Ev_t rfl (Ev_ite (fun hlen=>?_) (fun hlen=>Ev_eq (Ev.now _) ?_))
   ·have hlen' : p.f1.length = 128:=by omega
    by_cases ci : i = 0
    ·have hq:=hq0 ci
     refine Ev_f (by omega) (Ev_eq hI ?_)
     have : q < p.f0:=by omega
     simp [hlen',this]
    ·have hq:=hq1 (by omega)
     refine Ev_t (by omega) (Ev_t (by omega) (Ev_t (by omega) (Ev_ite (fun hr=>Ev_eq (Ev.now _) ?_) (fun hr=>Ev_eq hI ?_))))
     ·have : ¬ q < p.f0:=by omega
      simp [this]
     ·have : q < p.f0:=by omega
      simp [hlen',this]
   ·have hlen' : ¬ p.f1.length = 128:=by omega
    simp [hlen']
theorem specGroup_ev (l : List S40) (N : Int) (h0 : 0 ≤ N) (h1 : N ≤ 1000) (hl : l.length ≤ 1048576) : Ev (fun k=>spec_l4Group.f k l N) (decide (1 ≤ l.length∧l.length ≤ 30) && gB N (-1) l):=by
 simp only [spec_l4Group.f,l1In_eq,Option.bind_some,decide_eq_true_eq]
 by_cases c : (1 : Int) ≤ (l.length : Int)∧(l.length : Int) ≤ 30
 ·have h:=specGroup_loop l N h0 h1 hl l.length 0 (-1) (by omega) (fun _=>rfl) (by omega)
  rw [List.drop_zero] at h
  have c' : 1 ≤ l.length∧l.length ≤ 30:=by omega
  exact Ev_t c (Ev_eq h (by simp [c']))
 ·have c' : ¬ (1 ≤ l.length∧l.length ≤ 30):=by omega
  exact Ev_f c (Ev_eq (Ev.now _) (by simp only [c',decide_false,Bool.false_and]))
theorem isGroup_loop (l : List S40) (hl : l.length ≤ 1048576) : ∀ (m i : Nat) (q : Int),i + m = l.length → (i = 0 → q = -1) → (0 < i → q = (rd_T40 l ((i : Int) - 1)).f0) →
  Ev (fun k=>impl_isGroup.l0 k l l (l.length : Int) (i : Int)) (gB 160 q (l.drop i) && decide (1 ≤ l.length∧l.length ≤ 30)):=by
 intro m
 induction m with
 | zero =>
  intro i q hi _ _
  refine Ev_succ ?_
  simp only [impl_isGroup.l0,within_eq,Option.bind_some]
  rw [List.drop_of_length_le (by omega)]
  refine Ev_f (by omega) (Ev_eq (Ev.now _) ?_)
  simp only [gB,Bool.true_and]
  congr 1;simp only [eq_iff_iff];omega
 | succ m ih =>
  intro i q hi hq0 hq1
  have hd:=drop_cons l i z40 (by omega)
  have e1 : wrap64 ((i : Int) - 1) = (i : Int) - 1:=w64 (by omega) (by omega)
  have hrd:=rd_T40_nat l i
  have hI:=ih (i + 1) (rd_T40 l (i : Int)).f0 (by omega) (by omega) (fun _=>by congr 2;omega)
  rw [hd]
  rw [← hrd]
  simp only [gB]
  refine Ev_succ ?_
  simp only [impl_isGroup.l0,e1]
  rw [w64_succ (show i < l.length by omega) (by omega)]
  generalize rd_T40 l (i : Int) = p at hI ⊢
  generalize hX : gB 160 p.f0 (l.drop (i + 1)) = X at hI ⊢
  have tailEv : Ev (fun k=>if i > 0 then (if 0 ≤ (i : Int) - 1 then (if (i : Int) - 1 < (l.length : Int) then (if p.f0 ≤ (rd_T40 l ((i : Int) - 1)).f0 then (some false) else (if (p.f1.length : Int) = 128 then (impl_isGroup.l0 k l l (l.length : Int) ((i + 1 : Nat) : Int)) else (some false))) else none) else none) else (if (p.f1.length : Int) = 128 then (impl_isGroup.l0 k l l (l.length : Int) ((i + 1 : Nat) : Int)) else (some false))) ((decide (p.f1.length = 128) && ((decide (q < p.f0) || decide (i = 0)) && X)) && decide (1 ≤ l.length∧l.length ≤ 30)):=by
   have hlast : ∀ b : Bool,b = true → Ev (fun k=>if (p.f1.length : Int) = 128 then (impl_isGroup.l0 k l l (l.length : Int) ((i + 1 : Nat) : Int)) else (some false)) ((decide (p.f1.length = 128) && (b && X)) && decide (1 ≤ l.length∧l.length ≤ 30)):=by
    intro b hb
    subst hb
    refine Ev_ite (fun hlen=>Ev_eq hI ?_) (fun hlen=>Ev_eq (Ev.now _) ?_)
    ·have hlen' : p.f1.length = 128:=by omega
     simp [hlen']
    ·have hlen' : ¬ p.f1.length = 128:=by omega
     simp [hlen']
   by_cases ci : i = 0
   ·exact Ev_f (by omega) (hlast _ (by simp [ci]))
   ·have hq:=hq1 (by omega)
    refine Ev_t (by omega) (Ev_t (by omega) (Ev_t (by omega) (Ev_ite (fun hr=>Ev_eq (Ev.now _) ?_) (fun hr=>hlast _ ?_))))
    ·have : ¬ q < p.f0:=by omega
     simp [this,ci]
    ·have : q < p.f0:=by omega
     simp [this]
  have tail2 : okAt 160 p.f0 = true → Ev (fun k=>if (i : Int) > 0 then (if 0 ≤ (i : Int) - 1 then (if (i : Int) - 1 < (l.length : Int) then (if p.f0 ≤ (rd_T40 l ((i : Int) - 1)).f0 then (some false) else (if (p.f1.length : Int) = 128 then (impl_isGroup.l0 k l l (l.length : Int) ((i + 1 : Nat) : Int)) else (some false))) else none) else none) else (if (p.f1.length : Int) = 128 then (impl_isGroup.l0 k l l (l.length : Int) ((i + 1 : Nat) : Int)) else (some false))) ((okAt 160 p.f0 && (decide (p.f1.length = 128) && (decide (q < p.f0) && X))) && decide (1 ≤ l.length∧l.length ≤ 30)):=by
   intro ha
   have hp0 : 0 ≤ p.f0:=by simp only [okAt,decide_eq_true_eq] at ha;omega
   refine Ev_eq (Ev.congr (fun k=>?_) tailEv) ?_
   ·have : ((i : Int) > 0) ↔ (i > 0):=by omega
    simp only [this]
   ·rw [ha,Bool.true_and]
    by_cases ci : i = 0
    ·have hq:=hq0 ci
     have : q < p.f0:=by omega
     simp [this]
    ·simp [ci]
  refine Ev_t (by omega) (Ev_t (by omega) (Ev_t (by omega) ?_))
  refine Ev_ite (fun c1=>Ev_eq (Ev.now _) ?_) (fun c1=>Ev_ite (fun c2=>Ev_eq (Ev.now _) ?_) (fun c2=>Ev_ite (fun c3=>Ev_ite (fun c4=>Ev_eq (Ev.now _) ?_) (fun c4=>?_)) (fun c3=>?_)))
  ·have : okAt 160 p.f0 = false:=by simp only [okAt,decide_eq_false_iff_not];omega
   simp [this]
  ·have : okAt 160 p.f0 = false:=by simp only [okAt,decide_eq_false_iff_not];omega
   simp [this]
  ·have : okAt 160 p.f0 = false:=by simp only [okAt,decide_eq_false_iff_not];omega
   simp [this]
  ·exact tail2 (by simp only [okAt,decide_eq_true_eq];omega)
  ·exact tail2 (by simp only [okAt,decide_eq_true_eq];omega)
theorem isGroup_ev (l : List S40) (hl : l.length ≤ 1048576) : Ev (fun k=>impl_isGroup.f k l) (gB 160 (-1) l && decide (1 ≤ l.length∧l.length ≤ 30)):=by
 have h:=isGroup_loop l hl l.length 0 (-1) (by omega) (fun _=>rfl) (by omega)
 rw [List.drop_zero] at h
 simp only [impl_isGroup.f]
 exact h
theorem lastAt_rd : ∀ (l : List S40) (q : Int),l ≠ [] → lastAt q l = (rd_T40 l ((l.length : Int) - 1)).f0:=by
 intro l
 induction l with
 | nil=>intro q h;exact absurd rfl h
 | cons p c ih =>
  intro q _
  cases c with
  | nil=>simp [lastAt,rd_T40]
  | cons p2 c2 =>
   rw [lastAt,ih p.f0 (by simp)]
   congr 1
   have e1 : (((p :: p2 :: c2).length : Nat) : Int) - 1 = (((p2 :: c2).length - 1 + 1 : Nat) : Int):=by simp
   have e2 : (((p2 :: c2).length : Nat) : Int) - 1 = (((p2 :: c2).length - 1 : Nat) : Int):=by simp
   rw [e1,e2,rd_T40_nat,rd_T40_nat]
   simp
def groupB (b : List (List Int)) (w t : Int) (l : List S40) : Bool:=diskB b w t && (decide (1 ≤ l.length∧l.length ≤ 30) && gB (b.length : Int) (-1) l)
theorem diskB_len {b : List (List Int)} {w t : Int} (h : diskB b w t = true) : 40 ≤ b.length∧b.length ≤ 160:=by
 simp only [diskB,blocksB,Bool.and_eq_true,decide_eq_true_eq] at h
 exact h.1.1
theorem implGoodGroup_ev (b : List (List Int)) (w : Int) (o : Bool) (t : Int) (l : List S40) (hb : b.length ≤ 1048576) (hl : l.length ≤ 1048576) : Ev (fun k=>impl_GoodGroup.f k b w o t l) (groupB b w t l):=by
 simp only [impl_GoodGroup.f]
 refine Ev.bind (implGoodDisk_ev b w o t hb) ?_
 cases hd : diskB b w t with
 | false=>exact Ev_f (by decide) (Ev_eq (Ev.now _) (by simp [groupB,hd]))
 | true =>
  have hN:=diskB_len hd
  refine Ev_t rfl (Ev.bind (isGroup_ev l hl) ?_)
  cases hg : gB 160 (-1) l && decide (1 ≤ l.length∧l.length ≤ 30) with
  | false =>
   refine Ev_f (by decide) (Ev_eq (Ev.now _) ?_)
   simp only [groupB,hd,Bool.true_and]
   by_cases c : 1 ≤ l.length∧l.length ≤ 30
   ·rw [gB_both (b.length : Int) (by omega) (by omega) l (-1) (by intro h;rw [h] at c;simp at c)]
    simp only [c,and_self,decide_true,Bool.and_true] at hg
    simp only [hg,Bool.false_and,Bool.and_false]
   ·simp only [c,decide_false,Bool.false_and]
  | true =>
   simp only [Bool.and_eq_true,decide_eq_true_eq] at hg
   have hne : l ≠ []:=by intro h;rw [h] at hg;simp at hg
   have e1 : wrap64 ((l.length : Int) - 1) = (l.length : Int) - 1:=w64 (by omega) (by omega)
   have e2 : wrap64 ((b.length : Int) - 1) = (b.length : Int) - 1:=w64 (by omega) (by omega)
   simp only [e1,impl_Disk_has.f,e2,within_eq,Option.bind_some]
   refine Ev_t trivial (Ev_t (by omega) (Ev_t (by omega) (Ev_eq (Ev.now _) ?_)))
   have hr:=gB_rise 160 _ _ hg.1
   rw [← lastAt_rd l (-1) hne]
   simp only [groupB,hd,Bool.true_and]
   rw [gB_both (b.length : Int) (by omega) (by omega) l (-1) hne,hg.1]
   simp only [hg.2,and_self,decide_true,Bool.true_and]
   congr 1
   have hpos : 0 ≤ lastAt (-1) l:=by
    cases l with
    | nil=>exact absurd rfl hne
    | cons p c =>
     have h2:=hg.1
     simp only [gB,Bool.and_eq_true,decide_eq_true_eq] at h2
     have:=gB_rise 160 _ _ h2.2.2.2
     simp only [lastAt];omega
   simp only [eq_iff_iff];omega

theorem specGoodGroup_ev (b : List (List Int)) (w : Int) (o : Bool) (t : Int) (l : List S40) (hb : b.length ≤ 1048576) (hl : l.length ≤ 1048576) : Ev (fun k=>spec_GoodGroup.f k b w o t l) (groupB b w t l):=by
 simp only [spec_GoodGroup.f]
 refine Ev.bind (specGoodDisk_ev b w o t hb) ?_
 cases hd : diskB b w t with
 | false=>exact Ev_f (by decide) (Ev_eq (Ev.now _) (by simp [groupB,hd]))
 | true =>
  have:=diskB_len hd
  exact Ev_t rfl (Ev.bind (specGroup_ev l (b.length : Int) (by omega) (by omega) hl) (Ev_eq (Ev.now _) (by simp only [groupB,hd,Bool.true_and])))

def dstep (h b : Int) : Int:=(Go.bits .xor .u32 h b * 16777619) % 4294967296
theorem digestI_loop (l : List Int) (hl : l.length ≤ 1048576) (hw : ∀ x ∈ l,0 ≤ x∧x ≤ 255) : ∀ (m i : Nat) (h : Int),i + m = l.length → Ev (fun k=>impl_digest.l0 k h l (l.length : Int) (i : Int)) ((l.drop i).foldl dstep h):=by
 intro m
 induction m with
 | zero =>
  intro i h hi
  refine Ev_succ ?_
  simp only [impl_digest.l0]
  rw [List.drop_of_length_le (by omega)]
  exact Ev_f (by omega) (Ev.now _)
 | succ m ih =>
  intro i h hi
  have hd:=drop_cons l i 0 (by omega)
  have hx:=hw _ (getD_mem (xs:=l) (i:=i) 0 (by omega))
  have e4 : l.getD i 0 % 4294967296 = l.getD i 0:=by omega
  refine Ev_succ ?_
  simp only [impl_digest.l0]
  rw [hd,List.foldl_cons]
  refine Ev_t (by omega) (Ev_t (by omega) (Ev_t (by omega) ?_))
  rw [w64_succ (show i < l.length by omega) (by omega)]
  simp only [rd_nat,e4]
  exact ih (i + 1) _ (by omega)
theorem digestI_ev (h : Int) (l : List Int) (hl : l.length ≤ 1048576) (hw : ∀ x ∈ l,0 ≤ x∧x ≤ 255) : Ev (fun k=>impl_digest.f k h l) (l.foldl dstep h):=by
 have:=digestI_loop l hl hw l.length 0 h (by omega)
 rw [List.drop_zero] at this
 simp only [impl_digest.f];exact this
def hb : List S40 → List Int
 | []=>[]
 | p :: c=>(p.f0 / 256) % 256 :: p.f0 % 256 :: hb c
def cat : List S40 → List Int
 | []=>[]
 | p :: c=>p.f1 ++ cat c
def goodW (p : S40) : Prop:=0 ≤ p.f0∧p.f0 ≤ 1000∧p.f1.length = 128∧∀ x ∈ p.f1,0 ≤ x∧x ≤ 255
theorem hb_ok : ∀ (l : List S40),(hb l).length = 2 * l.length∧∀ x ∈ hb l,0 ≤ x∧x ≤ 255:=by
 intro l
 induction l with
 | nil=>exact ⟨rfl,by simp [hb]⟩
 | cons p c ih =>
  refine ⟨by simp only [hb,List.length_cons,ih.1];omega,fun x hx=>?_⟩
  simp only [hb,List.mem_cons] at hx
  rcases hx with rfl|rfl|hx
  ·omega
  ·omega
  ·exact ih.2 x hx
theorem cat_ok : ∀ (l : List S40),(∀ p ∈ l,goodW p) → (cat l).length = 128 * l.length∧∀ x ∈ cat l,0 ≤ x∧x ≤ 255:=by
 intro l
 induction l with
 | nil=>intro _;exact ⟨rfl,by simp [cat]⟩
 | cons p c ih =>
  intro h
  obtain ⟨h1,h2⟩:=ih (fun q hq=>h q (by simp [hq]))
  have hp:=h p (by simp)
  refine ⟨by simp only [cat,List.length_append,List.length_cons,h1,hp.2.2.1];omega,fun x hx=>?_⟩
  rcases List.mem_append.1 hx with hx|hx
  ·exact hp.2.2.2 x hx
  ·exact h2 x hx
theorem hdrI_loop (l : List S40) (hl : l.length ≤ 100) (r : List Int) : ∀ (m i : Nat) (acc : List Int),i + m = l.length → acc.length + 2 * m ≤ 1000 →
  Ev (fun k=>impl_header.l0 k l (acc ++ hb (l.drop i)) l (l.length : Int) (l.length : Int)) r → Ev (fun k=>impl_header.l0 k l acc l (l.length : Int) (i : Int)) r:=by
 intro m
 induction m with
 | zero =>
  intro i acc hi _ h
  rw [List.drop_of_length_le (by omega)] at h
  simp only [hb,List.append_nil] at h
  rw [show i = l.length by omega]
  exact h
 | succ m ih =>
  intro i acc hi ha h
  have hd:=drop_cons l i z40 (by omega)
  have hrd:=rd_T40_nat l i
  rw [hd] at h
  generalize l.getD i z40 = p at hrd h
  refine Ev_succ ?_
  simp only [impl_header.l0,hrd,impl_two.f,Option.bind_some]
  rw [w64_succ (show i < l.length by omega) (by omega)]
  refine Ev_t (by omega) (Ev_t (by omega) (Ev_t (by omega) (Ev_t (by simp;omega) (ih (i + 1) _ (by omega) (by simp;omega) ?_))))
  simpa [hb] using h
def four (d : Int) : List Int:=[(d / 16777216) % 256,(d / 65536) % 256,(d / 256) % 256,d % 256]
theorem dataI_loop (l : List S40) (hl : l.length ≤ 100) (hg : ∀ p ∈ l,goodW p) (x3 : List Int) (h3 : x3.length ≤ 1000) : ∀ (m i : Nat) (d : Int),i + m = l.length →
  Ev (fun k=>impl_header.l1 k x3 d l (l.length : Int) (i : Int)) (x3 ++ four ((cat (l.drop i)).foldl dstep d)):=by
 intro m
 induction m with
 | zero =>
  intro i d hi
  rw [List.drop_of_length_le (by omega)]
  simp only [cat,List.foldl_nil]
  refine Ev_succ ?_
  simp only [impl_header.l1,impl_four.f,Option.bind_some]
  exact Ev_f (by omega) (Ev_t (by simp;omega) (Ev.now _))
 | succ m ih =>
  intro i d hi
  have hd:=drop_cons l i z40 (by omega)
  have hp:=hg _ (getD_mem (xs:=l) (i:=i) z40 (by omega))
  have hrd:=rd_T40_nat l i
  rw [hd]
  generalize l.getD i z40 = p at hp hrd
  obtain ⟨_,_,p2,p3⟩:=hp
  refine Ev_succ ?_
  simp only [impl_header.l1,hrd]
  rw [w64_succ (show i < l.length by omega) (by omega)]
  simp only [cat,List.foldl_append]
  exact Ev_t (by omega) (Ev_t (by omega) (Ev_t (by omega) (Ev.bind (digestI_ev d p.f1 (by omega) p3) (ih (i + 1) _ (by omega)))))
def hdr (l : List S40) : List Int:=([76,79,71,49,(l.length : Int) % 256] ++ hb l) ++ List.replicate (124 - (5 + 2 * l.length)) 0
theorem hdr_ok (l : List S40) (hl : l.length ≤ 30) : (hdr l).length = 124∧∀ x ∈ hdr l,0 ≤ x∧x ≤ 255:=by
 obtain ⟨h1,h2⟩:=hb_ok l
 refine ⟨by simp only [hdr,List.length_append,List.length_cons,List.length_nil,List.length_replicate,h1];omega,fun x hx=>?_⟩
 simp only [hdr,List.mem_append,List.mem_cons,List.not_mem_nil,or_false,List.mem_replicate] at hx
 rcases hx with ((rfl|rfl|rfl|rfl|rfl)|hx)|⟨_,rfl⟩
 ·omega
 ·omega
 ·omega
 ·omega
 ·omega
 ·exact h2 x hx
 ·omega
theorem four_ok (d : Int) : (four d).length = 4∧∀ x ∈ four d,0 ≤ x∧x ≤ 255:=by
 refine ⟨rfl,fun x hx=>?_⟩
 simp only [four,List.mem_cons,List.not_mem_nil,or_false] at hx
 rcases hx with rfl|rfl|rfl|rfl <;> omega
theorem gB_good (N : Int) (h1 : N ≤ 1000) : ∀ (c : List S40) (q : Int),gB N q c = true → (∀ p ∈ c,∀ x ∈ p.f1,0 ≤ x∧x ≤ 255) → ∀ p ∈ c,goodW p:=by
 intro c
 induction c with
 | nil=>intro q _ _ p hp;simp at hp
 | cons p c ih =>
  intro q h hw x hx
  simp only [gB,okAt,Bool.and_eq_true,decide_eq_true_eq] at h
  rcases List.mem_cons.1 hx with rfl|hx
  ·exact ⟨by omega,by omega,h.2.1,hw x (by simp)⟩
  ·exact ih p.f0 h.2.2.2 (fun y hy=>hw y (by simp [hy])) x hx
def numL (c : Int) : List S40 → List S40
 | []=>[]
 | p :: l=>⟨c,p.f1⟩ :: numL (c + 1) l
theorem numL_len : ∀ (l : List S40) (c : Int),(numL c l).length = l.length
 | [],_=>rfl
 | p :: l,c=>by simp only [numL,List.length_cons,numL_len l]
theorem numL_mem : ∀ (l : List S40) (c : Int) (q : S40),q ∈ numL c l → ∃ p ∈ l,q.f1 = p.f1
 | [],_,q,h=>by simp [numL] at h
 | p :: l,c,q,h=>by
  simp only [numL,List.mem_cons] at h
  rcases h with rfl|h
  ·exact ⟨p,by simp,rfl⟩
  ·obtain ⟨x,hx,e⟩:=numL_mem l (c + 1) q h
   exact ⟨x,by simp [hx],e⟩
def tailW (l : List S40) : List S40:=l ++ [⟨2,List.replicate 128 0⟩]
def planL (l : List S40) (R : List Int) : List S40:=(numL 3 l ++ [⟨2,R⟩]) ++ tailW l
theorem midW (pre : List S40) (p : S40) (l : List S40) : (pre ++ p :: l).getD pre.length z40 = p:=by simp
theorem clone_ev (l : List Int) (hl : l.length ≤ 1048576) : slices_Clone_byte_byte.f l = some l:=by
 simp only [slices_Clone_byte_byte.f,Option.bind_some]
 rw [if_pos (by simp;omega)];rfl
theorem implHome_ev (l : List S40) (hn : l.length ≤ 30) : ∀ (suf pre acc : List S40),l = pre ++ suf → (∀ p ∈ suf,p.f1.length = 128) → acc.length + suf.length ≤ 500 → Ev (fun k=>impl_home.l0 k acc l (l.length : Int) (pre.length : Int)) (acc ++ tailW suf):=by
 intro suf
 induction suf with
 | nil =>
  intro pre acc hl _ ha
  subst hl
  refine Ev_succ ?_
  simp only [impl_home.l0]
  exact Ev_f (by simp) (Ev_t (by omega) (Ev_t (by simp only [List.length_nil] at ha;omega) (Ev_eq (Ev.now _) (by simp [tailW]))))
 | cons p suf ih =>
  intro pre acc hl hp ha
  have hq:=hp p (by simp)
  simp only [List.length_cons] at ha
  have hlen : l.length = pre.length + suf.length + 1:=by rw [hl];simp;omega
  have e:=ih (pre ++ [p]) (acc ++ [⟨p.f0,p.f1⟩]) (by rw [hl];simp) (fun q hm=>hp q (by simp [hm])) (by simp;omega)
  have hg : l.getD pre.length z40 = p:=by rw [hl];exact midW _ _ _
  refine Ev_succ ?_
  simp only [impl_home.l0,rd_T40_nat,hg]
  rw [w64_succ (show pre.length < l.length by omega) (by omega)]
  simp only [List.length_append,List.length_singleton] at e
  exact Ev_t (by omega) (Ev_t (by omega) (Ev_t (by omega) (Ev_bind0 (clone_ev p.f1 (by omega)) (Ev_t (by omega) (Ev_eq e (by simp [tailW]))))))
theorem implPlan_ev (l : List S40) (R : List Int) (hn : l.length ≤ 30) (hz : ∀ p ∈ l,p.f1.length = 128) (hR : Ev (fun k=>impl_header.f k l) R) : ∀ (suf pre acc : List S40),l = pre ++ suf → (∀ p ∈ suf,p.f1.length = 128) → acc.length + suf.length ≤ 500 → Ev (fun k=>impl_plan.l0 k l acc l (l.length : Int) (pre.length : Int)) ((acc ++ numL (3 + (pre.length : Int)) suf ++ [⟨2,R⟩]) ++ tailW l):=by
 intro suf
 induction suf with
 | nil =>
  intro pre acc hl _ ha
  have hlen : l.length = pre.length:=by rw [hl];simp
  refine Ev_succ ?_
  simp only [impl_plan.l0,numL,List.append_nil,Option.bind_some]
  simp only [List.length_nil] at ha
  have e:=implHome_ev l hn l [] [] rfl hz (by simp;omega)
  have e2 : Ev (fun k=>impl_home.f k l) (tailW l):=by
   simp only [impl_home.f]
   exact Ev_eq e (by simp)
  exact Ev_f (by omega) (Ev.bind hR (Ev_t (by omega) (Ev.bind e2 (Ev_t (by simp [tailW];omega) (Ev.now _)))))
 | cons p suf ih =>
  intro pre acc hl hp ha
  have hq:=hp p (by simp)
  simp only [List.length_cons] at ha
  have hlen : l.length = pre.length + suf.length + 1:=by rw [hl];simp;omega
  have e:=ih (pre ++ [p]) (acc ++ [⟨3 + (pre.length : Int),p.f1⟩]) (by rw [hl];simp) (fun q hm=>hp q (by simp [hm])) (by simp;omega)
  have hg : l.getD pre.length z40 = p:=by rw [hl];exact midW _ _ _
  refine Ev_succ ?_
  simp only [impl_plan.l0,rd_T40_nat,hg]
  rw [w64_succ (show pre.length < l.length by omega) (by omega),w64 (n:=3 + (pre.length : Int)) (by omega) (by omega)]
  simp only [List.length_append,List.length_singleton] at e
  refine Ev_t (by omega) (Ev_t (by omega) (Ev_t (by omega) (Ev_bind0 (clone_ev p.f1 (by omega)) (Ev_t (by omega) (Ev_eq e ?_)))))
  simp [numL,Int.add_assoc]
theorem numL_at : ∀ (l : List S40) (c : Int) (q : S40),q ∈ numL c l → c ≤ q.f0∧q.f0 < c + (l.length : Int)
 | [],_,q,h=>by simp [numL] at h
 | p :: l,c,q,h=>by
  simp only [numL,List.mem_cons] at h
  rcases h with rfl|h
  ·simp only [List.length_cons];omega
  ·have:=numL_at l (c + 1) q h
   simp only [List.length_cons];omega
theorem gB_at (N : Int) : ∀ (c : List S40) (q : Int),gB N q c = true → ∀ p ∈ c,p.f0 = 0 ∨ p.f0 = 1 ∨ (33 ≤ p.f0∧p.f0 ≤ N - 1):=by
 intro c
 induction c with
 | nil=>intro q _ p hp;simp at hp
 | cons x c ih =>
  intro q h p hp
  simp only [gB,okAt,Bool.and_eq_true,decide_eq_true_eq] at h
  rcases List.mem_cons.1 hp with rfl|hp
  ·exact h.1
  ·exact ih x.f0 h.2.2.2 p hp
/-- A group's header. -/
def hdrR (l : List S40) : List Int:=hdr l ++ four ((hdr l ++ cat l).foldl dstep 2166136261)
theorem hdrR_ok (l : List S40) (hl : l.length ≤ 30) : (hdrR l).length = 128∧by8 (hdrR l):=by
 obtain ⟨k1,k2⟩:=hdr_ok l hl
 obtain ⟨f1,f2⟩:=four_ok ((hdr l ++ cat l).foldl dstep 2166136261)
 exact ⟨by simp only [hdrR,List.length_append,k1,f1],fun x hx=>(List.mem_append.1 hx).elim (k2 x) (f2 x)⟩
theorem header_ev (l : List S40) (hl : l.length ≤ 30) (hg : ∀ p ∈ l,goodW p) : Ev (fun k=>impl_header.f k l) (hdrR l):=by
 obtain ⟨k1,k2⟩:=hdr_ok l hl
 have hlen : ([76,79,71,49,(l.length : Int) % 256] ++ hb l).length = 5 + 2 * l.length:=by simp only [List.length_append,List.length_cons,List.length_nil,(hb_ok l).1];try omega
 have e1 : wrap64 (124 - ((5 + 2 * l.length : Nat) : Int)) = ((124 - (5 + 2 * l.length) : Nat) : Int):=by rw [w64 (by omega) (by omega)];omega
 simp only [impl_header.f]
 refine hdrI_loop l (by omega) _ l.length 0 _ (by omega) (by simp;omega) ?_
 rw [List.drop_zero]
 refine Ev_succ ?_
 simp only [impl_header.l0,impl_padded.f,hlen,e1,Int.toNat_natCast]
 refine Ev_f (by omega) (Ev.bind (a:=hdr l) (Ev_t (by omega) (Ev_t (by omega) (Ev.now _))) ?_)
 simp only [impl_DigestOf.f]
 refine Ev.bind (a:=(hdr l).foldl dstep 2166136261) (Ev.bind (digestI_ev _ _ (by omega) k2) (Ev.now _)) ?_
 have h:=dataI_loop l (by omega) hg (hdr l) (by omega) l.length 0 ((hdr l).foldl dstep 2166136261) (by omega)
 rw [List.drop_zero,← List.foldl_append] at h
 exact h
theorem hdrR_0 (l : List S40) : rd (hdrR l) 0 = 76:=rfl
theorem hdrR_4 (l : List S40) (hl : l.length ≤ 30) : rd (hdrR l) 4 = (l.length : Int):=by
 show (l.length : Int) % 256 = (l.length : Int)
 omega
theorem hb_at : ∀ (l : List S40) (i : Nat),i < l.length → (hb l).getD (2 * i) 0 = (l.getD i z40).f0 / 256 % 256∧(hb l).getD (2 * i + 1) 0 = (l.getD i z40).f0 % 256:=by
 intro l
 induction l with
 | nil=>intro i h;simp at h
 | cons p c ih =>
  intro i h
  cases i with
  | zero=>exact ⟨rfl,rfl⟩
  | succ i =>
   have:=ih i (by simpa using h)
   rw [show 2 * (i + 1) + 1 = (2 * i + 1) + 1 + 1 by omega,show 2 * (i + 1) = 2 * i + 1 + 1 by omega]
   simpa [hb] using this
theorem hdrR_at (l : List S40) (hl : l.length ≤ 30) (hg : ∀ p ∈ l,goodW p) (i : Nat) (h : i < l.length) : rd (hdrR l) ((5 + 2 * i : Nat) : Int) * 256 + rd (hdrR l) ((5 + 2 * i + 1 : Nat) : Int) = (l.getD i z40).f0:=by
 have hlen:=(hb_ok l).1
 obtain ⟨a,b⟩:=hb_at l i h
 have hp:=hg _ (getD_mem (xs:=l) (i:=i) z40 h)
 have e (j : Nat) (hj : j < 2 * l.length) : rd (hdrR l) ((5 + j : Nat) : Int) = (hb l).getD j 0:=by
  rw [rd_nat]
  simp only [hdrR,hdr,List.getD_eq_getElem?_getD,List.append_assoc]
  rw [List.getElem?_append_right (by simp),List.getElem?_append_left (by simp;omega)]
  congr 2
  simp
 rw [show 5 + 2 * i + 1 = 5 + (2 * i + 1) by omega,e (2 * i) (by omega),e (2 * i + 1) (by omega),a,b]
 obtain ⟨p0,p1,_,_⟩:=hp
 omega

def putB (l : List (List Int)) (w : Int) (o : Bool) (t a : Int) (d : List Int) : Bool × List (List Int) × Int × Bool × Int :=
 if t = 0 then (false,l,w,false,t) else (true,l.set a.toNat d,wrap64 (w + 1),o,if t > 0 then wrap64 (t - 1) else t)
theorem implPut_val (l : List (List Int)) (w : Int) (o : Bool) (t a : Int) (d : List Int) (h0 : 0 ≤ a) (h1 : a < (l.length : Int)) (hd : d.length ≤ 1048576) : impl_Disk_write.f l w o t a d = some (putB l w o t a d):=by
 simp only [impl_Disk_write.f,putB]
 by_cases c : t = 0
 ·rw [if_pos c,if_pos c]
 ·rw [if_neg c,if_neg c,clone_ev d hd]
  simp only [Option.bind_some]
  rw [if_pos h0,if_pos h1]
  by_cases c2 : t > 0
  ·rw [if_pos c2,if_pos c2]
  ·rw [if_neg c2,if_neg c2]
def runP : List S40 → List (List Int) → Int → Int → Bool × List (List Int) × Int × Bool × Int
 | [],l,w,t=>(true,l,w,true,t)
 | p :: r,l,w,t=>if (putB l w true t p.f0 p.f1).1 = true then runP r (putB l w true t p.f0 p.f1).2.1 (putB l w true t p.f0 p.f1).2.2.1 (putB l w true t p.f0 p.f1).2.2.2.2 else putB l w true t p.f0 p.f1
def fitW (N : Nat) (p : S40) : Prop:=0 ≤ p.f0∧p.f0 < (N : Int)∧p.f1.length ≤ 1000
theorem putB_len (l : List (List Int)) (w : Int) (o : Bool) (t a : Int) (d : List Int) : (putB l w o t a d).2.1.length = l.length:=by
 unfold putB
 split
 ·rfl
 ·simp
theorem putB_on (l : List (List Int)) (w : Int) (t a : Int) (d : List Int) (h : (putB l w true t a d).1 = true) : (putB l w true t a d).2.2.2.1 = true:=by
 unfold putB at *
 split at h
 ·cases h
 ·rename_i c;rw [if_neg c]
theorem implRun_ev (x : List S40) (hx : x.length ≤ 1000) : ∀ (suf pre : List S40) (l : List (List Int)) (w t : Int),x = pre ++ suf → (∀ p ∈ suf,fitW l.length p) →
  Ev (fun k=>impl_Disk_writeAll.l0 k x (x.length : Int) (pre.length : Int) l w true t) (if (runP suf l w t).1 = true then 0 else 2,(runP suf l w t).2):=by
 intro suf
 induction suf with
 | nil =>
  intro pre l w t e _
  refine Ev_succ ?_
  simp only [impl_Disk_writeAll.l0,runP]
  exact Ev_f (by rw [e];simp) (Ev.now _)
 | cons p r ih =>
  intro pre l w t e hf
  have hp:=hf p (by simp)
  have hlen : x.length = pre.length + (r.length + 1):=by rw [e];simp
  have g : rd_T40 x (pre.length : Int) = p:=by rw [rd_T40_nat,e];simp [List.getD]
  have wl : wrap64 ((pre.length : Int) + 1) = ((pre ++ [p]).length : Int):=by rw [w64 (by omega) (by omega)];simp
  have P:=implPut_val l w true t p.f0 p.f1 hp.1 hp.2.1 (by have:=hp.2.2;omega)
  have I:=ih (pre ++ [p]) (putB l w true t p.f0 p.f1).2.1 (putB l w true t p.f0 p.f1).2.2.1 (putB l w true t p.f0 p.f1).2.2.2.2 (by rw [e];simp) (fun q hq=>by rw [putB_len];exact hf q (by simp [hq]))
  have ho:=putB_on l w t p.f0 p.f1
  refine Ev_succ ?_
  simp only [impl_Disk_writeAll.l0,g,wl,runP]
  refine Ev_t (by omega) (Ev_t (by omega) (Ev_t (by omega) (Ev_bind0 P ?_)))
  refine Ev_ite (fun h=>?_) (fun h=>Ev_eq (Ev.now _) (by simp only [if_neg h]))
  simp only [if_pos h]
  rw [ho h]
  exact I
theorem copyBlocks_ev (l : List (List Int)) (hl : l.length ≤ 1048576) (hz : ∀ p ∈ l,p.length ≤ 1048576) : Ev (fun k=>impl_copyBlocks.f k l) l:=by
 have key : ∀ (m i : Nat),i + m = l.length → Ev (fun k=>impl_copyBlocks.l0 k (l.take i) l (l.length : Int) (i : Int)) l:=by
  intro m
  induction m with
  | zero=>intro i hi;refine Ev_succ ?_;simp only [impl_copyBlocks.l0];exact Ev_f (by omega) (Ev_eq (Ev.now _) (by rw [List.take_of_length_le (by omega)]))
  | succ m ih =>
   intro i hi
   have hm:=hz _ (getD_mem (xs:=l) (i:=i) [] (by omega))
   refine Ev_succ ?_
   simp only [impl_copyBlocks.l0,rd_L_nat]
   rw [w64_succ (show i < l.length by omega) (by omega)]
   have e:=ih (i + 1) (by omega)
   rw [take_getD_succ l i [] (by omega)] at e
   exact Ev_t (by omega) (Ev_t (by omega) (Ev_t (by omega) (Ev_bind0 (clone_ev _ hm) (Ev_t (by simp only [List.length_take];omega) e))))
 have h:=key l.length 0 (by omega)
 simp only [impl_copyBlocks.f]
 exact h
theorem copied_ev (l : List (List Int)) (w : Int) (o : Bool) (t : Int) (hl : l.length ≤ 1048576) (hz : ∀ p ∈ l,p.length ≤ 1048576) : Ev (fun k=>impl_Disk_copied.f k l w o t) (l,w,o,t):=by
 simp only [impl_Disk_copied.f]
 exact Ev.bind (copyBlocks_ev l hl hz) (Ev.now _)
theorem equal_loop (x y : List Int) (hl : x.length ≤ 1048576) (he : x.length = y.length) : ∀ (m i : Nat),i + m = x.length → Ev (fun k=>slices_Equal_byte_byte.l0 k x y (x.length : Int) (i : Int)) (decide (x.drop i = y.drop i)):=by
 intro m
 induction m with
 | zero =>
  intro i hi
  refine Ev_succ ?_
  simp only [slices_Equal_byte_byte.l0]
  rw [List.drop_of_length_le (by omega),List.drop_of_length_le (by omega)]
  exact Ev_f (by omega) (Ev_eq (Ev.now _) (by simp))
 | succ m ih =>
  intro i hi
  have d1:=drop_cons x i 0 (by omega)
  have d2:=drop_cons y i 0 (by omega)
  refine Ev_succ ?_
  simp only [slices_Equal_byte_byte.l0,rd_nat]
  rw [d1,d2,w64_succ (show i < x.length by omega) (by omega)]
  refine Ev_t (by omega) (Ev_t (by omega) (Ev_t (by omega) (Ev_t (by omega) (Ev_ite (fun h=>Ev_eq (ih (i + 1) (by omega)) ?_) (fun h=>Ev_eq (Ev.now _) ?_)))))
  ·rw [h];simp
  ·simp only [List.cons.injEq,h,false_and,decide_false]
theorem equal_ev (x y : List Int) (hl : x.length ≤ 1048576) : Ev (fun k=>slices_Equal_byte_byte.f k x y) (decide (x = y)):=by
 simp only [slices_Equal_byte_byte.f]
 by_cases he : x.length = y.length
 ·refine Ev_t (by omega) (Ev_eq (equal_loop x y hl he x.length 0 (by omega)) (by simp))
 ·refine Ev_f (by omega) (Ev_eq (Ev.now _) ?_)
  have : ¬ x = y:=fun h=>he (by rw [h])
  simp [this]
theorem str_inj {x y : List Int} (hx : ∀ z ∈ x,0 ≤ z∧z ≤ 255) (hy : ∀ z ∈ y,0 ≤ z∧z ≤ 255) : (strOfNums x).toList = (strOfNums y).toList ↔ x = y:=by
 constructor
 ·intro h
  rw [ByteArray.toList_eq,ByteArray.toList_eq,strOfNums_data,strOfNums_data] at h
  have key : ∀ (x y : List Int),(∀ z ∈ x,0 ≤ z∧z ≤ 255) → (∀ z ∈ y,0 ≤ z∧z ≤ 255) → x.map (fun n=>UInt8.ofNat n.toNat) = y.map (fun n=>UInt8.ofNat n.toNat) → x = y:=by
   intro x
   induction x with
   | nil=>intro y _ _ h;cases y with
    | nil=>rfl
    | cons b y=>simp at h
   | cons a x ih =>
    intro y hx hy h
    cases y with
    | nil=>simp at h
    | cons b y =>
     simp only [List.map_cons,List.cons.injEq] at h
     have ha:=hx a (by simp)
     have hb:=hy b (by simp)
     have h1 : (UInt8.ofNat a.toNat).toNat = (UInt8.ofNat b.toNat).toNat:=by rw [h.1]
     rw [UInt8.toNat_ofNat',UInt8.toNat_ofNat'] at h1
     have h2 : a = b:=by omega
     rw [h2,ih y (fun z hz=>hx z (by simp [hz])) (fun z hz=>hy z (by simp [hz])) h.2]
  exact key x y hx hy h
 ·intro h;rw [h]
theorem or8 {x y : Int} (hx : 0 ≤ x) (hx' : x ≤ 255) (hy : 0 ≤ y) (hy' : y ≤ 255) : Go.bits .or .i64 (x * 256) y = x * 256 + y :=
 Go.bits_join .i64 62 (by decide) (fun n h0 h1=>by have : n < 4611686018427387904:=h1;exact (IntKind.wrap_i64 n).trans (by omega)) 8 (x * 256) y (by omega) (by omega) (by show x * 256 < 4611686018427387904;omega) hy (by show y < 256;omega) (by show y < 4611686018427387904;omega)
theorem rd_byte {l : List Int} (hw : ∀ x ∈ l,0 ≤ x∧x ≤ 255) (i : Nat) : 0 ≤ rd l (i : Int)∧rd l (i : Int) ≤ 255:=by
 rw [rd_nat]
 by_cases h : i < l.length
 ·exact hw _ (getD_mem 0 h)
 ·rw [List.getD_eq_getElem?_getD,List.getElem?_eq_none (by omega)];simp
theorem numberAt_val {l : List Int} (hw : ∀ x ∈ l,0 ≤ x∧x ≤ 255) (hl : l.length = 128) (i : Nat) (hi : i + 1 < 128) : impl_numberAt.f l (i : Int) = some (rd l (i : Int) * 256 + rd l ((i + 1 : Nat) : Int)):=by
 have h1:=rd_byte hw i
 have h2:=rd_byte hw (i + 1)
 have e1 : wrap64 ((i : Int) + 1) = ((i + 1 : Nat) : Int):=by rw [w64 (by omega) (by omega)];omega
 simp only [impl_numberAt.f,e1]
 rw [if_pos (by omega),if_pos (by omega),if_pos (by omega),if_pos (by omega)]
 rw [w64 (n:=rd l (i : Int)) (by omega) (by omega),w64 (n:=rd l (i : Int) * 256) (by omega) (by omega),w64 (n:=rd l ((i + 1 : Nat) : Int)) (by omega) (by omega),or8 h1.1 h1.2 h2.1 h2.2]

theorem wait_idx (i : Nat) (h : i < 30) : wrap64 (5 + wrap64 (2 * (i : Int))) = ((5 + 2 * i : Nat) : Int)∧wrap64 (6 + wrap64 (2 * (i : Int))) = ((5 + 2 * i + 1 : Nat) : Int)∧wrap64 (3 + (i : Int)) = ((3 + i : Nat) : Int):=by
 have e : wrap64 (2 * (i : Int)) = 2 * (i : Int):=w64 (by omega) (by omega)
 rw [e]
 refine ⟨?_,?_,?_⟩
 ·rw [w64 (by omega) (by omega)];omega
 ·rw [w64 (by omega) (by omega)];omega
 ·rw [w64 (by omega) (by omega)];omega
def okW (p : S40) : Prop:=p.f1.length = 128∧∀ x ∈ p.f1,0 ≤ x∧x ≤ 255
theorem gB_okW (N : Int) (h1 : N ≤ 1000) : ∀ (c : List S40) (q : Int),gB N q c = true → (∀ p ∈ c,okW p) → ∀ p ∈ c,goodW p:=by
 intro c
 induction c with
 | nil=>intro q _ _ p hp;simp at hp
 | cons p c ih =>
  intro q h hw x hx
  simp only [gB,okAt,Bool.and_eq_true,decide_eq_true_eq] at h
  rcases List.mem_cons.1 hx with rfl|hx
  ·have:=hw x (by simp)
   exact ⟨by omega,by omega,this.1,this.2⟩
  ·exact ih p.f0 h.2.2.2 (fun y hy=>hw y (by simp [hy])) x hx
theorem blocks_len {b : List (List Int)} {w t : Int} (h : diskB b w t = true) : ∀ p ∈ b,p.length = 128:=by
 simp only [diskB,blocksB,Bool.and_eq_true,decide_eq_true_eq,List.all_eq_true] at h
 exact h.1.2
def wrow (b : List (List Int)) (x : List Int) (i : Nat) : S40:=⟨rd x ((5 + 2 * i : Nat) : Int) * 256 + rd x ((5 + 2 * i + 1 : Nat) : Int),b.getD (3 + i) []⟩
def waitA (b : List (List Int)) (x : List Int) (n : Nat) : List S40:=(List.range n).map (wrow b x)
theorem waitA_succ (b : List (List Int)) (x : List Int) (n : Nat) : waitA b x (n + 1) = waitA b x n ++ [wrow b x n]:=by simp [waitA,List.range_succ]
theorem waitA_len (b : List (List Int)) (x : List Int) (n : Nat) : (waitA b x n).length = n:=by simp [waitA]
def ansA (b : List (List Int)) (w t : Int) (x : List Int) (n : Nat) : List S40:=if groupB b w t (waitA b x n) = true∧hdrR (waitA b x n) = x then waitA b x n else []
theorem waitA_ok {b : List (List Int)} (hz : ∀ p ∈ b,p.length = 128) (hy : ∀ p ∈ b,by8 p) (x : List Int) (n : Nat) (hn : 3 + n ≤ b.length) : ∀ p ∈ waitA b x n,okW p:=by
 intro p hp
 obtain ⟨i,hi,rfl⟩:=List.mem_map.1 hp
 have hi':=List.mem_range.1 hi
 have hm:=getD_mem (xs:=b) (i:=3 + i) [] (by omega)
 exact ⟨hz _ hm,hy _ hm⟩
theorem waits_loop (b : List (List Int)) (w : Int) (o : Bool) (t : Int) (hd : diskB b w t = true) (hy : ∀ p ∈ b,by8 p) (x : List Int) (h3 : x.length = 128) (hw : by8 x) (n : Nat) (hn : 1 ≤ n∧n ≤ 30) : ∀ (m i : Nat),i + m = n →
  Ev (fun k=>impl_Disk_waiting.l0 k x (waitA b x i) (n : Int) (i : Int) b w o t) (ansA b w t x n):=by
 have hN:=diskB_len hd
 have hz:=blocks_len hd
 intro m
 induction m with
 | zero =>
  intro i hi
  obtain rfl : i = n:=by omega
  have hlen:=waitA_len b x i
  have hok:=waitA_ok hz hy x i (by omega)
  unfold ansA
  generalize waitA b x i = acc at hlen hok ⊢
  have hg2:=implGoodGroup_ev b w o t acc (by omega) (by omega)
  refine Ev_succ ?_
  simp only [impl_Disk_waiting.l0]
  refine Ev_f (by omega) (Ev.bind hg2 ?_)
  by_cases hG : groupB b w t acc = true
  ·have hG2:=hG
   simp only [groupB,Bool.and_eq_true,decide_eq_true_eq] at hG2
   have v:=header_ev acc (by omega) (gB_okW (b.length : Int) (by omega) acc (-1) hG2.2.2 hok)
   have he:=equal_ev (hdrR acc) x (by rw [(hdrR_ok acc (by omega)).1];omega)
   refine Ev_t hG (Ev.bind v (Ev.bind he (Ev_ite (fun h=>Ev_eq (Ev.now _) ?_) (fun h=>Ev_eq (Ev.now _) ?_))))
   ·rw [if_pos ⟨hG,by simpa using h⟩]
   ·rw [if_neg (fun h2=>h (by simpa using h2.2))]
  ·exact Ev_f hG (Ev_eq (Ev.now _) (by rw [if_neg (fun h2=>hG h2.1)]))
 | succ m ih =>
  intro i hi
  obtain ⟨e1,_,e3⟩:=wait_idx i (by omega)
  have hv:=numberAt_val hw h3 (5 + 2 * i) (by omega)
  have I:=ih (i + 1) (by omega)
  rw [waitA_succ] at I
  have hlen:=waitA_len b x i
  refine Ev_succ ?_
  simp only [impl_Disk_waiting.l0,e1,e3,hv,Option.bind_some,rd_L_nat]
  rw [w64_succ (show i < n by omega) (by omega)]
  exact Ev_t (by omega) (Ev_t (by omega) (Ev_t (by omega) (Ev_t (by omega) I)))
theorem waiting_ev (b : List (List Int)) (w : Int) (o : Bool) (t : Int) (hd : diskB b w t = true) (hy : ∀ p ∈ b,by8 p) : Ev (fun k=>impl_Disk_waiting.f k b w o t) (if 1 ≤ rd (b.getD 2 []) 4∧rd (b.getD 2 []) 4 ≤ 30 then ansA b w t (b.getD 2 []) (rd (b.getD 2 []) 4).toNat else []):=by
 have hN:=diskB_len hd
 have hm:=getD_mem (xs:=b) (i:=2) [] (by omega)
 have h2 : rd_L1 b 2 = b.getD 2 []:=rd_L_nat b 2
 have h3:=blocks_len hd _ hm
 have hw:=hy _ hm
 generalize b.getD 2 [] = x at h2 h3 hw
 have b4 : 0 ≤ rd x 4∧rd x 4 ≤ 255:=rd_byte hw 4
 have e4 : wrap64 (rd x 4) = rd x 4:=w64 (by omega) (by omega)
 simp only [impl_Disk_waiting.f,h2,e4,within_eq,Option.bind_some,decide_eq_true_eq]
 refine Ev_t (by omega) (Ev_t (by omega) ?_)
 by_cases c : 1 ≤ rd x 4∧rd x 4 ≤ 30
 ·obtain ⟨n,hn⟩ : ∃ n : Nat,rd x 4 = (n : Int):=⟨(rd x 4).toNat,by omega⟩
  rw [hn] at c ⊢
  rw [if_pos c]
  exact Ev_t c (waits_loop b w o t hd hy x h3 hw n (by omega) n 0 (by omega))
 ·rw [if_neg c]
  exact Ev_f c (Ev.now _)
theorem waiting_no (b : List (List Int)) (w : Int) (o : Bool) (t : Int) (hd : diskB b w t = true) (hy : ∀ p ∈ b,by8 p) (h : rd (b.getD 2 []) 0 ≠ 76) : Ev (fun k=>impl_Disk_waiting.f k b w o t) []:=by
 refine Ev_eq (waiting_ev b w o t hd hy) ?_
 split
 ·unfold ansA
  rw [if_neg]
  intro h2
  rw [← h2.2] at h
  exact h (hdrR_0 _)
 ·rfl
theorem waiting_yes (b : List (List Int)) (w : Int) (o : Bool) (t : Int) (hd : diskB b w t = true) (hy : ∀ p ∈ b,by8 p) (g : List S40) (hg : groupB b w t g = true) (h8 : ∀ p ∈ g,by8 p.f1) (h2 : b.getD 2 [] = hdrR g) (h3 : ∀ i,i < g.length → b.getD (3 + i) [] = (g.getD i z40).f1) : Ev (fun k=>impl_Disk_waiting.f k b w o t) g:=by
 have hG:=hg
 simp only [groupB,Bool.and_eq_true,decide_eq_true_eq] at hG
 have hN:=diskB_len hd
 have hgw:=gB_good (b.length : Int) (by omega) g (-1) hG.2.2 h8
 have e4:=hdrR_4 g hG.2.1.2
 refine Ev_eq (waiting_ev b w o t hd hy) ?_
 rw [h2,e4,if_pos (by omega),Int.toNat_natCast]
 have hA : waitA b (hdrR g) g.length = g:=by
  apply List.ext_getElem (waitA_len _ _ _)
  intro i h5 h6
  have e1:=hdrR_at g hG.2.1.2 hgw i h6
  have e2:=h3 i h6
  have e3 : g.getD i z40 = g[i]:=by simp [List.getD,h6]
  rw [e3] at e1 e2
  simp only [waitA,List.getElem_map,List.getElem_range,wrow,e1,e2]
 unfold ansA
 rw [hA,if_pos ⟨hg,rfl⟩]

/-- A disk behind writes. -/
def app (r : List S40) (l : List (List Int)) : List (List Int):=r.foldl (fun l p=>l.set p.f0.toNat p.f1) l
theorem app_nil (l : List (List Int)) : app [] l = l:=rfl
theorem app_cons (p : S40) (r : List S40) (l : List (List Int)) : app (p :: r) l = app r (l.set p.f0.toNat p.f1):=rfl
theorem app_append (r s : List S40) (l : List (List Int)) : app (r ++ s) l = app s (app r l):=by simp [app,List.foldl_append]
theorem app_len : ∀ (r : List S40) (l : List (List Int)),(app r l).length = l.length:=by
 intro r
 induction r with
 | nil=>intro l;rfl
 | cons p r ih=>intro l;rw [app_cons,ih];simp
theorem app_all {q : List Int → Prop} : ∀ (r : List S40) (l : List (List Int)),(∀ p ∈ r,q p.f1) → (∀ x ∈ l,q x) → ∀ x ∈ app r l,q x:=by
 intro r
 induction r with
 | nil=>intro l _ h;exact h
 | cons p r ih=>intro l hr h;rw [app_cons];exact ih _ (fun z hz=>hr z (by simp [hz])) (set_all h _ _ (hr p (by simp)))
/-- What the block at j is behind writes. -/
def wantF (r : List S40) (j : Nat) (x : List Int) : List Int:=r.foldl (fun x p=>if p.f0 = (j : Int) then p.f1 else x) x
theorem wantF_cons (p : S40) (r : List S40) (j : Nat) (x : List Int) : wantF (p :: r) j x = wantF r j (if p.f0 = (j : Int) then p.f1 else x):=rfl
theorem wantF_append (r s : List S40) (j : Nat) (x : List Int) : wantF (r ++ s) j x = wantF s j (wantF r j x):=by simp [wantF,List.foldl_append]
theorem app_at : ∀ (r : List S40) (l : List (List Int)) (j : Nat),j < l.length → (∀ p ∈ r,0 ≤ p.f0) → (app r l).getD j [] = wantF r j (l.getD j []):=by
 intro r
 induction r with
 | nil=>intro l j _ _;rfl
 | cons p r ih =>
  intro l j hj h0
  have hp:=h0 p (by simp)
  rw [app_cons,wantF_cons,ih _ j (by simpa using hj) (fun z hz=>h0 z (by simp [hz]))]
  congr 1
  simp only [List.getD_eq_getElem?_getD,List.getElem?_set]
  by_cases c : p.f0 = (j : Int)
  ·rw [if_pos c,if_pos (by omega),if_pos (by omega)];rfl
  ·rw [if_neg c,if_neg (by omega)]
theorem wantF_none : ∀ (r : List S40) (j : Nat) (x : List Int),(∀ p ∈ r,p.f0 ≠ (j : Int)) → wantF r j x = x:=by
 intro r
 induction r with
 | nil=>intro j x _;rfl
 | cons p r ih=>intro j x h;rw [wantF_cons,if_neg (h p (by simp))];exact ih j x (fun z hz=>h z (by simp [hz]))
theorem wantF_two : ∀ (r : List S40) (j : Nat),(∀ x,wantF r j x = x) ∨ ∃ c,∀ x,wantF r j x = c:=by
 intro r
 induction r with
 | nil=>intro j;exact .inl (fun _=>rfl)
 | cons p r ih =>
  intro j
  rcases ih j with h|⟨c,h⟩
  ·by_cases e : p.f0 = (j : Int)
   ·exact .inr ⟨p.f1,fun x=>by rw [wantF_cons,if_pos e,h]⟩
   ·exact .inl (fun x=>by rw [wantF_cons,if_neg e,h])
  ·exact .inr ⟨c,fun x=>by rw [wantF_cons,h]⟩
theorem wantF_idem (r : List S40) (j : Nat) (x : List Int) : wantF r j (wantF r j x) = wantF r j x:=by
 rcases wantF_two r j with h|⟨c,h⟩
 ·rw [h,h]
 ·rw [h,h]
theorem wantF_half (r : List S40) (n j : Nat) (x : List Int) : wantF r j (wantF (r.take n) j x) = wantF r j x:=by
 have e : r = r.take n ++ r.drop n:=(List.take_append_drop n r).symm
 rw [show wantF r j (wantF (r.take n) j x) = wantF (r.take n ++ r.drop n) j (wantF (r.take n) j x) by rw [← e],wantF_append,wantF_idem,← wantF_append,← e]
/-- Writes, as the program counts them. -/
theorem runP_go (p : S40) (r : List S40) (l : List (List Int)) (w t : Int) (h : t ≠ 0) : runP (p :: r) l w t = runP r (l.set p.f0.toNat p.f1) (wrap64 (w + 1)) (if t > 0 then wrap64 (t - 1) else t):=by
 have e : putB l w true t p.f0 p.f1 = (true,l.set p.f0.toNat p.f1,wrap64 (w + 1),true,if t > 0 then wrap64 (t - 1) else t):=by simp only [putB,if_neg h]
 simp only [runP,e,if_true]
theorem runP_stop (p : S40) (r : List S40) (l : List (List Int)) (w : Int) : runP (p :: r) l w 0 = (false,l,w,false,0):=by
 have e : putB l w true 0 p.f0 p.f1 = (false,l,w,false,0):=by simp only [putB,if_true]
 simp only [runP,e]
 rfl
theorem runP_cut : ∀ (r : List S40) (l : List (List Int)) (w : Int) (n : Nat),0 ≤ w → w + (r.length : Int) ≤ 2000000000 → n ≤ 1000000 →
  runP r l w (n : Int) = if r.length ≤ n then (true,app r l,w + (r.length : Int),true,((n - r.length : Nat) : Int)) else (false,app (r.take n) l,w + (n : Int),false,0):=by
 intro r
 induction r with
 | nil=>intro l w n _ _ _;simp [runP,app]
 | cons p r ih =>
  intro l w n h0 h1 h2
  simp only [List.length_cons] at h1
  cases n with
  | zero =>
   rw [if_neg (by simp),show ((0 : Nat) : Int) = 0 from rfl,runP_stop]
   simp [app]
  | succ n =>
   rw [runP_go p r l w _ (by omega),if_pos (by omega),w64 (n:=w + 1) (by omega) (by omega),show wrap64 (((n + 1 : Nat) : Int) - 1) = (n : Int) by rw [w64 (by omega) (by omega)];omega,ih _ _ n (by omega) (by omega) (by omega)]
   by_cases c : r.length ≤ n
   ·rw [if_pos c,if_pos (by simp;omega)]
    simp only [app_cons,List.length_cons]
    rw [show w + 1 + (r.length : Int) = w + ((r.length + 1 : Nat) : Int) by omega,show n - r.length = n + 1 - (r.length + 1) by omega]
   ·rw [if_neg c,if_neg (by simp;omega)]
    simp only [app_cons,List.take_succ_cons]
    rw [show w + 1 + (n : Int) = w + ((n + 1 : Nat) : Int) by omega]
theorem runP_all : ∀ (r : List S40) (l : List (List Int)) (w : Int),0 ≤ w → w + (r.length : Int) ≤ 2000000000 →
  runP r l w (-1) = (true,app r l,w + (r.length : Int),true,-1):=by
 intro r
 induction r with
 | nil=>intro l w _ _;simp [runP,app]
 | cons p r ih =>
  intro l w h0 h1
  simp only [List.length_cons] at h1
  rw [runP_go p r l w _ (by omega),if_neg (by omega),w64 (n:=w + 1) (by omega) (by omega),ih _ _ (by omega) (by omega)]
  simp only [app_cons,List.length_cons]
  rw [show w + 1 + (r.length : Int) = w + ((r.length + 1 : Nat) : Int) by omega]

theorem diskB_of {b : List (List Int)} {w t : Int} (h1 : 40 ≤ b.length∧b.length ≤ 160) (h2 : ∀ p ∈ b,p.length = 128) (h3 : 0 ≤ w∧w ≤ 1000000000) (h4 : -1 ≤ t∧t ≤ 1000000) : diskB b w t = true:=by
 simp only [diskB,blocksB,Bool.and_eq_true,decide_eq_true_eq,List.all_eq_true]
 exact ⟨⟨h1,h2⟩,h3,h4⟩
theorem number_ev (l : List Int) (hw : ∀ x ∈ l,0 ≤ x∧x ≤ 255) (hl : l.length ≤ 9223372036854775807) : ∃ n : Nat,Ev (fun k=>laws_numberOf.f k l) (n : Int)∧n < 1000003:=by
 have key : ∀ (m i n : Nat),i + m = l.length → n < 1000003 → ∃ r : Nat,Ev (fun k=>laws_numberOf.l0 k (n : Int) l (l.length : Int) (i : Int)) (r : Int)∧r < 1000003:=by
  intro m
  induction m with
  | zero =>
   intro i n hi hn
   refine ⟨n,Ev_succ ?_,hn⟩
   simp only [laws_numberOf.l0]
   exact Ev_f (by omega) (Ev.now _)
  | succ m ih =>
   intro i n hi hn
   have h:=hw _ (getD_mem (xs:=l) (i:=i) 0 (by omega))
   have e : Int.tmod (wrap64 (wrap64 (31 * (n : Int)) + wrap64 (rd l (i : Int)))) 1000003 = (((31 * n + (l.getD i 0).toNat) % 1000003 : Nat) : Int):=by
    rw [rd_nat,w64 (n:=31 * (n : Int)) (by omega) (by omega),w64 (n:=l.getD i 0) (by omega) (by omega),w64 (by omega) (by omega),Int.tmod_eq_emod_of_nonneg (by omega)]
    omega
   obtain ⟨r,h1,h2⟩:=ih (i + 1) ((31 * n + (l.getD i 0).toNat) % 1000003) (by omega) (by omega)
   refine ⟨r,Ev_succ ?_,h2⟩
   simp only [laws_numberOf.l0,e]
   rw [w64_succ (show i < l.length by omega) hl]
   exact Ev_t (by omega) (Ev_t (by omega) (Ev_t (by omega) h1))
 obtain ⟨r,h1,h2⟩:=key l.length 0 0 (by omega) (by omega)
 exact ⟨r,by simp only [laws_numberOf.f];exact h1,h2⟩
/-- The disk of a run: blocks of 128 bytes, as many as before. -/
def goodL (N : Nat) (l : List (List Int)) : Prop:=l.length = N∧∀ p ∈ l,p.length = 128∧by8 p
theorem goodL_app {N : Nat} {l : List (List Int)} (h : goodL N l) (r : List S40) (hr : ∀ p ∈ r,p.f1.length = 128∧by8 p.f1) : goodL N (app r l) :=
 ⟨by rw [app_len];exact h.1,app_all (q:=fun p=>p.length = 128∧by8 p) r l hr h.2⟩
/-- The last loop: each block of the disk is what is wanted. -/
theorem cmp_loop (g : List S40) (hg : g.length ≤ 30) (n N i : Nat) (b u : List (List Int)) (w : Int) (o : Bool) (t w' : Int) (o' : Bool) (t' : Int) (hb : b.length = N) (hu : u.length = N) (hN : N ≤ 160) (hi : i < N)
  (next : Ev (fun k=>laws_FnGroups.l0 k g (n : Int) (N : Int) (wrap64 ((i : Int) + 1)) b w o t u w' o' t') true) :
  ∀ (suf pre : List S40) (x : List Int),g = pre ++ suf → u.getD i [] = (if g.length < n then wantF suf i x else x) →
  Ev (fun k=>laws_FnGroups.l1 k g (n : Int) (i : Int) (strOfNums x) (N : Int) (i : Int) g (g.length : Int) (pre.length : Int) b w o t u w' o' t') true:=by
 intro suf
 induction suf with
 | nil =>
  intro pre x e hx
  have hx' : u.getD i [] = x:=by rw [hx];split <;> rfl
  refine Ev_succ ?_
  simp only [laws_FnGroups.l1,rd_L_nat,hx']
  exact Ev_f (by rw [e];simp) (Ev_t (by omega) (Ev_t (by omega) (Ev_t trivial next)))
 | cons p suf ih =>
  intro pre x e hx
  have hlen : g.length = pre.length + (suf.length + 1):=by rw [e];simp
  have gp : rd_T40 g (pre.length : Int) = p:=by rw [rd_T40_nat,e];simp [List.getD]
  have wl : wrap64 ((pre.length : Int) + 1) = ((pre ++ [p]).length : Int):=by rw [w64 (by omega) (by omega)];simp
  refine Ev_succ ?_
  simp only [laws_FnGroups.l1,gp,wl]
  refine Ev_t (by omega) (Ev_t (by omega) (Ev_t (by omega) ?_))
  by_cases c : p.f0 = (i : Int)
  ·by_cases d : g.length < n
   ·refine Ev_t c (Ev_t (by omega) (ih (pre ++ [p]) p.f1 (by rw [e];simp) ?_))
    rw [hx,if_pos d,if_pos d,wantF_cons,if_pos c]
   ·refine Ev_t c (Ev_f (by omega) (ih (pre ++ [p]) x (by rw [e];simp) ?_))
    rw [hx,if_neg d,if_neg d]
  ·refine Ev_f c (ih (pre ++ [p]) x (by rw [e];simp) ?_)
   rw [hx]
   by_cases d : g.length < n
   ·rw [if_pos d,if_pos d,wantF_cons,if_neg c]
   ·rw [if_neg d,if_neg d]
theorem blocks_loop (g : List S40) (hg : g.length ≤ 30) (n N : Nat) (b u : List (List Int)) (w : Int) (o : Bool) (t w' : Int) (o' : Bool) (t' : Int) (hb : b.length = N) (hu : u.length = N) (hN : N ≤ 160)
  (hwait : Ev (fun k=>impl_WaitingIn.f k u w' o' t') (0,true))
  (heq : ∀ i,i < N → ¬ (2 ≤ i∧i < 33) → u.getD i [] = (if g.length < n then wantF g i (b.getD i []) else b.getD i [])) :
  ∀ (m i : Nat),i + m = N → Ev (fun k=>laws_FnGroups.l0 k g (n : Int) (N : Int) (i : Int) b w o t u w' o' t') true:=by
 intro m
 induction m with
 | zero =>
  intro i hi
  refine Ev_succ ?_
  simp only [laws_FnGroups.l0]
  exact Ev_f (by omega) (Ev.bind hwait (Ev_t rfl (Ev_eq (Ev.now _) (by simp))))
 | succ m ih =>
  intro i hi
  have I:=ih (i + 1) (by omega)
  have e1 : wrap64 ((i : Int) + 1) = ((i + 1 : Nat) : Int):=w64_succ (show i < N by omega) (by omega)
  have I' : Ev (fun k=>laws_FnGroups.l0 k g (n : Int) (N : Int) (wrap64 ((i : Int) + 1)) b w o t u w' o' t') true:=by rw [e1];exact I
  have skip : ∀ c : Bool,c = true → Ev (fun k=>laws_FnGroups.j6 k g (n : Int) (i : Int) (N : Int) (i : Int) c b w o t u w' o' t') true:=by
   intro c hc
   refine Ev_succ ?_
   simp only [laws_FnGroups.j6]
   exact Ev_t hc I'
  have look : ∀ c : Bool,c = false → ¬ (2 ≤ i∧i < 33) → Ev (fun k=>laws_FnGroups.j6 k g (n : Int) (i : Int) (N : Int) (i : Int) c b w o t u w' o' t') true:=by
   intro c hc hn
   have C:=cmp_loop g hg n N i b u w o t w' o' t' hb hu hN (by omega) I' g [] (b.getD i []) rfl (heq i (by omega) hn)
   refine Ev_succ ?_
   simp only [laws_FnGroups.j6,rd_L_nat]
   exact Ev_f (by rw [hc];decide) (Ev_t (by omega) (Ev_t (by omega) C))
  refine Ev_succ ?_
  simp only [laws_FnGroups.l0]
  refine Ev_t (by omega) ?_
  by_cases c : (i : Int) ≥ 2
  ·refine Ev_t c ?_
   by_cases d : i < 33
   ·exact skip _ (by simp;omega)
   ·exact look _ (by simp;omega) (by omega)
  ·exact Ev_f c (look _ rfl (by omega))
theorem home_ev (g : List S40) (hg : g.length ≤ 30) (hz : ∀ p ∈ g,p.f1.length = 128) : Ev (fun k=>impl_home.f k g) (tailW g):=by
 simp only [impl_home.f]
 exact Ev_eq (implHome_ev g hg g [] [] rfl hz (by simp;omega)) (by simp)
theorem plan_ev (g : List S40) (hg : g.length ≤ 30) (hw : ∀ p ∈ g,goodW p) : Ev (fun k=>impl_plan.f k g) (planL g (hdrR g)):=by
 simp only [impl_plan.f]
 have hz : ∀ p ∈ g,p.f1.length = 128:=fun p hp=>(hw p hp).2.2.1
 exact Ev_eq (implPlan_ev g (hdrR g) hg hz (header_ev g hg hw) g [] [] rfl hz (by simp;omega)) (by simp [planL])
theorem planL_len (g : List S40) (R : List Int) : (planL g R).length = 2 * g.length + 2:=by
 simp only [planL,tailW,List.length_append,List.length_cons,List.length_nil,numL_len];omega
theorem numL_get : ∀ (l : List S40) (c : Int) (i : Nat),i < l.length → (numL c l).getD i z40 = ⟨c + (i : Int),(l.getD i z40).f1⟩:=by
 intro l
 induction l with
 | nil=>intro c i h;simp at h
 | cons p l ih =>
  intro c i h
  cases i with
  | zero=>simp [numL]
  | succ i =>
   have:=ih (c + 1) i (by simpa using h)
   rw [show c + ((i + 1 : Nat) : Int) = c + 1 + (i : Int) by omega]
   simpa [numL] using this
/-- What the copies in the journal leave at their places. -/
theorem numL_want : ∀ (l : List S40) (c : Nat) (i : Nat) (x : List Int),i < l.length → wantF (numL (c : Int) l) (c + i) x = (l.getD i z40).f1:=by
 intro l
 induction l with
 | nil=>intro c i x h;simp at h
 | cons p l ih =>
  intro c i x h
  simp only [numL,wantF_cons]
  cases i with
  | zero =>
   rw [if_pos (by omega)]
   rw [wantF_none]
   ·simp
   ·intro q hq
    have:=numL_at l ((c : Int) + 1) q hq
    omega
  | succ i =>
   rw [if_neg (by omega)]
   have:=ih (c + 1) i x (by simpa using h)
   rw [show c + (i + 1) = c + 1 + i by omega]
   simpa using this

theorem len_le {b : List (List Int)} {w t : Int} (h : diskB b w t = true) : b.length ≤ 1048576∧∀ p ∈ b,p.length ≤ 1048576:=by
 have h1:=diskB_len h
 exact ⟨by omega,fun p hp=>by have:=blocks_len h p hp;omega⟩
theorem cut_ev (b : List (List Int)) (w t : Int) (n : Nat) (hd : diskB b w t = true) (hn : n ≤ 1000000) : Ev (fun k=>impl_CutAfter.f k b w true t (n : Int)) (b,w,true,(n : Int),0):=by
 obtain ⟨h1,h2⟩:=len_le hd
 simp only [impl_CutAfter.f,within_eq,Option.bind_some]
 refine Ev.bind (implGoodDisk_ev b w true t h1) (Ev_t hd (Ev_succ ?_))
 simp only [impl_CutAfter.j0]
 have c : (0 : Int) ≤ (n : Int)∧(n : Int) ≤ 1000000:=by omega
 exact Ev_f (by simp [c]) (Ev_t trivial (Ev.bind (copied_ev b w true t h1 h2) (Ev.now _)))
theorem restart_ev (b : List (List Int)) (w : Int) (o : Bool) (t : Int) (hd : diskB b w t = true) : Ev (fun k=>impl_Restart.f k b w o t) (b,w,true,-1,0):=by
 obtain ⟨h1,h2⟩:=len_le hd
 simp only [impl_Restart.f]
 exact Ev.bind (implGoodDisk_ev b w o t h1) (Ev_t hd (Ev.bind (copied_ev b w o t h1 h2) (Ev.now _)))
theorem recover_no (b : List (List Int)) (w t : Int) (hd : diskB b w t = true) (hw : w ≤ 999999900) (h : Ev (fun k=>impl_Disk_waiting.f k b w true t) []) : Ev (fun k=>impl_Recover.f k b w true t) (b,w,true,t,0,0):=by
 obtain ⟨h1,h2⟩:=len_le hd
 simp only [impl_Recover.f]
 refine Ev.bind (implGoodDisk_ev b w true t h1) (Ev_t hd (Ev_succ ?_))
 simp only [impl_Recover.j0]
 exact Ev_f (by simp;omega) (Ev_t trivial (Ev.bind (copied_ev b w true t h1 h2) (Ev.bind h (Ev_t (by simp) (Ev.now _)))))
theorem recover_yes (b : List (List Int)) (w : Int) (hd : diskB b w (-1) = true) (hw : w ≤ 999999900) (g : List S40) (hg : 1 ≤ g.length∧g.length ≤ 30) (hz : ∀ p ∈ g,p.f1.length = 128) (hf : ∀ p ∈ g,0 ≤ p.f0∧p.f0 < (b.length : Int)) (h : Ev (fun k=>impl_Disk_waiting.f k b w true (-1)) g) :
  Ev (fun k=>impl_Recover.f k b w true (-1)) (app (tailW g) b,w + ((g.length + 1 : Nat) : Int),true,-1,(g.length : Int),0):=by
 obtain ⟨h1,h2⟩:=len_le hd
 have hN:=diskB_len hd
 have hw0 : 0 ≤ w:=by
  have:=hd
  simp only [diskB,Bool.and_eq_true,decide_eq_true_eq] at this
  exact this.2.1.1
 have hlen : (tailW g).length = g.length + 1:=by simp [tailW]
 have hfit : ∀ p ∈ tailW g,fitW b.length p:=by
  intro p hp
  simp only [tailW,List.mem_append,List.mem_singleton] at hp
  rcases hp with hp|rfl
  ·exact ⟨(hf p hp).1,(hf p hp).2,by rw [hz p hp];omega⟩
  ·exact ⟨show (0 : Int) ≤ 2 by decide,show (2 : Int) < _ by omega,by simp⟩
 have R:=implRun_ev (tailW g) (by omega) (tailW g) [] b w (-1) rfl hfit
 rw [runP_all (tailW g) b w hw0 (by omega)] at R
 have wa : Ev (fun k=>impl_Disk_writeAll.f k b w true (-1) (tailW g)) (0,app (tailW g) b,w + ((tailW g).length : Int),true,-1):=by
  simp only [impl_Disk_writeAll.f];exact Ev_t trivial R
 rw [hlen] at wa
 simp only [impl_Recover.f]
 refine Ev.bind (implGoodDisk_ev b w true (-1) h1) (Ev_t hd (Ev_succ ?_))
 simp only [impl_Recover.j0]
 exact Ev_f (by simp;omega) (Ev_t trivial (Ev.bind (copied_ev b w true (-1) h1 h2) (Ev.bind h (Ev_f (by omega) (Ev.bind (home_ev g hg.2 hz) (Ev.bind wa (Ev_t rfl (Ev.now _))))))))
theorem waitIn_ev (b : List (List Int)) (w : Int) (o : Bool) (t : Int) (hd : diskB b w t = true) (h : Ev (fun k=>impl_Disk_waiting.f k b w o t) []) : Ev (fun k=>impl_WaitingIn.f k b w o t) (0,true):=by
 obtain ⟨h1,h2⟩:=len_le hd
 simp only [impl_WaitingIn.f]
 exact Ev.bind (implGoodDisk_ev b w o t h1) (Ev_t hd (Ev.bind h (Ev_eq (Ev.now _) (by simp))))
theorem commit_ev (b : List (List Int)) (w t : Int) (g : List S40) (hgr : groupB b w t g = true) (hw : w ≤ 1000000) (h8 : ∀ p ∈ g,by8 p.f1) :
  Ev (fun k=>impl_CommitGroup.f k b w true t g) ((runP (planL g (hdrR g)) b w t).2.1,(runP (planL g (hdrR g)) b w t).2.2.1,(runP (planL g (hdrR g)) b w t).2.2.2.1,(runP (planL g (hdrR g)) b w t).2.2.2.2,if (runP (planL g (hdrR g)) b w t).1 = true then 0 else 2):=by
 have hG:=hgr
 simp only [groupB,Bool.and_eq_true,decide_eq_true_eq] at hG
 obtain ⟨h1,h2⟩:=len_le hG.1
 have hN:=diskB_len hG.1
 have hw0 : 0 ≤ w:=by
  have:=hG.1
  simp only [diskB,Bool.and_eq_true,decide_eq_true_eq] at this
  exact this.2.1.1
 have hgw:=gB_good (b.length : Int) (by omega) g (-1) hG.2.2 h8
 have xl:=planL_len g (hdrR g)
 have hr:=hdrR_ok g hG.2.1.2
 have hfit : ∀ p ∈ planL g (hdrR g),fitW b.length p:=by
  intro p hp
  simp only [planL,tailW,List.mem_append,List.mem_cons,List.not_mem_nil,or_false] at hp
  rcases hp with (hp|rfl)|(hp|rfl)
  ·obtain ⟨x,hx,e⟩:=numL_mem g 3 p hp
   have hr:=numL_at g 3 p hp
   exact ⟨by omega,by omega,by rw [e,(hgw x hx).2.2.1];omega⟩
  ·exact ⟨show (0 : Int) ≤ 2 by decide,by simp only;omega,by simp only;omega⟩
  ·have:=gB_at (b.length : Int) g (-1) hG.2.2 p hp
   exact ⟨by omega,by omega,by rw [(hgw p hp).2.2.1];omega⟩
  ·exact ⟨show (0 : Int) ≤ 2 by decide,by simp only;omega,by simp⟩
 have i2:=plan_ev g hG.2.1.2 hgw
 generalize planL g (hdrR g) = x at i2 xl hfit
 have c2 : wrap64 (w + (x.length : Int)) = w + (x.length : Int):=w64 (by omega) (by omega)
 have I:=implRun_ev x (by omega) x [] b w t rfl hfit
 simp only [impl_CommitGroup.f]
 refine Ev.bind (implGoodGroup_ev b w true t g h1 (by omega)) (Ev_t hgr (Ev.bind i2 (Ev_f (by rw [c2];omega) (Ev.bind (copied_ev b w true t h1 h2) ?_))))
 refine Ev.bind (a:=(if (runP x b w t).1 = true then 0 else 2,(runP x b w t).2)) ?_ (Ev_eq (Ev.now _) rfl)
 simp only [impl_Disk_writeAll.f]
 exact Ev_t trivial I
/-- Behind the cut: what the law looks at. -/
theorem rest_ev (g P : List S40) (hg : g.length ≤ 30) (n N : Nat) (hP : P.length = 2 * g.length + 2) (b Y U : List (List Int)) (w : Int) (o : Bool) (t wY : Int) (oY : Bool) (tY wU : Int) (oU : Bool) (tU : Int) (waited : Nat)
  (hb : b.length = N) (hY : goodL N Y) (hU : goodL N U) (hN : 40 ≤ N∧N ≤ 160) (hwY : 0 ≤ wY∧wY ≤ 1000000000) (htY : -1 ≤ tY∧tY ≤ 1000000) (hwU : 0 ≤ wU∧wU ≤ 1000000000) (htU : -1 ≤ tU∧tU ≤ 1000000)
  (hrec : Ev (fun k=>impl_Recover.f k Y wY true (-1)) (U,wU,oU,tU,(waited : Int),0)) (hwait : Ev (fun k=>impl_Disk_waiting.f k U wU oU tU) [])
  (hw : 0 < waited ↔ (g.length < n∧n < P.length))
  (heq : ∀ i,i < N → ¬ (2 ≤ i∧i < 33) → U.getD i [] = (if g.length < n then wantF g i (b.getD i []) else b.getD i [])) :
  Ev (fun k=>laws_FnGroups.j3 k g P (n : Int) false b w o t Y wY oY tY) true:=by
 have dY : diskB Y wY tY = true:=diskB_of (by rw [hY.1];exact hN) (fun p hp=>(hY.2 p hp).1) hwY htY
 have dU : diskB U wU tU = true:=diskB_of (by rw [hU.1];exact hN) (fun p hp=>(hU.2 p hp).1) hwU htU
 have L:=blocks_loop g hg n N b U w o t wU oU tU hb hU.1 hN.2 (waitIn_ev U wU oU tU dU hwait) heq N 0 (by omega)
 have J : ∀ c : Bool,c = false → Ev (fun k=>laws_FnGroups.j4 k g (n : Int) c b w o t U wU oU tU) true:=by
  intro c hc
  refine Ev_succ ?_
  simp only [laws_FnGroups.j4,hb]
  exact Ev_f (by rw [hc];decide) L
 refine Ev_succ ?_
 simp only [laws_FnGroups.j3]
 refine Ev_f (by decide) (Ev.bind (restart_ev Y wY oY tY dY) (Ev.bind hrec (Ev_t rfl (Ev_t rfl (Ev_ite (fun c=>J _ ?_) (fun c=>J _ ?_))))))
 ·by_cases d : n < P.length
  ·have h1 : 0 < waited:=hw.2 ⟨by omega,d⟩
   have h2 : decide ((waited : Int) > 0) = true:=by simp;omega
   have h3 : decide ((n : Int) < (P.length : Int)) = true:=by simp;omega
   rw [h2,h3];rfl
  ·have h1 : ¬ 0 < waited:=fun h=>d (hw.1 h).2
   have h2 : decide ((waited : Int) > 0) = false:=by simp;omega
   have h3 : decide ((n : Int) < (P.length : Int)) = false:=by simp;omega
   rw [h2,h3];rfl
 ·have h1 : ¬ 0 < waited:=fun h=>by have:=(hw.1 h).1;omega
  have h2 : decide ((waited : Int) > 0) = false:=by simp;omega
  rw [h2];rfl

/-- A good group on a disk that is on, whose journal holds no header. -/
theorem crash_ev (b : List (List Int)) (w t : Int) (g : List S40) (hgr : groupB b w t g = true) (hw : w ≤ 1000000) (hy : ∀ p ∈ b,by8 p) (h8 : ∀ p ∈ g,by8 p.f1) (h76 : rd (b.getD 2 []) 0 ≠ 76) (n : Nat) (hn : n < 2 * g.length + 4) :
  ∃ Y wY oY tY,Ev (fun k=>impl_CommitGroup.f k b w true (n : Int) g) (Y,wY,oY,tY,if 2 * g.length + 2 ≤ n then 0 else 2) ∧
   Ev (fun k=>laws_FnGroups.j3 k g (planL g (hdrR g)) (n : Int) false b w true (-1) Y wY oY tY) true:=by
 have hG:=hgr
 simp only [groupB,Bool.and_eq_true,decide_eq_true_eq] at hG
 have hN:=diskB_len hG.1
 have hz:=blocks_len hG.1
 have hw0 : 0 ≤ w:=by
  have:=hG.1
  simp only [diskB,Bool.and_eq_true,decide_eq_true_eq] at this
  exact this.2.1.1
 have hm:=hG.2.1
 have hat:=gB_at (b.length : Int) g (-1) hG.2.2
 have hgw:=gB_good (b.length : Int) (by omega) g (-1) hG.2.2 h8
 have hz8 : ∀ p ∈ g,p.f1.length = 128∧by8 p.f1:=fun p hp=>⟨(hgw p hp).2.2.1,h8 p hp⟩
 have hR:=hdrR_ok g hm.2
 have xl:=planL_len g (hdrR g)
 have hd (t' : Int) (h : -1 ≤ t'∧t' ≤ 1000000) (w' : Int) (hw' : 0 ≤ w'∧w' ≤ 1000000000) (Y : List (List Int)) (hY : goodL b.length Y) : diskB Y w' t' = true:=diskB_of (by rw [hY.1];exact hN) (fun p hp=>(hY.2 p hp).1) hw' h
 have hb0 : goodL b.length b:=⟨rfl,fun p hp=>⟨hz p hp,hy p hp⟩⟩
 have hnum8 : ∀ p ∈ numL 3 g,p.f1.length = 128∧by8 p.f1:=fun p hp=>by
  obtain ⟨x,hx,e⟩:=numL_mem g 3 p hp
  rw [e];exact hz8 x hx
 have hP8 : ∀ p ∈ planL g (hdrR g),p.f1.length = 128∧by8 p.f1:=by
  intro p hp
  simp only [planL,tailW,List.mem_append,List.mem_cons,List.not_mem_nil,or_false] at hp
  rcases hp with (hp|rfl)|(hp|rfl)
  ·exact hnum8 p hp
  ·exact hR
  ·exact hz8 p hp
  ·exact ⟨by simp,by8_rep _⟩
 have hP0 : ∀ p ∈ planL g (hdrR g),0 ≤ p.f0:=by
  intro p hp
  simp only [planL,tailW,List.mem_append,List.mem_cons,List.not_mem_nil,or_false] at hp
  rcases hp with (hp|rfl)|(hp|rfl)
  ·have:=numL_at g 3 p hp;omega
  ·exact show (0 : Int) ≤ 2 by decide
  ·have:=hat p hp;omega
  ·exact show (0 : Int) ≤ 2 by decide
 have hg0 : ∀ p ∈ g,0 ≤ p.f0:=fun p hp=>by have:=hat p hp;omega
 have C:=commit_ev b w (n : Int) g (by simp only [groupB,hd (n : Int) (by omega) w (by omega) b hb0,Bool.true_and,Bool.and_eq_true,decide_eq_true_eq];exact hG.2) hw h8
 rw [runP_cut _ b w n hw0 (by omega) (by omega)] at C
 -- what the copies in the journal and the group leave of the other blocks
 have numNo (c : Nat) (i : Nat) (x : List Int) (hi : ¬ (3 ≤ i∧i < 33)) : wantF ((numL 3 g).take c) i x = x:=wantF_none _ _ _ (fun q hq=>by have:=numL_at g 3 q (List.mem_of_mem_take hq);omega)
 have numNo2 (i : Nat) (x : List Int) (hi : ¬ (3 ≤ i∧i < 33)) : wantF (numL 3 g) i x = x:=wantF_none _ _ _ (fun q hq=>by have:=numL_at g 3 q hq;omega)
 have gNo (c : Nat) (i : Nat) (x : List Int) (hi : 2 ≤ i∧i < 33) : wantF (g.take c) i x = x:=wantF_none _ _ _ (fun q hq=>by have:=hat q (List.mem_of_mem_take hq);omega)
 have gNo2 (i : Nat) (x : List Int) (hi : 2 ≤ i∧i < 33) : wantF g i x = x:=wantF_none _ _ _ (fun q hq=>by have:=hat q hq;omega)
 have oneNo (d : List Int) (i : Nat) (x : List Int) (hi : i ≠ 2) : wantF [⟨2,d⟩] i x = x:=by rw [wantF_cons,if_neg (by simp only;omega)];rfl
 have oneYes (d : List Int) (x : List Int) : wantF [⟨2,d⟩] 2 x = d:=rfl
 have n0 : numL 3 g = numL ((3 : Nat) : Int) g:=rfl
 by_cases c1 : 2 * g.length + 2 ≤ n
 ·-- all is written
  rw [if_pos (by omega)] at C
  have hY:=goodL_app hb0 (planL g (hdrR g)) hP8
  have at2 : (app (planL g (hdrR g)) b).getD 2 [] = List.replicate 128 0:=by
   rw [app_at _ _ _ (by omega) hP0]
   simp only [planL,tailW,wantF_append]
   rw [oneYes]
  have dY:=hd (-1) (by omega) (w + ((planL g (hdrR g)).length : Int)) (by omega) _ hY
  have W:=waiting_no (app (planL g (hdrR g)) b) (w + ((planL g (hdrR g)).length : Int)) true (-1) dY (fun p hp=>(hY.2 p hp).2) (by rw [at2];decide)
  refine ⟨_,_,_,_,Ev_eq C (by simp only [if_true];rw [if_pos c1]),?_⟩
  refine rest_ev g (planL g (hdrR g)) hm.2 n b.length xl b _ _ w true (-1) _ _ _ _ _ _ 0 rfl hY hY hN (by omega) (by omega) (by omega) (by omega) (recover_no _ _ _ dY (by omega) W) W (by omega) (fun i hi hni=>?_)
  rw [if_pos (by omega),app_at _ _ _ hi hP0]
  simp only [planL,tailW,wantF_append]
  rw [oneNo _ _ _ (by omega),oneNo _ _ _ (by omega),numNo2 _ _ (by omega)]
 ·rw [if_neg (by omega)] at C
  have hP8' : ∀ p ∈ (planL g (hdrR g)).take n,p.f1.length = 128∧by8 p.f1:=fun p hp=>hP8 p (List.mem_of_mem_take hp)
  have hP0' : ∀ p ∈ (planL g (hdrR g)).take n,0 ≤ p.f0:=fun p hp=>hP0 p (List.mem_of_mem_take hp)
  have hY:=goodL_app hb0 _ hP8'
  by_cases c2 : n ≤ g.length
  ·-- no header yet
   have eT : (planL g (hdrR g)).take n = (numL 3 g).take n:=by
    simp only [planL,List.append_assoc]
    rw [List.take_append_of_le_length (by rw [numL_len];exact c2)]
   rw [eT] at C hP0' hY
   have at2 : (app ((numL 3 g).take n) b).getD 2 [] = b.getD 2 []:=by rw [app_at _ _ _ (by omega) hP0',numNo _ _ _ (by omega)]
   have dY:=hd (-1) (by omega) (w + (n : Int)) (by omega) _ hY
   have W:=waiting_no _ (w + (n : Int)) true (-1) dY (fun p hp=>(hY.2 p hp).2) (by rw [at2];exact h76)
   refine ⟨_,_,_,_,Ev_eq C (by simp only [Bool.false_eq_true,if_false];rw [if_neg c1]),?_⟩
   refine rest_ev g (planL g (hdrR g)) hm.2 n b.length xl b _ _ w true (-1) _ _ _ _ _ _ 0 rfl hY hY hN (by omega) (by omega) (by omega) (by omega) (recover_no _ _ _ dY (by omega) W) W (by omega) (fun i hi hni=>?_)
   rw [if_neg (by omega),app_at _ _ _ hi hP0',numNo _ _ _ (by omega)]
  ·-- the header waits
   have eT : (planL g (hdrR g)).take n = (numL 3 g ++ [⟨2,hdrR g⟩]) ++ g.take (n - (g.length + 1)):=by
    simp only [planL]
    rw [List.take_append,List.take_of_length_le (by simp only [List.length_append,numL_len,List.length_cons,List.length_nil];omega)]
    simp only [List.length_append,numL_len,List.length_cons,List.length_nil,tailW]
    rw [List.take_append_of_le_length (by omega)]
   rw [eT] at C hP0' hY
   have dY:=hd (-1) (by omega) (w + (n : Int)) (by omega) _ hY
   have at2 : (app ((numL 3 g ++ [⟨2,hdrR g⟩]) ++ g.take (n - (g.length + 1))) b).getD 2 [] = hdrR g:=by
    rw [app_at _ _ _ (by omega) hP0',wantF_append,wantF_append,gNo _ _ _ (by omega),oneYes]
   have at3 : ∀ i,i < g.length → (app ((numL 3 g ++ [⟨2,hdrR g⟩]) ++ g.take (n - (g.length + 1))) b).getD (3 + i) [] = (g.getD i z40).f1:=fun i hi=>by
    rw [app_at _ _ _ (by omega) hP0',wantF_append,wantF_append,gNo _ _ _ (by omega),oneNo _ _ _ (by omega),n0,numL_want g 3 i _ hi]
   have atI : ∀ i,i < b.length → ¬ (2 ≤ i∧i < 33) → (app ((numL 3 g ++ [⟨2,hdrR g⟩]) ++ g.take (n - (g.length + 1))) b).getD i [] = wantF (g.take (n - (g.length + 1))) i (b.getD i []):=fun i hi hni=>by
    rw [app_at _ _ _ hi hP0',wantF_append,wantF_append,oneNo _ _ _ (by omega),numNo2 _ _ (by omega)]
   generalize app ((numL 3 g ++ [⟨2,hdrR g⟩]) ++ g.take (n - (g.length + 1))) b = Y at C hY dY at2 at3 atI
   have W:=waiting_yes Y (w + (n : Int)) true (-1) dY (fun p hp=>(hY.2 p hp).2) g (by simp only [groupB,dY,Bool.true_and,Bool.and_eq_true,decide_eq_true_eq];rw [hY.1];exact hG.2) h8 at2 at3
   have Rv:=recover_yes Y (w + (n : Int)) dY (by omega) g hm (fun p hp=>(hz8 p hp).1) (fun p hp=>⟨hg0 p hp,by rw [hY.1];have:=hat p hp;omega⟩) W
   have hT8 : ∀ p ∈ tailW g,p.f1.length = 128∧by8 p.f1:=fun p hp=>by
    simp only [tailW,List.mem_append,List.mem_singleton] at hp
    rcases hp with hp|rfl
    ·exact hz8 p hp
    ·exact ⟨by simp,by8_rep _⟩
   have hT0 : ∀ p ∈ tailW g,0 ≤ p.f0:=fun p hp=>by
    simp only [tailW,List.mem_append,List.mem_singleton] at hp
    rcases hp with hp|rfl
    ·exact hg0 p hp
    ·exact show (0 : Int) ≤ 2 by decide
   have hU:=goodL_app hY (tailW g) hT8
   have u2 : (app (tailW g) Y).getD 2 [] = List.replicate 128 0:=by
    rw [app_at _ _ _ (by rw [hY.1];omega) hT0]
    simp only [tailW,wantF_append]
    rw [oneYes]
   have dU:=hd (-1) (by omega) (w + (n : Int) + ((g.length + 1 : Nat) : Int)) (by omega) _ hU
   have WU:=waiting_no _ (w + (n : Int) + ((g.length + 1 : Nat) : Int)) true (-1) dU (fun p hp=>(hU.2 p hp).2) (by rw [u2];decide)
   refine ⟨_,_,_,_,Ev_eq C (by simp only [Bool.false_eq_true,if_false];rw [if_neg c1]),?_⟩
   refine rest_ev g (planL g (hdrR g)) hm.2 n b.length xl b _ _ w true (-1) _ _ _ _ _ _ g.length rfl hY hU hN (by omega) (by omega) (by omega) (by omega) Rv WU (by omega) (fun i hi hni=>?_)
   rw [if_pos (by omega),app_at _ _ _ (by rw [hY.1];exact hi) hT0]
   simp only [tailW,wantF_append]
   rw [oneNo _ _ _ (by omega),atI i hi hni,wantF_half]
end OfFnGroups
open OfFnGroups
theorem FnGroups : Stated:=by
 intro l0 l1 h0 h1
 refine Ev.rounds ?_
 simp only [laws_FnGroups.f]
 refine Ev_ite (fun _=>Ev.now _) (fun _=>?_)
 have m0 : l0.length ≤ 9223372036854775807:=by have:=h0.1;simp only [maxLen] at this;omega
 have m1 : l1.length ≤ 9223372036854775807:=by have:=h1.1;simp only [maxLen] at this;omega
 have w0 : ∀ x ∈ l0,0 ≤ x∧x ≤ 255:=fun x hx=>wf8 (h0.2 x hx)
 have w1 : ∀ x ∈ l1,0 ≤ x∧x ≤ 255:=fun x hx=>wf8 (h1.2 x hx)
 obtain ⟨b,w,o,t,g,hD,hB,hg⟩:=draw_ev l0 w0 m0
 have e1:=specGoodGroup_ev b w o t g (by have:=hB.1;omega) (by have:=hg.1;omega)
 have e2:=implGoodGroup_ev b w o t g (by have:=hB.1;omega) (by have:=hg.1;omega)
 have stop : ∀ c : Bool,c = true → (groupB b w t g = true → o = true → w > 1000000) → Ev (fun k=>laws_FnGroups.j0 k l1 g c b w o t) true:=by
  intro c hc hq
  refine Ev_succ ?_
  simp only [laws_FnGroups.j0]
  exact Ev_t hc (Ev.bind e2 (Ev_ite (fun a=>Ev_ite (fun a2=>Ev_eq (Ev.now _) (decide_eq_true (hq a a2))) (fun _=>Ev.now _)) (fun _=>Ev.now _)))
 refine Ev.bind hD (Ev.bind e1 (Ev_ite (fun hgr=>?_) (fun hgr=>stop _ rfl (fun a=>absurd a hgr))))
 refine Ev_ite (fun ho=>?_) (fun ho=>stop _ rfl (fun _ a=>absurd a ho))
 simp only at ho
 by_cases hw : w > 1000000
 ·exact stop _ (decide_eq_true hw) (fun _ _=>hw)
 have hG:=hgr
 simp only [groupB,Bool.and_eq_true,decide_eq_true_eq] at hG
 have hN:=diskB_len hG.1
 have hm:=hG.2.1
 have hz:=blocks_len hG.1
 have hd1 : groupB b w (-1) g = true:=by
  have h3:=hG.1
  simp only [groupB,diskB,Bool.and_eq_true,decide_eq_true_eq] at h3 ⊢
  exact ⟨⟨h3.1,h3.2.1,by omega⟩,hG.2⟩
 subst ho
 have m2:=getD_mem (xs:=b) (i:=2) [] (by omega)
 have h2 : rd_L1 b 2 = b.getD 2 []:=rd_L_nat b 2
 have h128:=hz _ m2
 refine Ev_succ ?_
 simp only [laws_FnGroups.j0,h2]
 refine Ev_f (by simp;omega) (Ev_t (by omega) (Ev_t (by omega) (Ev_t (by omega) (Ev_succ ?_))))
 simp only [laws_FnGroups.j1]
 refine Ev_ite (fun _=>Ev.now _) (fun hne=>?_)
 have h76 : rd (b.getD 2 []) 0 ≠ 76:=by simpa using hne
 have h8 : ∀ p ∈ g,by8 p.f1:=fun p hp=>(hg.2 p hp).2
 have hgw:=gB_good (b.length : Int) (by omega) g (-1) hG.2.2 h8
 have ep:=implGoodGroup_ev b w true (-1) g (by omega) (by omega)
 have pl:=plan_ev g hm.2 hgw
 have xl:=planL_len g (hdrR g)
 obtain ⟨n0,hn0,_⟩:=number_ev l1 w1 m1
 have eL : wrap64 (((planL g (hdrR g)).length : Int) + 2) = ((2 * g.length + 4 : Nat) : Int):=by rw [w64 (by omega) (by omega)];omega
 have eT : Int.tmod (n0 : Int) ((2 * g.length + 4 : Nat) : Int) = ((n0 % (2 * g.length + 4) : Nat) : Int):=by rw [Int.tmod_eq_emod_of_nonneg (by omega)];rfl
 have hlt : n0 % (2 * g.length + 4) < 2 * g.length + 4:=Nat.mod_lt _ (by omega)
 refine Ev.bind (a:=(planL g (hdrR g),true)) ?_ (Ev_t rfl (Ev_succ ?_))
 ·simp only [impl_PlanOf.f]
  exact Ev.bind ep (Ev_t hd1 (Ev.bind pl (Ev.now _)))
 simp only [laws_FnGroups.j2]
 refine Ev_f ?_ (Ev.bind hn0 (Ev_f ?_ ?_))
 ·rw [xl,w64 (n:=2 * (g.length : Int)) (by omega) (by omega),w64 (by omega) (by omega)]
  simp <;> omega
 ·rw [eL];omega
 rw [eL]
 simp only [eT]
 generalize n0 % (2 * g.length + 4) = n at hlt
 obtain ⟨Y,wY,oY,tY,hC,hJ⟩:=crash_ev b w t g hgr (by omega) (fun p hp=>(hB.2 p hp).2) h8 h76 n hlt
 have dd : diskB b w (-1) = true:=by
  simp only [groupB,Bool.and_eq_true] at hd1
  exact hd1.1
 refine Ev.bind (cut_ev b w (-1) n dd (by omega)) (Ev.bind hC (Ev_t rfl ?_))
 have eF : ((((if 2 * g.length + 2 ≤ n then 0 else 2 : Int)) == 0) != decide ((n : Int) ≥ ((planL g (hdrR g)).length : Int))) = false:=by
  by_cases c : 2 * g.length + 2 ≤ n
  ·rw [if_pos c,show decide ((n : Int) ≥ ((planL g (hdrR g)).length : Int)) = true by simp;omega];rfl
  ·rw [if_neg c,show decide ((n : Int) ≥ ((planL g (hdrR g)).length : Int)) = false by simp;omega];rfl
 simp only [eF]
 exact hJ
end Go.Proofs.Ytdepnaelaoakaaa.Pure
