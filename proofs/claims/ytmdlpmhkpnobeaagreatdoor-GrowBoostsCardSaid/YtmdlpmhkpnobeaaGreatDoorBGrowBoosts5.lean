/- Part 5 of the texts of GrowBoosts: words, the machine's side of functions (written by a program), plain lemmas. -/
import Derived.Test.YtmdlpmhkpnobeaaGreatDoorBGrowBoosts4
import Derived.KernelRfl
set_option linter.unusedVariables false
set_option linter.unusedSimpArgs false
open Nat renaming reduceEqDiff → za, reduceLeDiff → zb, reduceAdd → zd, reduceMul → ze, reduceMod → zf, reduceLT → zj, le_refl → zz, le_trans → zE, mul_le_mul_right → zK, zero_add → zX, add_mul → zZ, lt_of_lt_of_le → je, min_eq_left → jh, lt_or_ge → jl
open Int renaming reduceToNat → zc, reduceSub → zg, reduceNeg → zh, reduceAdd → zi, reduceLT → zk, reduceLE → zm, reduceEq → zn, natCast_nonneg → zq, ofNat_zero → zI, mul_le_mul_of_nonneg_right → zJ, natAbs → zM
open List renaming getD_eq_getElem?_getD → zo, take_of_length_le → zp, getElem?_eq_getElem → zr, take_length → zt, length_append → zx, length_map → zC, length_take → zD, length_cons → zF, mem_cons_self → zG, mem_cons_of_mem → zH, replicate → zL, length_replicate → zP, take → zQ, map_nil → zR, range → zT, length_set → zU, drop_of_length_le → zW, not_mem_nil → zY, mem_singleton → ja, map_append → jb, getElem?_append_right → jc, length_drop → jd, getElem?_eq_none → jf, length_singleton → jg, take_zero → jk
open Bool renaming and_eq_true → zu, false_eq_true → ji
open Option renaming map_eq_some_iff → zw, bind_eq_some_iff → zy, bind_some → zN, map_some → jj
open Rat renaming num → zV
open Go
namespace Go.Pe
theorem zeros_l0 {n : Nat} (hn : n ≠ 0) (hl : L n ≤ 4398046511104) : ∀ (d i : Nat),i + d = (D n).length → Dg.vl 4294967296 ((D n).take i) = 0 →
  ∃ z m c : Nat,n = 2 ^ z * (2 * m + 1) ∧ z ≤ 32 * L n ∧ LP FF [(3,0),(6,0),(7,0),(8,0)] [(2,0),(3,0)] b108_0 [(AV.i .i64 (((32 * i : Nat) : Int))),(AV.l 1 (List.map u (D n))),(AV.i .i64 (((D n).length : Int))),(AV.i .i64 ((i : Int)))] = some (.ret,[(AV.i .i64 ((z : Int))),(AV.i .i64 ((c : Int)))]) := by
 intro d
 have hl' : (D n).length ≤ 4398046511104 := hl
 induction d with
 | zero =>
  intro i hi hz
  rw [zp (by omega),D_vl] at hz
  omega
 | succ d ih =>
  intro i hi hz
  have g := D_get n i
  obtain ⟨x,hx⟩ := Int.eq_ofNat_of_zero_le g.1
  have e1 : IntKind.i64.wrap ((i : Int) + 1) = ((i + 1 : Nat) : Int) := w64succ (by omega)
  have e2 : IntKind.i64.wrap (((32 * i : Nat) : Int) + 32) = ((32 * (i + 1) : Nat) : Int) := by rw [w64 (by omega) (by omega)]; omega
  have e3 : IntKind.i64.wrap (32 * (i : Int)) = ((32 * i : Nat) : Int) := by rw [w64 (by omega) (by omega)]; omega
  by_cases h0 : x = 0
  ·subst h0
   obtain ⟨z,m,c,h1,h2,h3⟩ := ih (i + 1) (by omega) (by rw [Dg.vl_take_succ,hz,hx]; simp)
   refine ⟨z,m,c,h1,h2,?_⟩
   rw [LP_go FF b108_0.eq_1]
   simp only [RB,RL,un,St.none,za,zd,ze,zf,zb,zj,zk,zm,zn,zc,zg,zh,zi,↓reduceIte,reduceCtorEq,pack,pid,parN,lid,chkK,apartV,Heap.none,hx,e1,e2,e3]
   simp (disch := omega) only [if_pos,if_neg,zt,take_set_len,take_set2_len,take_rep_len,take_snoc_len,take_app_len]
   exact h3
  ·obtain ⟨k,m,hk⟩ := odd_part x h0
   have hxlt : x < 4294967296 := by omega
   obtain ⟨t1,t2⟩ := tz64 (x := (x : Int)) (k := k) (m := m) (by rw [hk]) (by omega)
   have hk32 : k < 32 := by
    rcases jl k 32 with h1 | h1
    ·exact h1
    ·have h2 : 2 ^ 32 ≤ 2 ^ k := Nat.pow_le_pow_right (by decide) h1
     have h3 : 2 ^ k * 1 ≤ 2 ^ k * (2 * m + 1) := Nat.mul_le_mul_left _ (by omega)
     rw [← hk] at h3
     have : (2 : Nat) ^ 32 = 4294967296 := by decide
     omega
   -- the number
   have hv := D_vl n
   rw [Dg.vl_take_drop 4294967296 (D n) i,hz,Dg.vl_drop_succ,hx] at hv
   obtain ⟨r,hr⟩ := Int.eq_ofNat_of_zero_le (Dg.vl_nonneg ((D_dig n).drop (i + 1)) (by decide))
   rw [hr] at hv
   have hn2 : n = 4294967296 ^ i * (x + 4294967296 * r) := by
    have : ((n : Nat) : Int) = ((4294967296 ^ i * (x + 4294967296 * r) : Nat) : Int) := by
     rw [← hv]
     simp only [Int.natCast_mul,Int.natCast_pow,Int.natCast_add]
     simp
    exact Int.ofNat.inj this
   have hp : (4294967296 : Nat) = 2 ^ k * (2 * 2 ^ (31 - k)) := by
    rw [show 2 * 2 ^ (31 - k) = 2 ^ (32 - k) by rw [show 32 - k = (31 - k) + 1 by omega,Nat.pow_succ,Nat.mul_comm],← Nat.pow_add,show k + (32 - k) = 32 by omega]
   refine ⟨32 * i + k,m + 2 ^ (31 - k) * r,32 * i,?_,?_,?_⟩
   ·rw [hn2,hk,Nat.pow_add,Nat.pow_mul,show (2 : Nat) ^ 32 = 4294967296 by decide,Nat.mul_assoc]
    congr 1
    conv => lhs; rw [hp]
    grind
   ·have : L n = (D n).length := rfl
    omega
   ·have e4 : IntKind.i64.wrap (((32 * i : Nat) : Int) + (k : Int)) = ((32 * i + k : Nat) : Int) := w64add (by omega)
    have e5 : ¬ (x : Int) = 0 := by omega
    clear hv hr hn2 hp hk hz hxlt
    rw [LP_go FF b108_0.eq_1]
    simp only [RB,RL,un,St.none,za,zd,ze,zf,zb,zj,zk,zm,zn,zc,zg,zh,zi,↓reduceIte,reduceCtorEq,pack,pid,parN,lid,chkK,apartV,Heap.none,hx,e1,e2,e3,t1,e4,e5]
    simp (disch := omega) only [if_pos,if_neg,zt,take_set_len,take_set2_len,take_rep_len,take_snoc_len,take_app_len]
theorem zeros_c {n : Nat} (hn : n ≠ 0) (hl : L n ≤ 4398046511104) : ∃ z m : Nat,n = 2 ^ z * (2 * m + 1) ∧ z ≤ 32 * L n ∧ R FF 108 [(AV.l 1 (List.map u (D n)))] = some (AV.i .i64 ((z : Int))) := by
 obtain ⟨z,m,c,h1,h2,h3⟩ := zeros_l0 hn hl (D n).length 0 (by omega) (by simp [Dg.vl])
 refine ⟨z,m,h1,h2,?_⟩
 rw [Nat.mul_zero,zI] at h3
 rw [R_go FF F108 c108.eq_1]
 simp only [RB,RL,un,St.none,za,zd,ze,zf,zb,zj,zk,zm,zn,zc,zg,zh,zi,↓reduceIte,reduceCtorEq,pack,pid,parN,lid,chkK,apartV,Heap.none,h3]
theorem to_c {x : List Int} (hx : U x) (hl : x.length ≤ 35184372088832) : R FF 127 [(AV.l 1 (List.map u x))] = some (if W x < 18446744073709551616 then .tup [(AV.i .u64 ((W x : Int))),.b true] else .tup [(AV.i .u64 0),.b false]) := by
 have h1 := clean_c hx hl
 generalize W x = n at *
 by_cases h0 : n = 0
 ·subst h0
  rw [R_go FF F127 c127.eq_1]
  simp only [RB,RL,un,St.none,za,zd,ze,zf,zb,zj,zk,zm,zn,zc,zg,zh,zi,↓reduceIte,reduceCtorEq,pack,pid,parN,lid,chkK,apartV,Heap.none,h1,D_zero,List.length_nil]
 by_cases h2 : n < 4294967296
 ·rw [D_small h0 h2] at h1
  rw [if_pos (by omega)]
  rw [R_go FF F127 c127.eq_1]
  simp only [RB,RL,un,St.none,za,zd,ze,zf,zb,zj,zk,zm,zn,zc,zg,zh,zi,↓reduceIte,reduceCtorEq,pack,pid,parN,lid,chkK,apartV,Heap.none,h1]
 by_cases h3 : n < 18446744073709551616
 ·rw [D_two (by omega) h3] at h1
  rw [if_pos h3]
  have e1 := shl32 (x := ((n / 4294967296 : Nat) : Int)) (by omega) (by omega)
  have e2 := or32 (x := ((n / 4294967296 : Nat) : Int)) (y := ((n % 4294967296 : Nat) : Int)) (by omega) (by omega) (by omega) (by omega)
  rw [R_go FF F127 c127.eq_1]
  simp only [RB,RL,un,St.none,za,zd,ze,zf,zb,zj,zk,zm,zn,zc,zg,zh,zi,↓reduceIte,reduceCtorEq,pack,pid,parN,lid,chkK,apartV,Heap.none,h1,e1,e2]
  congr 4
  omega
 ·rw [if_neg h3]
  have h4 := D_more (n := n) (by omega)
  rw [R_go FF F127 c127.eq_1]
  simp only [RB,RL,un,St.none,za,zd,ze,zf,zb,zj,zk,zm,zn,zc,zg,zh,zi,↓reduceIte,reduceCtorEq,pack,pid,parN,lid,chkK,apartV,Heap.none,h1]
  simp (disch := omega) only [if_pos,if_neg,zt,take_set_len,take_set2_len,take_rep_len,take_snoc_len,take_app_len]
theorem to_D {n : Nat} (hl : L n ≤ 35184372088832) : R FF 127 [(AV.l 1 (List.map u (D n)))] = some (if n < 18446744073709551616 then .tup [(AV.i .u64 ((n : Int))),.b true] else .tup [(AV.i .u64 0),.b false]) := by
 have := to_c (D_U n) hl
 rwa [W_D] at this
theorem euclid_l0 : ∀ (n a b : Nat),b ≤ n → a < 18446744073709551616 → b < 18446744073709551616 → LP FF [(5,0),(7,0)] [(5,0)] b107_0 [(AV.i .u64 ((a : Int))),(AV.i .u64 ((b : Int)))] = some (.exit 0,[(AV.i .u64 ((Nat.gcd a b : Int)))]) := by
 intro n
 induction n with
 | zero =>
  intro a b hb ha hb2
  have : b = 0 := by omega
  subst this
  rw [LP_go FF b107_0.eq_1]
  simp only [RB,RL,un,St.none,za,zd,ze,zf,zb,zj,zk,zm,zn,zc,zg,zh,zi,↓reduceIte,reduceCtorEq,pack,pid,parN,lid,chkK,apartV,Heap.none]
  rw [Nat.gcd_zero_right]
 | succ n ih =>
  intro a b hb ha hb2
  by_cases h0 : b = 0
  ·subst h0
   rw [LP_go FF b107_0.eq_1]
   simp only [RB,RL,un,St.none,za,zd,ze,zf,zb,zj,zk,zm,zn,zc,zg,zh,zi,↓reduceIte,reduceCtorEq,pack,pid,parN,lid,chkK,apartV,Heap.none]
   rw [Nat.gcd_zero_right]
  ·have h1 := Nat.mod_lt a (show 0 < b by omega)
   have h2 := ih b (a % b) (by omega) hb2 (by omega)
   have e1 : Int.tmod (a : Int) (b : Int) = ((a % b : Nat) : Int) := by rw [tmod_pos (by omega)]; omega
   have e2 : ¬ (b : Int) = 0 := by omega
   rw [show Nat.gcd b (a % b) = Nat.gcd a b by rw [Nat.gcd_comm b,← Nat.gcd_rec,Nat.gcd_comm]] at h2
   rw [LP_go FF b107_0.eq_1]
   simp only [RB,RL,un,St.none,za,zd,ze,zf,zb,zj,zk,zm,zn,zc,zg,zh,zi,↓reduceIte,reduceCtorEq,pack,pid,parN,lid,chkK,apartV,Heap.none,e1,e2]
   exact h2
theorem euclid_c {a b : Nat} (ha : a < 18446744073709551616) (hb : b < 18446744073709551616) : R FF 107 [(AV.l 1 (List.map u (D a))),(AV.l 1 (List.map u (D b)))] = some (AV.l 1 (List.map u (D (Nat.gcd a b)))) := by
 have la : L a ≤ 2 := L_le (by omega)
 have lb : L b ≤ 2 := L_le (by omega)
 have h1 := to_D (n := a) (by omega)
 have h2 := to_D (n := b) (by omega)
 rw [if_pos ha] at h1
 rw [if_pos hb] at h2
 have h3 := euclid_l0 b a b (zz _) ha hb
 have h4 : Nat.gcd a b < 18446744073709551616 := by
  rcases Nat.eq_zero_or_pos a with h | h
  ·subst h; rw [Nat.gcd_zero_left]; exact hb
  ·exact Nat.lt_of_le_of_lt (Nat.gcd_le_left b h) ha
 have h5 := of_c (x := ((Nat.gcd a b : Nat) : Int)) (by omega) (by omega) rfl
 rw [R_go FF F107 c107.eq_1]
 simp only [RB,RL,un,St.none,za,zd,ze,zf,zb,zj,zk,zm,zn,zc,zg,zh,zi,↓reduceIte,reduceCtorEq,pack,pid,parN,lid,chkK,apartV,Heap.none,h1,h2,h3,h5]
theorem rest_D {a b : Nat} (hb : b ≠ 0) (hl : L a ≤ 4398046511104) (hlb : L b ≤ 4398046511104) : R FF 112 [(AV.l 1 (List.map u (D a))),(AV.l 1 (List.map u (D b)))] = some (.tup [(AV.l 1 (List.map u (D (a / b)))),(AV.l 1 (List.map u (D (a % b))))]) := by
 have h1 := divmod_D hl hlb
 rw [if_neg hb] at h1
 rw [R_go FF F112 c112.eq_1]
 simp only [RB,RL,un,St.none,za,zd,ze,zf,zb,zj,zk,zm,zn,zc,zg,zh,zi,↓reduceIte,reduceCtorEq,pack,pid,parN,lid,chkK,apartV,Heap.none,h1]
theorem odd_gcd {k m b : Nat} (hb : b % 2 = 1) : Nat.gcd (2 ^ k * m) b = Nat.gcd m b := by
 refine Nat.Coprime.gcd_mul_left_cancel m (Nat.Coprime.pow_left k ?_)
 have h : Nat.gcd 2 b ∣ 2 := Nat.gcd_dvd_left 2 b
 have h2 : Nat.gcd 2 b ∣ b := Nat.gcd_dvd_right 2 b
 have h3 := Nat.le_of_dvd (by decide) h
 have h4 : Nat.gcd 2 b ≠ 0 := Nat.gcd_ne_zero_left (by decide)
 show Nat.gcd 2 b = 1
 rcases (show Nat.gcd 2 b = 1 ∨ Nat.gcd 2 b = 2 by omega) with h5 | h5
 ·exact h5
 ·rw [h5] at h2
  omega
theorem gcd_l0 {x y : Nat} (hx : x ≤ 140737488355328) (hy : y ≤ 140737488355328) : ∀ (n a b : Nat),a + b ≤ n → a % 2 = 1 → b % 2 = 1 → L a ≤ 4398046511104 → L b ≤ 4398046511104 →
  LP FF [(0,0),(1,0),(5,0),(6,0)] [(4,0)] b71_0 [(AV.l 1 (List.map u (D a))),(AV.l 1 (List.map u (D b))),(AV.i .i64 ((x : Int))),(AV.i .i64 ((y : Int)))] = some (.ret,[(AV.l 1 (List.map u (D (Nat.gcd a b * 2 ^ min x y))))]) := by
 intro n
 have hmin : (if (y : Int) < (x : Int) then (y : Int) else (x : Int)) = ((min x y : Nat) : Int) := by split <;> omega
 have hm32 : min x y / 32 ≤ 4398046511104 := by omega
 induction n with
 | zero => intro a b h ha; omega
 | succ n ih =>
  intro a b hn ha hb hla hlb
  have go : ∀ a2 s : Nat,a2 ≠ 0 → s % 2 = 1 → a2 + s < a + b → L a2 ≤ 4398046511104 → L s ≤ 4398046511104 → ∃ z m : Nat,R FF 108 [(AV.l 1 (List.map u (D a2)))] = some (AV.i .i64 ((z : Int))) ∧ R FF 109 [(AV.l 1 (List.map u (D a2))),(AV.i .i64 ((z : Int)))] = some (AV.l 1 (List.map u (D (2 * m + 1)))) ∧
    LP FF [(0,0),(1,0),(5,0),(6,0)] [(4,0)] b71_0 [(AV.l 1 (List.map u (D (2 * m + 1)))),(AV.l 1 (List.map u (D s))),(AV.i .i64 ((x : Int))),(AV.i .i64 ((y : Int)))] = some (.ret,[(AV.l 1 (List.map u (D (Nat.gcd a2 s * 2 ^ min x y))))]) := by
   intro a2 s h2 hs hlt hL2 hLs
   obtain ⟨z,m,h3,h4,h5⟩ := zeros_c h2 hL2
   have hp := Nat.two_pow_pos z
   have h6 := shr_D (m := a2) (n := z) (by omega) (by omega)
   have h7 : a2 / 2 ^ z = 2 * m + 1 := by rw [h3,Nat.mul_comm,Nat.mul_div_cancel _ hp]
   rw [h7] at h6
   have h8 : 2 * m + 1 ≤ a2 := by rw [← h7]; exact Nat.div_le_self _ _
   have h9 := ih (2 * m + 1) s (by omega) (by omega) hs (zE (L_mono h8) hL2) hLs
   rw [← odd_gcd (k := z) hs,← h3] at h9
   exact ⟨z,m,h5,h6,h9⟩
  have ho := order_c (m := a) (n := b) (by omega) (by omega)
  have la : (D a).length = L a := rfl
  have lb : (D b).length = L b := rfl
  have w1 : IntKind.i64.wrap ((L b : Int) + 1) = ((L b + 1 : Nat) : Int) := w64succ (by omega)
  have w2 : IntKind.i64.wrap ((L a : Int) + 1) = ((L a + 1 : Nat) : Int) := w64succ (by omega)
  rcases Nat.lt_trichotomy a b with hab | hab | hab
  ·have c1 : cmp (a : Int) b = -1 := cmp_lt (by omega)
   rw [c1] at ho
   by_cases hL : L a + 1 < L b
   ·have hr := rest_D (a := b) (b := a) (by omega) hlb hla
    have c2 : ((L a + 1 : Nat) : Int) < (L b : Int) := by omega
    by_cases hz : b % a = 0
    ·have hs := shl_D (m := a) (n := min x y) (by omega) (by omega) (by omega)
     have hg : Nat.gcd a b = a := Nat.gcd_eq_left (Nat.dvd_of_mod_eq_zero hz)
     rw [hg]
     rw [hz,D_zero] at hr
     rw [LP_go FF b71_0.eq_1]
     simp only [RB,RL,un,St.none,za,zd,ze,zf,zb,zj,zk,zm,zn,zc,zg,zh,zi,↓reduceIte,reduceCtorEq,pack,pid,parN,lid,chkK,apartV,Heap.none,ho,la,lb,w2,c2,hr,List.length_nil,hmin,hs]
    ·obtain ⟨z,m,g1,g2,g3⟩ := go (b % a) a hz ha (by have := Nat.mod_lt b (show 0 < a by omega); omega) (zE (L_mono (Nat.mod_le _ _)) hlb) hla
     have hz' : ¬ (L (b % a) : Int) = 0 := fun h => hz (D_nil.1 (List.eq_nil_of_length_eq_zero (by show L _ = 0; omega)))
     have lr : (D (b % a)).length = L (b % a) := rfl
     rw [← Nat.gcd_rec] at g3
     rw [LP_go FF b71_0.eq_1]
     simp only [RB,RL,un,St.none,za,zd,ze,zf,zb,zj,zk,zm,zn,zc,zg,zh,zi,↓reduceIte,reduceCtorEq,pack,pid,parN,lid,chkK,apartV,Heap.none,ho,la,lb,w2,c2,hr,lr,hz',g1,g2]
     exact g3
   ·have c2 : ¬ ((L a + 1 : Nat) : Int) < (L b : Int) := by omega
    have hm := nminus_c (m := b) (n := a) (by omega) (by omega)
    obtain ⟨z,m,g1,g2,g3⟩ := go (b - a) a (by omega) ha (by omega) (zE (L_mono (by omega)) hlb) hla
    rw [Nat.gcd_sub_self_left (by omega),Nat.gcd_comm] at g3
    rw [LP_go FF b71_0.eq_1]
    simp only [RB,RL,un,St.none,za,zd,ze,zf,zb,zj,zk,zm,zn,zc,zg,zh,zi,↓reduceIte,reduceCtorEq,pack,pid,parN,lid,chkK,apartV,Heap.none,ho,la,lb,w2,c2,hm,g1,g2]
    exact g3
  ·subst hab
   have c1 : cmp (a : Int) a = 0 := cmp_eq rfl
   rw [c1] at ho
   have hs := shl_D (m := a) (n := min x y) (by omega) (by omega) (by omega)
   rw [Nat.gcd_self]
   rw [LP_go FF b71_0.eq_1]
   simp only [RB,RL,un,St.none,za,zd,ze,zf,zb,zj,zk,zm,zn,zc,zg,zh,zi,↓reduceIte,reduceCtorEq,pack,pid,parN,lid,chkK,apartV,Heap.none,ho,hmin,hs]
  ·have c1 : cmp (a : Int) b = 1 := cmp_gt (by omega)
   rw [c1] at ho
   by_cases hL : L b + 1 < L a
   ·have hr := rest_D (a := a) (b := b) (by omega) hla hlb
    have c2 : ((L b + 1 : Nat) : Int) < (L a : Int) := by omega
    by_cases hz : a % b = 0
    ·have hs := shl_D (m := b) (n := min x y) (by omega) (by omega) (by omega)
     have hg : Nat.gcd a b = b := Nat.gcd_eq_right (Nat.dvd_of_mod_eq_zero hz)
     rw [hg]
     rw [hz,D_zero] at hr
     rw [LP_go FF b71_0.eq_1]
     simp only [RB,RL,un,St.none,za,zd,ze,zf,zb,zj,zk,zm,zn,zc,zg,zh,zi,↓reduceIte,reduceCtorEq,pack,pid,parN,lid,chkK,apartV,Heap.none,ho,la,lb,w1,c2,hr,List.length_nil,hmin,hs]
    ·obtain ⟨z,m,g1,g2,g3⟩ := go (a % b) b hz hb (by have := Nat.mod_lt a (show 0 < b by omega); omega) (zE (L_mono (Nat.mod_le _ _)) hla) hlb
     have hz' : ¬ (L (a % b) : Int) = 0 := fun h => hz (D_nil.1 (List.eq_nil_of_length_eq_zero (by show L _ = 0; omega)))
     have lr : (D (a % b)).length = L (a % b) := rfl
     rw [← Nat.gcd_rec,Nat.gcd_comm] at g3
     rw [LP_go FF b71_0.eq_1]
     simp only [RB,RL,un,St.none,za,zd,ze,zf,zb,zj,zk,zm,zn,zc,zg,zh,zi,↓reduceIte,reduceCtorEq,pack,pid,parN,lid,chkK,apartV,Heap.none,ho,la,lb,w1,c2,hr,lr,hz',g1,g2]
     exact g3
   ·have c2 : ¬ ((L b + 1 : Nat) : Int) < (L a : Int) := by omega
    have hm := nminus_c (m := a) (n := b) (by omega) (by omega)
    obtain ⟨z,m,g1,g2,g3⟩ := go (a - b) b (by omega) hb (by omega) (zE (L_mono (by omega)) hla) hlb
    rw [Nat.gcd_sub_self_left (by omega)] at g3
    rw [LP_go FF b71_0.eq_1]
    simp only [RB,RL,un,St.none,za,zd,ze,zf,zb,zj,zk,zm,zn,zc,zg,zh,zi,↓reduceIte,reduceCtorEq,pack,pid,parN,lid,chkK,apartV,Heap.none,ho,la,lb,w1,c2,hm,g1,g2]
    exact g3
theorem gcd_c {x y : List Int} (hx : U x) (hy : U y) (hla : x.length ≤ 2199023255552) (hlb : y.length ≤ 2199023255552) : R FF 71 [(AV.l 1 (List.map u x)),(AV.l 1 (List.map u y))] = some (AV.l 1 (List.map u (D (Nat.gcd (W x) (W y))))) := by
 have h1 := clean_c hx (by omega)
 have h2 := clean_c hy (by omega)
 have hl := L_W x
 have hl2 := L_W y
 generalize W x = a at *
 generalize W y = b at *
 have la : (D a).length = L a := rfl
 have lb : (D b).length = L b := rfl
 by_cases h3 : a = 0
 ·subst h3
  rw [Nat.gcd_zero_left]
  rw [R_go FF F71 c71.eq_1]
  simp only [RB,RL,un,St.none,za,zd,ze,zf,zb,zj,zk,zm,zn,zc,zg,zh,zi,↓reduceIte,reduceCtorEq,pack,pid,parN,lid,chkK,apartV,Heap.none,h1,h2,D_zero,List.length_nil]
 by_cases h4 : b = 0
 ·subst h4
  rw [Nat.gcd_zero_right]
  have c1 : ¬ (L a : Int) = 0 := fun h => h3 (D_nil.1 (List.eq_nil_of_length_eq_zero (by show L _ = 0; omega)))
  rw [R_go FF F71 c71.eq_1]
  simp only [RB,RL,un,St.none,za,zd,ze,zf,zb,zj,zk,zm,zn,zc,zg,zh,zi,↓reduceIte,reduceCtorEq,pack,pid,parN,lid,chkK,apartV,Heap.none,h1,h2,la,c1,D_zero,List.length_nil]
 have c1 : ¬ (L a : Int) = 0 := fun h => h3 (D_nil.1 (List.eq_nil_of_length_eq_zero (by show L _ = 0; omega)))
 have c2 : ¬ (L b : Int) = 0 := fun h => h4 (D_nil.1 (List.eq_nil_of_length_eq_zero (by show L _ = 0; omega)))
 by_cases h5 : L a ≤ 2 ∧ L b ≤ 2
 ·have k1 : (L a : Int) ≤ 2 := by omega
  have k2 : (L b : Int) ≤ 2 := by omega
  have b1 : a < 18446744073709551616 := by
   have := L_lt a
   have h6 : 4294967296 ^ L a ≤ 4294967296 ^ 2 := Nat.pow_le_pow_right (by decide) h5.1
   have h7 : (4294967296 : Nat) ^ 2 = 18446744073709551616 := by decide
   omega
  have b2 : b < 18446744073709551616 := by
   have := L_lt b
   have h6 : 4294967296 ^ L b ≤ 4294967296 ^ 2 := Nat.pow_le_pow_right (by decide) h5.2
   have h7 : (4294967296 : Nat) ^ 2 = 18446744073709551616 := by decide
   omega
  have h6 := euclid_c b1 b2
  rw [R_go FF F71 c71.eq_1]
  simp only [RB,RL,un,St.none,za,zd,ze,zf,zb,zj,zk,zm,zn,zc,zg,zh,zi,↓reduceIte,reduceCtorEq,pack,pid,parN,lid,chkK,apartV,Heap.none,h1,h2,la,lb,c1,c2,k1,k2,h6]
 ·obtain ⟨z,m,g1,g2,g3⟩ := zeros_c h3 (by omega)
  obtain ⟨z',m',g4,g5,g6⟩ := zeros_c h4 (by omega)
  have s1 := shr_D (m := a) (n := z) (by omega) (by omega)
  have s2 := shr_D (m := b) (n := z') (by omega) (by omega)
  rw [show a / 2 ^ z = 2 * m + 1 by rw [g1,Nat.mul_comm,Nat.mul_div_cancel _ (Nat.two_pow_pos z)]] at s1
  rw [show b / 2 ^ z' = 2 * m' + 1 by rw [g4,Nat.mul_comm,Nat.mul_div_cancel _ (Nat.two_pow_pos z')]] at s2
  have le1 : 2 * m + 1 ≤ a := by rw [g1]; exact Nat.le_mul_of_pos_left _ (Nat.two_pow_pos z)
  have le2 : 2 * m' + 1 ≤ b := by rw [g4]; exact Nat.le_mul_of_pos_left _ (Nat.two_pow_pos z')
  have h6 := gcd_l0 (x := z) (y := z') (by omega) (by omega) _ (2 * m + 1) (2 * m' + 1) (zz _) (by omega) (by omega) (zE (L_mono le1) (by omega)) (zE (L_mono le2) (by omega))
  have h7 : Nat.gcd (2 * m + 1) (2 * m' + 1) * 2 ^ min z z' = Nat.gcd a b := by
   have hp : Nat.gcd (2 ^ z) (2 ^ z') = 2 ^ min z z' := by
    rcases Nat.le_total z z' with h | h
    ·rw [jh h]; exact Nat.gcd_eq_left (Nat.pow_dvd_pow 2 h)
    ·rw [Nat.min_eq_right h]; exact Nat.gcd_eq_right (Nat.pow_dvd_pow 2 h)
   rcases Nat.le_total z z' with h | h
   ·rw [jh h,g1,g4,show z' = z + (z' - z) by omega,Nat.pow_add,Nat.mul_assoc,Nat.gcd_mul_left,Nat.mul_comm (2 ^ z)]
    congr 1
    rw [Nat.gcd_comm (2 * m + 1) (2 ^ (z' - z) * (2 * m' + 1)),odd_gcd (by omega),Nat.gcd_comm]
   ·rw [Nat.min_eq_right h,g1,g4,show z = z' + (z - z') by omega,Nat.pow_add,Nat.mul_assoc,Nat.gcd_mul_left,Nat.mul_comm (2 ^ z')]
    congr 1
    rw [odd_gcd (by omega)]
  rw [h7] at h6
  have k1 : ¬ ((L a : Int) ≤ 2 ∧ (L b : Int) ≤ 2) := by omega
  clear g1 g4 h7 le1 le2
  rcases Classical.not_and_iff_not_or_not.1 k1 with k | k
  ·rw [R_go FF F71 c71.eq_1]
   simp only [RB,RL,un,St.none,za,zd,ze,zf,zb,zj,zk,zm,zn,zc,zg,zh,zi,↓reduceIte,reduceCtorEq,pack,pid,parN,lid,chkK,apartV,Heap.none,h1,h2,la,lb,c1,c2,k,g3,g6,s1,s2,h6]
  ·by_cases k' : (L a : Int) ≤ 2
   ·rw [R_go FF F71 c71.eq_1]
    simp only [RB,RL,un,St.none,za,zd,ze,zf,zb,zj,zk,zm,zn,zc,zg,zh,zi,↓reduceIte,reduceCtorEq,pack,pid,parN,lid,chkK,apartV,Heap.none,h1,h2,la,lb,c1,c2,k,k',g3,g6,s1,s2,h6]
   ·rw [R_go FF F71 c71.eq_1]
    simp only [RB,RL,un,St.none,za,zd,ze,zf,zb,zj,zk,zm,zn,zc,zg,zh,zi,↓reduceIte,reduceCtorEq,pack,pid,parN,lid,chkK,apartV,Heap.none,h1,h2,la,lb,c1,c2,k',g3,g6,s1,s2,h6]
theorem gcd_D {a b : Nat} (hla : L a ≤ 2199023255552) (hlb : L b ≤ 2199023255552) : R FF 71 [(AV.l 1 (List.map u (D a))),(AV.l 1 (List.map u (D b)))] = some (AV.l 1 (List.map u (D (Nat.gcd a b)))) := by
 have := gcd_c (D_U a) (D_U b) hla hlb
 rwa [W_D,W_D] at this
theorem right_iff {l : List Int} (hu : U l) : l = D (W l) ↔ (∀ x ∈ l,x ≤ 4294967295) ∧ (l.length = 0 ∨ l.getD (l.length - 1) 0 ≠ 0) := by
 constructor
 ·intro h
  refine ⟨fun x hx => ?_,?_⟩
  ·rw [h] at hx
   have := D_dig (W l) x hx
   omega
  ·by_cases h0 : l.length = 0
   ·exact .inl h0
   ·right
    have ht := D_top (W l)
    rw [← h] at ht
    exact ht (fun e => h0 (by rw [e]; rfl))
 ·rintro ⟨h1,h2⟩
  have hd : Dg.Dig 4294967296 l := fun x hx => ⟨(hu x hx).1,by have := h1 x hx; omega⟩
  refine D_of hd (fun hne => ?_) (W_dig hd).symm
  rcases h2 with h2 | h2
  ·exact absurd (List.eq_nil_of_length_eq_zero h2) hne
  ·exact h2
theorem rright_l0 {l : List Int} (hu : U l) (hl : l.length ≤ 35184372088832) : ∀ (d i : Nat),i + d = l.length → (∀ j,j < i → l.getD j 0 ≤ 4294967295) →
  ∃ ex v,LP FF [(0,0),(3,0)] [(0,0),(2,0)] b91_0 [(AV.l 1 (List.map u l)),(AV.i .i64 ((i : Int)))] = some (ex,[(AV.l 1 (List.map u l)),v]) ∧ (ex = .exit 0 ∧ (∀ x ∈ l,x ≤ 4294967295) ∨ ex = .ret ∧ v = .b false ∧ ¬ ∀ x ∈ l,x ≤ 4294967295) := by
 intro d
 induction d with
 | zero =>
  intro i hi hz
  refine ⟨.exit 0,.junk,?_,.inl ⟨rfl,fun x hx => ?_⟩⟩
  ·rw [LP_go FF b91_0.eq_1]
   simp only [RB,RL,un,St.none,za,zd,ze,zf,zb,zj,zk,zm,zn,zc,zg,zh,zi,↓reduceIte,reduceCtorEq,pack,pid,parN,lid,chkK,apartV,Heap.none]
   simp (disch := omega) only [if_pos,if_neg,zt,take_set_len,take_set2_len,take_rep_len,take_snoc_len,take_app_len]
  ·obtain ⟨j,hj,rfl⟩ := List.getElem_of_mem hx
   have := hz j (by omega)
   rwa [zo,zr hj] at this
 | succ d ih =>
  intro i hi hz
  have g := U_get hu i
  have e1 : IntKind.i64.wrap ((i : Int) + 1) = ((i + 1 : Nat) : Int) := w64succ (by omega)
  by_cases h : l.getD i 0 ≤ 4294967295
  ·obtain ⟨ex,v,h1,h2⟩ := ih (i + 1) (by omega) fun j hj => by
    rcases jl j i with h3 | h3
    ·exact hz j h3
    ·rw [show j = i by omega]; exact h
   refine ⟨ex,v,?_,h2⟩
   have h3 : ¬ 4294967295 < l.getD i 0 := by omega
   rw [LP_go FF b91_0.eq_1]
   simp only [RB,RL,un,St.none,za,zd,ze,zf,zb,zj,zk,zm,zn,zc,zg,zh,zi,↓reduceIte,reduceCtorEq,pack,pid,parN,lid,chkK,apartV,Heap.none,e1,h3]
   simp (disch := omega) only [if_pos,if_neg,zt,take_set_len,take_set2_len,take_rep_len,take_snoc_len,take_app_len]
   exact h1
  ·refine ⟨.ret,.b false,?_,.inr ⟨rfl,rfl,fun hh => h (hh _ ?_)⟩⟩
   ·have h3 : 4294967295 < l.getD i 0 := by omega
    rw [LP_go FF b91_0.eq_1]
    simp only [RB,RL,un,St.none,za,zd,ze,zf,zb,zj,zk,zm,zn,zc,zg,zh,zi,↓reduceIte,reduceCtorEq,pack,pid,parN,lid,chkK,apartV,Heap.none,h3]
    simp (disch := omega) only [if_pos,if_neg,zt,take_set_len,take_set2_len,take_rep_len,take_snoc_len,take_app_len]
   ·rw [zo,zr (by omega)]
    exact List.getElem_mem _
theorem rright_c {l : List Int} (hu : U l) (hl : l.length ≤ 35184372088832) : R FF 91 [(AV.l 1 (List.map u l))] = some (.b (decide (l = D (W l)))) := by
 obtain ⟨ex,v,h1,h2⟩ := rright_l0 hu hl l.length 0 (by omega) (fun j hj => by omega)
 rw [zI] at h1
 have hr := right_iff hu
 rcases h2 with ⟨rfl,h2⟩ | ⟨rfl,rfl,h2⟩
 ·by_cases h0 : l.length = 0
  ·have h3 : l = D (W l) := hr.2 ⟨h2,.inl h0⟩
   have h4 : decide (l = D (W l)) = true := decide_eq_true h3
   have h5 : (l.length : Int) = 0 := by omega
   rw [h4]
   try rw [h5] at h1
   rw [R_go FF F91 c91.eq_1]
   simp only [RB,RL,un,St.none,za,zd,ze,zf,zb,zj,zk,zm,zn,zc,zg,zh,zi,↓reduceIte,reduceCtorEq,pack,pid,parN,lid,chkK,apartV,Heap.none,h1,h5]
  ·have h5 : ¬ (l.length : Int) = 0 := by omega
   have e1 : IntKind.i64.wrap ((l.length : Int) - 1) = ((l.length - 1 : Nat) : Int) := by rw [w64 (by omega) (by omega)]; omega
   have h6 : (l = D (W l)) ↔ l.getD (l.length - 1) 0 ≠ 0 := by
    rw [hr]
    exact ⟨fun h => h.2.resolve_left h0,fun h => ⟨h2,.inr h⟩⟩
   rw [R_go FF F91 c91.eq_1]
   simp only [RB,RL,un,St.none,za,zd,ze,zf,zb,zj,zk,zm,zn,zc,zg,zh,zi,↓reduceIte,reduceCtorEq,pack,pid,parN,lid,chkK,apartV,Heap.none,h1,h5,e1]
   simp (disch := omega) only [if_pos,if_neg,zt,take_set_len,take_set2_len,take_rep_len,take_snoc_len,take_app_len]
   have h8 : decide (l = D (W l)) = !decide (l.getD (l.length - 1) 0 = 0) := by
    by_cases h7 : l.getD (l.length - 1) 0 = 0
    ·rw [decide_eq_false fun h => h6.1 h h7,decide_eq_true h7]; rfl
    ·rw [decide_eq_true (h6.2 h7),decide_eq_false h7]; rfl
   rw [h8]
 ·have h3 : ¬ l = D (W l) := fun h => h2 (hr.1 h).1
  have h4 : decide (l = D (W l)) = false := decide_eq_false h3
  rw [h4]
  rw [R_go FF F91 c91.eq_1]
  simp only [RB,RL,un,St.none,za,zd,ze,zf,zb,zj,zk,zm,zn,zc,zg,zh,zi,↓reduceIte,reduceCtorEq,pack,pid,parN,lid,chkK,apartV,Heap.none,h1]
def ng (n : Int) : Bool := decide (n < 0)
def sv (q : Bool) (k : Nat) : Int := if q then -(k : Int) else (k : Int)
def wv (q : Bool) (l : List Int) : Int := sv q (W l)
theorem sv_abs (q : Bool) (k : Nat) : (sv q k).natAbs = k := by unfold sv; cases q <;> simp
theorem sv_ng (q : Bool) (k : Nat) : ng (sv q k) = (q && decide (0 < k)) := by
 unfold sv ng
 cases q
 ·simp
 ·by_cases h : 0 < k
  ·simp [h]
  ·have : k = 0 := by omega
   subst this
   simp
theorem sv_self (n : Int) : sv (ng n) n.natAbs = n := by
 unfold sv ng
 by_cases h : n < 0
 ·simp [h]; omega
 ·simp [h]; omega
theorem wv_ci (n : Int) : wv (ng n) (D n.natAbs) = n := by unfold wv; rw [W_D,sv_self]
theorem ng_true {n : Int} : ng n = true ↔ n < 0 := by unfold ng; simp
theorem ng_false {n : Int} : ng n = false ↔ 0 ≤ n := by unfold ng; simp
theorem wv_L (q : Bool) (l : List Int) : L (wv q l).natAbs ≤ l.length := by unfold wv; rw [sv_abs]; exact L_W l
theorem L_pos {k : Nat} : (0 < (L k : Int)) ↔ 0 < k := by
 have : L k = 0 ↔ k = 0 := by
  show (D k).length = 0 ↔ _
  rw [List.length_eq_zero_iff,D_nil]
 omega
theorem sign_c (q : Bool) (k : Nat) : R FF 92 [.b q,(AV.l 1 (List.map u (D k)))] = some (AV.agg [AV.b (ng (sv q k)),(AV.l 1 (List.map u (D (zM (sv q k)))))]) := by
 have h1 : (D k).length = L k := rfl
 rw [sv_abs,sv_ng]
 cases q
 ·rw [R_go FF F92 c92.eq_1]
  simp only [RB,RL,un,St.none,za,zd,ze,zf,zb,zj,zk,zm,zn,zc,zg,zh,zi,↓reduceIte,reduceCtorEq,pack,pid,parN,lid,chkK,apartV,Heap.none]
 ·have h2 : decide (0 < (L k : Int)) = decide (0 < k) := decide_eq_decide.2 L_pos
  rw [R_go FF F92 c92.eq_1]
  simp only [RB,RL,un,St.none,za,zd,ze,zf,zb,zj,zk,zm,zn,zc,zg,zh,zi,↓reduceIte,reduceCtorEq,pack,pid,parN,lid,chkK,apartV,Heap.none,h1,h2]
theorem wclean_c {q : Bool} {l : List Int} (hu : U l) (hl : l.length ≤ 35184372088832) : R FF 81 [(AV.agg [AV.b q,(AV.l 1 (List.map u l))])] = some (AV.agg [AV.b (ng (wv q l)),(AV.l 1 (List.map u (D (zM (wv q l)))))]) := by
 have h1 := clean_c hu hl
 have h2 := sign_c q (W l)
 rw [R_go FF F81 c81.eq_1]
 simp only [RB,RL,un,St.none,za,zd,ze,zf,zb,zj,zk,zm,zn,zc,zg,zh,zi,↓reduceIte,reduceCtorEq,pack,pid,parN,lid,chkK,apartV,Heap.none,h1,h2]
 rfl
theorem wof_c {x : Int} (h0 : -9223372036854775808 ≤ x) (h1 : x ≤ 9223372036854775807) : R FF 82 [(AV.i .i64 x)] = some (AV.agg [AV.b (ng x),(AV.l 1 (List.map u (D (zM x))))]) := by
 by_cases hx : x < 0
 ·have e1 : IntKind.u64.wrap (0 - IntKind.u64.wrap x) = ((x.natAbs : Nat) : Int) := by rw [u64m,u64m]; omega
  have h2 := of_c (x := ((x.natAbs : Nat) : Int)) (by omega) (by omega) rfl
  have h3 := sign_c true x.natAbs
  rw [show sv true x.natAbs = x by unfold sv; simp; omega] at h3
  rw [R_go FF F82 c82.eq_1]
  simp only [RB,RL,un,St.none,za,zd,ze,zf,zb,zj,zk,zm,zn,zc,zg,zh,zi,↓reduceIte,reduceCtorEq,pack,pid,parN,lid,chkK,apartV,Heap.none,hx,e1,h2,h3]
 ·have e1 : IntKind.u64.wrap x = ((x.natAbs : Nat) : Int) := by rw [u64m]; omega
  have h2 := of_c (x := ((x.natAbs : Nat) : Int)) (by omega) (by omega) rfl
  have h3 := sign_c false x.natAbs
  rw [show sv false x.natAbs = x by unfold sv; simp; omega] at h3
  rw [R_go FF F82 c82.eq_1]
  simp only [RB,RL,un,St.none,za,zd,ze,zf,zb,zj,zk,zm,zn,zc,zg,zh,zi,↓reduceIte,reduceCtorEq,pack,pid,parN,lid,chkK,apartV,Heap.none,hx,e1,h2,h3]
theorem wsign_c {q : Bool} {l : List Int} (hu : U l) (hl : l.length ≤ 35184372088832) : R FF 83 [(AV.agg [AV.b q,(AV.l 1 (List.map u l))])] = some (AV.i .i64 (cmp (wv q l) 0)) := by
 have h1 := wclean_c (q := q) hu hl
 generalize wv q l = n at *
 have h2 : (D n.natAbs).length = L n.natAbs := rfl
 rcases Int.lt_trichotomy n 0 with h | h | h
 ·rw [ng_true.2 h] at h1
  rw [cmp_lt h]
  rw [R_go FF F83 c83.eq_1]
  simp only [RB,RL,un,St.none,za,zd,ze,zf,zb,zj,zk,zm,zn,zc,zg,zh,zi,↓reduceIte,reduceCtorEq,pack,pid,parN,lid,chkK,apartV,Heap.none,h1]
 ·subst h
  rw [ng_false.2 (Int.le_refl _)] at h1
  rw [R_go FF F83 c83.eq_1]
  simp only [RB,RL,un,St.none,za,zd,ze,zf,zb,zj,zk,zm,zn,zc,zg,zh,zi,↓reduceIte,reduceCtorEq,pack,pid,parN,lid,chkK,apartV,Heap.none,h1,Int.natAbs_zero,D_zero,List.length_nil]
  rfl
 ·rw [ng_false.2 (by omega)] at h1
  rw [cmp_gt h]
  have h3 := L_pos (k := n.natAbs)
  have h4 : ¬ (L n.natAbs : Int) = 0 := by omega
  rw [R_go FF F83 c83.eq_1]
  simp only [RB,RL,un,St.none,za,zd,ze,zf,zb,zj,zk,zm,zn,zc,zg,zh,zi,↓reduceIte,reduceCtorEq,pack,pid,parN,lid,chkK,apartV,Heap.none,h1,h2,h4]
theorem wneg_c {q : Bool} {l : List Int} (hu : U l) (hl : l.length ≤ 35184372088832) : R FF 86 [(AV.agg [AV.b q,(AV.l 1 (List.map u l))])] = some (AV.agg [AV.b (ng (-(wv q l))),(AV.l 1 (List.map u (D (zM (-(wv q l))))))]) := by
 have h1 := wclean_c (q := q) hu hl
 generalize wv q l = n at *
 have h2 := sign_c (!(ng n)) n.natAbs
 rw [show sv (!(ng n)) n.natAbs = -n by unfold sv ng; by_cases h : n < 0 <;> simp [h] <;> omega] at h2
 rw [R_go FF F86 c86.eq_1]
 simp only [RB,RL,un,St.none,za,zd,ze,zf,zb,zj,zk,zm,zn,zc,zg,zh,zi,↓reduceIte,reduceCtorEq,pack,pid,parN,lid,chkK,apartV,Heap.none,h1,h2]
theorem wcmp_c {q r : Bool} {l m : List Int} (hu : U l) (hl : l.length ≤ 35184372088832) (hv : U m) (hm : m.length ≤ 35184372088832) : R FF 64 [(AV.agg [AV.b q,(AV.l 1 (List.map u l))]),(AV.agg [AV.b r,(AV.l 1 (List.map u m))])] = some (AV.i .i64 (cmp (wv q l) (wv r m))) := by
 have h1 := wclean_c (q := q) hu hl
 have h2 := wclean_c (q := r) hv hm
 have l1 := wv_L q l
 have l2 := wv_L r m
 generalize wv q l = a at *
 generalize wv r m = b at *
 have la : (D a.natAbs).length = L a.natAbs := rfl
 have lb : (D b.natAbs).length = L b.natAbs := rfl
 have c1 := cmp_c (D_U a.natAbs) (D_U b.natAbs) (by omega) (by omega)
 have c2 := cmp_c (D_U b.natAbs) (D_U a.natAbs) (by omega) (by omega)
 rw [W_D,W_D] at c1 c2
 cases ha : ng a <;> cases hb : ng b <;> rw [ha] at h1 <;> rw [hb] at h2 <;> (first | rw [ng_true] at ha | rw [ng_false] at ha) <;> (first | rw [ng_true] at hb | rw [ng_false] at hb)
 ·rw [show ((a.natAbs : Nat) : Int) = a by omega,show ((b.natAbs : Nat) : Int) = b by omega] at c1
  rw [R_go FF F64 c64.eq_1]
  simp only [RB,RL,un,St.none,za,zd,ze,zf,zb,zj,zk,zm,zn,zc,zg,zh,zi,↓reduceIte,reduceCtorEq,pack,pid,parN,lid,chkK,apartV,Heap.none,h1,h2,c1]
 ·rw [cmp_gt (by omega)]
  rw [R_go FF F64 c64.eq_1]
  simp only [RB,RL,un,St.none,za,zd,ze,zf,zb,zj,zk,zm,zn,zc,zg,zh,zi,↓reduceIte,reduceCtorEq,pack,pid,parN,lid,chkK,apartV,Heap.none,h1,h2]
 ·rw [cmp_lt (by omega)]
  rw [R_go FF F64 c64.eq_1]
  simp only [RB,RL,un,St.none,za,zd,ze,zf,zb,zj,zk,zm,zn,zc,zg,zh,zi,↓reduceIte,reduceCtorEq,pack,pid,parN,lid,chkK,apartV,Heap.none,h1,h2]
 ·have e : cmp ((b.natAbs : Nat) : Int) ((a.natAbs : Nat) : Int) = cmp a b := by unfold cmp; split <;> split <;> (try split) <;> (try split) <;> omega
  rw [e] at c2
  rw [R_go FF F64 c64.eq_1]
  simp only [RB,RL,un,St.none,za,zd,ze,zf,zb,zj,zk,zm,zn,zc,zg,zh,zi,↓reduceIte,reduceCtorEq,pack,pid,parN,lid,chkK,apartV,Heap.none,h1,h2,c2]
theorem sv_add {q : Bool} {a b : Int} (ha : ng a = q) (hb : ng b = q) : sv q (a.natAbs + b.natAbs) = a + b := by
 cases q
 ·rw [ng_false] at ha hb; unfold sv; simp; omega
 ·rw [ng_true] at ha hb; unfold sv; simp; omega
theorem wadd_c {q r : Bool} {l m : List Int} (hu : U l) (hl : l.length ≤ 17592186044416) (hv : U m) (hm : m.length ≤ 17592186044416) : R FF 76 [(AV.agg [AV.b q,(AV.l 1 (List.map u l))]),(AV.agg [AV.b r,(AV.l 1 (List.map u m))])] = some (AV.agg [AV.b (ng (wv q l + wv r m)),(AV.l 1 (List.map u (D (zM (wv q l + wv r m)))))]) := by
 have h1 := wclean_c (q := q) hu (by omega)
 have h2 := wclean_c (q := r) hv (by omega)
 have l1 := wv_L q l
 have l2 := wv_L r m
 generalize wv q l = a at *
 generalize wv r m = b at *
 have s1 := add_D (m := a.natAbs) (n := b.natAbs) (by omega) (by omega)
 have c1 := cmp_c (D_U a.natAbs) (D_U b.natAbs) (show L a.natAbs ≤ _ by omega) (show L b.natAbs ≤ _ by omega)
 rw [W_D,W_D] at c1
 cases ha : ng a <;> cases hb : ng b <;> rw [ha] at h1 <;> rw [hb] at h2
 ·have g1 := sign_c false (a.natAbs + b.natAbs)
  rw [sv_add ha hb] at g1
  rw [R_go FF F76 c76.eq_1]
  simp only [RB,RL,un,St.none,za,zd,ze,zf,zb,zj,zk,zm,zn,zc,zg,zh,zi,↓reduceIte,reduceCtorEq,pack,pid,parN,lid,chkK,apartV,Heap.none,h1,h2,s1,g1]
 ·rw [ng_false] at ha
  rw [ng_true] at hb
  by_cases hlt : a.natAbs < b.natAbs
  ·have hc : cmp ((a.natAbs : Nat) : Int) ((b.natAbs : Nat) : Int) < 0 := cmp_lt_iff.2 (by omega)
   have d1 := sub_ge (D_U b.natAbs) (D_U a.natAbs) (show L b.natAbs ≤ _ by omega) (show L a.natAbs ≤ _ by omega) (by rw [W_D,W_D]; omega)
   rw [W_D,W_D] at d1
   have g1 := sign_c true (b.natAbs - a.natAbs)
   rw [show sv true (b.natAbs - a.natAbs) = a + b by unfold sv; simp; omega] at g1
   rw [R_go FF F76 c76.eq_1]
   simp only [RB,RL,un,St.none,za,zd,ze,zf,zb,zj,zk,zm,zn,zc,zg,zh,zi,↓reduceIte,reduceCtorEq,pack,pid,parN,lid,chkK,apartV,Heap.none,h1,h2,c1,hc,d1,g1]
  ·have hc : ¬ cmp ((a.natAbs : Nat) : Int) ((b.natAbs : Nat) : Int) < 0 := fun h => by have := cmp_lt_iff.1 h; omega
   have d1 := sub_ge (D_U a.natAbs) (D_U b.natAbs) (show L a.natAbs ≤ _ by omega) (show L b.natAbs ≤ _ by omega) (by rw [W_D,W_D]; omega)
   rw [W_D,W_D] at d1
   have g1 := sign_c false (a.natAbs - b.natAbs)
   rw [show sv false (a.natAbs - b.natAbs) = a + b by unfold sv; simp; omega] at g1
   rw [R_go FF F76 c76.eq_1]
   simp only [RB,RL,un,St.none,za,zd,ze,zf,zb,zj,zk,zm,zn,zc,zg,zh,zi,↓reduceIte,reduceCtorEq,pack,pid,parN,lid,chkK,apartV,Heap.none,h1,h2,c1,hc,d1,g1]
 ·rw [ng_true] at ha
  rw [ng_false] at hb
  by_cases hlt : a.natAbs < b.natAbs
  ·have hc : cmp ((a.natAbs : Nat) : Int) ((b.natAbs : Nat) : Int) < 0 := cmp_lt_iff.2 (by omega)
   have d1 := sub_ge (D_U b.natAbs) (D_U a.natAbs) (show L b.natAbs ≤ _ by omega) (show L a.natAbs ≤ _ by omega) (by rw [W_D,W_D]; omega)
   rw [W_D,W_D] at d1
   have g1 := sign_c false (b.natAbs - a.natAbs)
   rw [show sv false (b.natAbs - a.natAbs) = a + b by unfold sv; simp; omega] at g1
   rw [R_go FF F76 c76.eq_1]
   simp only [RB,RL,un,St.none,za,zd,ze,zf,zb,zj,zk,zm,zn,zc,zg,zh,zi,↓reduceIte,reduceCtorEq,pack,pid,parN,lid,chkK,apartV,Heap.none,h1,h2,c1,hc,d1,g1]
  ·have hc : ¬ cmp ((a.natAbs : Nat) : Int) ((b.natAbs : Nat) : Int) < 0 := fun h => by have := cmp_lt_iff.1 h; omega
   have d1 := sub_ge (D_U a.natAbs) (D_U b.natAbs) (show L a.natAbs ≤ _ by omega) (show L b.natAbs ≤ _ by omega) (by rw [W_D,W_D]; omega)
   rw [W_D,W_D] at d1
   have g1 := sign_c true (a.natAbs - b.natAbs)
   rw [show sv true (a.natAbs - b.natAbs) = a + b by unfold sv; simp; omega] at g1
   rw [R_go FF F76 c76.eq_1]
   simp only [RB,RL,un,St.none,za,zd,ze,zf,zb,zj,zk,zm,zn,zc,zg,zh,zi,↓reduceIte,reduceCtorEq,pack,pid,parN,lid,chkK,apartV,Heap.none,h1,h2,c1,hc,d1,g1]
 ·have g1 := sign_c true (a.natAbs + b.natAbs)
  rw [sv_add ha hb] at g1
  rw [R_go FF F76 c76.eq_1]
  simp only [RB,RL,un,St.none,za,zd,ze,zf,zb,zj,zk,zm,zn,zc,zg,zh,zi,↓reduceIte,reduceCtorEq,pack,pid,parN,lid,chkK,apartV,Heap.none,h1,h2,s1,g1]
theorem wadd_D {a b : Int} (ha : L a.natAbs ≤ 17592186044416) (hb : L b.natAbs ≤ 17592186044416) : R FF 76 [(AV.agg [AV.b (ng a),(AV.l 1 (List.map u (D (zM a))))]),(AV.agg [AV.b (ng b),(AV.l 1 (List.map u (D (zM b))))])] = some (AV.agg [AV.b (ng (a + b)),(AV.l 1 (List.map u (D (zM (a + b)))))]) := by
 have := wadd_c (q := ng a) (r := ng b) (D_U a.natAbs) ha (D_U b.natAbs) hb
 rwa [wv_ci,wv_ci] at this
theorem sv_xor_mul (a b : Int) : sv (ng a != ng b) (a.natAbs * b.natAbs) = a * b := by
 rw [← Int.natAbs_mul]
 have h := sv_self (a * b)
 cases ha : ng a <;> cases hb : ng b <;> (first | rw [ng_true] at ha | rw [ng_false] at ha) <;> (first | rw [ng_true] at hb | rw [ng_false] at hb) <;> unfold sv <;> simp
 ·have := Int.mul_nonneg ha hb
  omega
 ·have := Int.mul_nonneg ha (show 0 ≤ -b by omega)
  rw [Int.mul_neg] at this
  omega
 ·have := Int.mul_nonneg (show 0 ≤ -a by omega) hb
  rw [Int.neg_mul] at this
  omega
 ·have := Int.mul_nonneg (show 0 ≤ -a by omega) (show 0 ≤ -b by omega)
  rw [Int.neg_mul_neg] at this
  omega
theorem wmul_c {q r : Bool} {l m : List Int} (hu : U l) (hl : l.length ≤ 17592186044416) (hv : U m) (hm : m.length ≤ 17592186044416) : R FF 65 [(AV.agg [AV.b q,(AV.l 1 (List.map u l))]),(AV.agg [AV.b r,(AV.l 1 (List.map u m))])] = some (AV.agg [AV.b (ng (wv q l * wv r m)),(AV.l 1 (List.map u (D (zM (wv q l * wv r m)))))]) := by
 have h1 := wclean_c (q := q) hu (by omega)
 have h2 := wclean_c (q := r) hv (by omega)
 have l1 := wv_L q l
 have l2 := wv_L r m
 generalize wv q l = a at *
 generalize wv r m = b at *
 have s1 := mul_D (m := a.natAbs) (n := b.natAbs) (by omega)
 have g1 := sign_c (ng a != ng b) (a.natAbs * b.natAbs)
 rw [sv_xor_mul] at g1
 cases ha : ng a <;> cases hb : ng b <;> rw [ha] at h1 g1 <;> rw [hb] at h2 g1 <;> simp only [bne,boolq,Bool.not_true,Bool.not_false] at g1
 all_goals
  rw [R_go FF F65 c65.eq_1]
  simp only [RB,RL,un,St.none,za,zd,ze,zf,zb,zj,zk,zm,zn,zc,zg,zh,zi,↓reduceIte,reduceCtorEq,pack,pid,parN,lid,chkK,apartV,Heap.none,h1,h2,s1,g1]
theorem wmul_D {a b : Int} (ha : L a.natAbs ≤ 17592186044416) (hb : L b.natAbs ≤ 17592186044416) : R FF 65 [(AV.agg [AV.b (ng a),(AV.l 1 (List.map u (D (zM a))))]),(AV.agg [AV.b (ng b),(AV.l 1 (List.map u (D (zM b))))])] = some (AV.agg [AV.b (ng (a * b)),(AV.l 1 (List.map u (D (zM (a * b)))))]) := by
 have := wmul_c (q := ng a) (r := ng b) (D_U a.natAbs) ha (D_U b.natAbs) hb
 rwa [wv_ci,wv_ci] at this
theorem rmake_c (q : Bool) (k : Nat) : R FF 39 [.b q,(AV.l 1 (List.map n64 (E k)))] = some (AV.agg [AV.b (ng (sv q k)),(AV.l 1 (List.map n64 (E (zM (sv q k)))))]) := by
 have h1 : (E k).length = LE k := rfl
 have h2 : decide (0 < (LE k : Int)) = decide (0 < k) := by
  refine decide_eq_decide.2 ?_
  have : LE k = 0 ↔ k = 0 := by
   show (E k).length = 0 ↔ _
   rw [List.length_eq_zero_iff,E_nil]
  omega
 rw [sv_abs,sv_ng]
 cases q
 ·rw [R_go FF F39 c39.eq_1]
  simp only [RB,RL,un,St.none,za,zd,ze,zf,zb,zj,zk,zm,zn,zc,zg,zh,zi,↓reduceIte,reduceCtorEq,pack,pid,parN,lid,chkK,apartV,Heap.none]
 ·rw [R_go FF F39 c39.eq_1]
  simp only [RB,RL,un,St.none,za,zd,ze,zf,zb,zj,zk,zm,zn,zc,zg,zh,zi,↓reduceIte,reduceCtorEq,pack,pid,parN,lid,chkK,apartV,Heap.none,h1,h2]
theorem rsmall_c {x : Int} (h0 : -9223372036854775808 ≤ x) (h1 : x ≤ 9223372036854775807) : R FF 258 [(AV.i .i64 x)] = some (AV.agg [AV.b (ng x),(AV.l 1 (List.map n64 (E (zM x))))]) := by
 by_cases hx : x < 0
 ·have e1 : IntKind.i64.wrap (x + 1) = x + 1 := w64 (by omega) (by omega)
  have e2 : IntKind.i64.wrap (0 - (x + 1)) = ((x.natAbs - 1 : Nat) : Int) := by rw [w64 (by omega) (by omega)]; omega
  have s1 := small_c (x := ((x.natAbs - 1 : Nat) : Int)) (n := x.natAbs - 1) rfl (by omega)
  have s2 := small_c (x := 1) (n := 1) rfl (by omega)
  have b1 := LE_u64 (n := x.natAbs - 1) (by omega)
  have b2 := LE_u64 (n := 1) (by omega)
  have s3 := plus_c (x := x.natAbs - 1) (y := 1) (by omega) (by omega)
  rw [show x.natAbs - 1 + 1 = x.natAbs by omega] at s3
  have s4 := rmake_c true x.natAbs
  rw [show sv true x.natAbs = x by unfold sv; simp; omega] at s4
  rw [R_go FF F258 c258.eq_1]
  simp only [RB,RL,un,St.none,za,zd,ze,zf,zb,zj,zk,zm,zn,zc,zg,zh,zi,↓reduceIte,reduceCtorEq,pack,pid,parN,lid,chkK,apartV,Heap.none,hx,e1,e2,s1,s2,s3,s4]
 ·have s1 := small_c (x := x) (n := x.natAbs) (by omega) (by omega)
  have s4 := rmake_c false x.natAbs
  rw [show sv false x.natAbs = x by unfold sv; simp; omega] at s4
  rw [R_go FF F258 c258.eq_1]
  simp only [RB,RL,un,St.none,za,zd,ze,zf,zb,zj,zk,zm,zn,zc,zg,zh,zi,↓reduceIte,reduceCtorEq,pack,pid,parN,lid,chkK,apartV,Heap.none,hx,s1,s4]
theorem rfrom_c {q : Bool} {l : List Int} (hu : U l) (hl : l.length ≤ 1000000000000) : R FF 38 [(AV.agg [AV.b q,(AV.l 1 (List.map u l))])] = some (AV.agg [AV.b (ng (wv q l)),(AV.l 1 (List.map n64 (E (zM (wv q l)))))]) := by
 have h1 := from_c hu hl
 have h2 := rmake_c q (W l)
 rw [R_go FF F38 c38.eq_1]
 simp only [RB,RL,un,St.none,za,zd,ze,zf,zb,zj,zk,zm,zn,zc,zg,zh,zi,↓reduceIte,reduceCtorEq,pack,pid,parN,lid,chkK,apartV,Heap.none,h1,h2]
 rfl
theorem rord_c {a b : Int} (ha : LE a.natAbs ≤ 35184372088832) (hb : LE b.natAbs ≤ 35184372088832) : R FF 47 [(AV.agg [AV.b (ng a),(AV.l 1 (List.map n64 (E (zM a))))]),(AV.agg [AV.b (ng b),(AV.l 1 (List.map n64 (E (zM b))))])] = some (AV.i .i64 (cmp a b)) := by
 have c1 := rorder_c ha hb
 have c2 := rorder_c hb ha
 cases ha : ng a <;> cases hb : ng b <;> (first | rw [ng_true] at ha | rw [ng_false] at ha) <;> (first | rw [ng_true] at hb | rw [ng_false] at hb)
 ·rw [show ((a.natAbs : Nat) : Int) = a by omega,show ((b.natAbs : Nat) : Int) = b by omega] at c1
  rw [R_go FF F47 c47.eq_1]
  simp only [RB,RL,un,St.none,za,zd,ze,zf,zb,zj,zk,zm,zn,zc,zg,zh,zi,↓reduceIte,reduceCtorEq,pack,pid,parN,lid,chkK,apartV,Heap.none,c1]
 ·rw [cmp_gt (by omega)]
  rw [R_go FF F47 c47.eq_1]
  simp only [RB,RL,un,St.none,za,zd,ze,zf,zb,zj,zk,zm,zn,zc,zg,zh,zi,↓reduceIte,reduceCtorEq,pack,pid,parN,lid,chkK,apartV,Heap.none]
 ·rw [cmp_lt (by omega)]
  rw [R_go FF F47 c47.eq_1]
  simp only [RB,RL,un,St.none,za,zd,ze,zf,zb,zj,zk,zm,zn,zc,zg,zh,zi,↓reduceIte,reduceCtorEq,pack,pid,parN,lid,chkK,apartV,Heap.none]
 ·have e : cmp ((b.natAbs : Nat) : Int) ((a.natAbs : Nat) : Int) = cmp a b := by unfold cmp; split <;> split <;> (try split) <;> (try split) <;> omega
  rw [e] at c2
  rw [R_go FF F47 c47.eq_1]
  simp only [RB,RL,un,St.none,za,zd,ze,zf,zb,zj,zk,zm,zn,zc,zg,zh,zi,↓reduceIte,reduceCtorEq,pack,pid,parN,lid,chkK,apartV,Heap.none,c2]
theorem rtimes_c {a b : Int} (hl : LE a.natAbs + LE b.natAbs ≤ 35184372088832) : R FF 43 [(AV.agg [AV.b (ng a),(AV.l 1 (List.map n64 (E (zM a))))]),(AV.agg [AV.b (ng b),(AV.l 1 (List.map n64 (E (zM b))))])] = some (AV.agg [AV.b (ng (a * b)),(AV.l 1 (List.map n64 (E (zM (a * b)))))]) := by
 have s1 := times_c hl
 have g1 := rmake_c (ng a != ng b) (a.natAbs * b.natAbs)
 rw [sv_xor_mul] at g1
 cases ha : ng a <;> cases hb : ng b <;> rw [ha,hb] at g1 <;> simp only [bne,boolq,Bool.not_true,Bool.not_false] at g1
 all_goals
  rw [R_go FF F43 c43.eq_1]
  simp only [RB,RL,un,St.none,za,zd,ze,zf,zb,zj,zk,zm,zn,zc,zg,zh,zi,↓reduceIte,reduceCtorEq,pack,pid,parN,lid,chkK,apartV,Heap.none,s1,g1]
theorem over_l1 {y r : Nat} (hy : 0 < y) (hy2 : LE y ≤ 1000000000000) (hr : LE r ≤ 1000000000000) (a out : List Int) (i : Nat) :
  ∀ (d lo hi : Nat),hi ≤ lo + d → lo < hi → hi ≤ 10000 → y * lo ≤ r → r < y * hi → LP FF [(6,1),(0,0),(1,0),(7,0),(8,0),(10,0),(11,0)] [(6,1),(0,0),(1,0),(7,0),(8,0),(10,0)] b80_1 [.own true 1 (out.map n64),(AV.l 1 (List.map n64 a)),(AV.l 1 (List.map n64 (E y))),(AV.l 1 (List.map n64 (E r))),(AV.i .i64 ((i : Int))),(AV.i .i64 ((lo : Int))),(AV.i .i64 ((hi : Int)))] = some (.exit 2,[.own true 1 (out.map n64),(AV.l 1 (List.map n64 a)),(AV.l 1 (List.map n64 (E y))),(AV.l 1 (List.map n64 (E r))),(AV.i .i64 ((i : Int))),(AV.i .i64 (((r / y : Nat) : Int)))]) := by
 intro d
 induction d with
 | zero => intro lo hi h1 h2; omega
 | succ d ih =>
  intro lo hi h1 h2 h3 h4 h5
  have e0 : IntKind.i64.wrap ((hi : Int) - (lo : Int)) = ((hi - lo : Nat) : Int) := by rw [w64 (by omega) (by omega)]; omega
  by_cases hc : lo + 1 < hi
  ·have c1 : 1 < ((hi - lo : Nat) : Int) := by omega
   have e1 : IntKind.i64.wrap ((lo : Int) + (hi : Int)) = ((lo + hi : Nat) : Int) := w64add (by omega)
   have e2 : IntKind.i64.wrap (Int.tdiv ((lo + hi : Nat) : Int) 2) = (((lo + hi) / 2 : Nat) : Int) := by rw [tdiv_pos (by omega),w64 (by omega) (by omega)]; omega
   have hm : (lo + hi) / 2 < hi := by omega
   have hm2 : lo < (lo + hi) / 2 := by omega
   generalize (lo + hi) / 2 = m at *
   have hl := LE_u64 (n := m) (by omega)
   have hl2 := LE_mul y m
   have s1 := small_c (x := (m : Int)) (n := m) rfl (by omega)
   have s2 := times_c (x := y) (y := m) (by omega)
   have s3 := rorder_c (m := y * m) (n := r) (by omega) (by omega)
   have hcm := cmp_le_iff (a := ((y * m : Nat) : Int)) (b := r)
   by_cases hle : y * m ≤ r
   ·have h9 := ih m hi (by omega) hm h3 hle h5
    have c2 : cmp ((y * m : Nat) : Int) (r : Int) ≤ 0 := hcm.2 (by omega)
    rw [LP_go FF b80_1.eq_1]
    simp only [RB,RL,un,St.none,za,zd,ze,zf,zb,zj,zk,zm,zn,zc,zg,zh,zi,↓reduceIte,reduceCtorEq,pack,pid,parN,lid,chkK,apartV,Heap.none,e0,c1,e1,e2,s1,s2,s3,c2]
    exact h9
   ·have h9 := ih lo m (by omega) hm2 (by omega) h4 (by omega)
    have c2 : ¬ cmp ((y * m : Nat) : Int) (r : Int) ≤ 0 := fun h => hle (by have := hcm.1 h; omega)
    rw [LP_go FF b80_1.eq_1]
    simp only [RB,RL,un,St.none,za,zd,ze,zf,zb,zj,zk,zm,zn,zc,zg,zh,zi,↓reduceIte,reduceCtorEq,pack,pid,parN,lid,chkK,apartV,Heap.none,e0,c1,e1,e2,s1,s2,s3,c2]
    exact h9
  ·have hh : hi = lo + 1 := by omega
   subst hh
   have hq : r / y = lo := Nat.div_eq_of_lt_le (by rw [Nat.mul_comm]; exact h4) (by rw [Nat.mul_comm]; exact h5)
   have c1 : ¬ 1 < ((lo + 1 - lo : Nat) : Int) := by omega
   rw [hq]
   rw [LP_go FF b80_1.eq_1]
   simp only [RB,RL,un,St.none,za,zd,ze,zf,zb,zj,zk,zm,zn,zc,zg,zh,zi,↓reduceIte,reduceCtorEq,pack,pid,parN,lid,chkK,apartV,Heap.none,e0,c1]
theorem vl_drop_E (m w : Nat) : Dg.vl 10000 ((E m).drop w) = ((m / 10000 ^ w : Nat) : Int) := by
 have h := Dg.vl_take_drop 10000 (E m) w
 rw [E_vl] at h
 have h0 := Dg.vl_nonneg ((E_dig m).take w) (by decide)
 have h1 := Dg.vl_lt ((E_dig m).take w) (by decide)
 have h2 := Dg.vl_nonneg ((E_dig m).drop w) (by decide)
 have h3 : 10000 ^ ((E m).take w).length ≤ 10000 ^ w := Nat.pow_le_pow_right (by decide) (by rw [zD]; omega)
 obtain ⟨x,hx⟩ := Int.eq_ofNat_of_zero_le h0
 obtain ⟨y,hy⟩ := Int.eq_ofNat_of_zero_le h2
 rw [hx,hy] at h
 rw [hx] at h1
 have e : ∀ k : Nat,(10000 : Int) ^ k = ((10000 ^ k : Nat) : Int) := fun k => by rw [Int.natCast_pow]; rfl
 rw [e,← Int.natCast_mul,← Int.natCast_add] at h
 rw [e] at h1
 have h4 : m = x + 10000 ^ w * y := Int.ofNat_inj.1 h
 have h5 : x < 10000 ^ w := je (Int.ofNat_lt.1 h1) h3
 rw [hy,h4,Nat.add_mul_div_left _ _ (Nat.pow_pos (by decide)),Nat.div_eq_of_lt h5,zX]
theorem over_l0 {x y : Nat} (hy : 0 < y) (hx : LE x ≤ 1000000000 ) (hy2 : LE y ≤ 1000000000) :
  ∀ (n : Nat) (out : List Int),n ≤ LE x → out.length = LE x → Dg.Dig 10000 out → Dg.vl 10000 (out.drop n) = ((x / 10000 ^ n / y : Nat) : Int) →
  ∃ o,LP FF [(6,1),(0,0),(1,0),(7,0),(8,0)] [(6,0),(7,0)] b80_0 [.own true 1 (out.map n64),(AV.l 1 (List.map n64 (E x))),(AV.l 1 (List.map n64 (E y))),(AV.l 1 (List.map n64 (E (x / 10000 ^ n % y)))),(AV.i .i64 ((n : Int) - 1))] = some (.exit 0,[(AV.l 1 (List.map n64 o)),(AV.l 1 (List.map n64 (E (x % y))))]) ∧ o.length = LE x ∧ Dg.Dig 10000 o ∧ Dg.vl 10000 o = ((x / y : Nat) : Int) := by
 intro n
 have hEx : (E x).length = LE x := rfl
 induction n with
 | zero =>
  intro out hn ho hd hv
  rw [Nat.pow_zero,Nat.div_one] at hv ⊢
  refine ⟨out,?_,ho,hd,by rw [List.drop_zero] at hv; exact hv⟩
  rw [LP_go FF b80_0.eq_1]
  simp only [RB,RL,un,St.none,za,zd,ze,zf,zb,zj,zk,zm,zn,zc,zg,zh,zi,↓reduceIte,reduceCtorEq,pack,pid,parN,lid,chkK,apartV,Heap.none]
 | succ n ih =>
  intro out hn ho hd hv
  have hg := E_get x n
  have hsp := Dg.vl_drop_succ 10000 (E x) n
  rw [vl_drop_E,vl_drop_E] at hsp
  have hpp : x / 10000 ^ (n + 1) = x / 10000 ^ n / 10000 := by rw [Nat.pow_succ,Nat.div_div_eq_div_mul]
  have e0 : ((n + 1 : Nat) : Int) - 1 = (n : Int) := by omega
  rw [hpp] at hv hsp ⊢
  have hdm := Nat.div_add_mod (x / 10000 ^ n / 10000) y
  have hrl := Nat.mod_lt (x / 10000 ^ n / 10000) hy
  have hLr : LE (x / 10000 ^ n / 10000 % y) ≤ LE y := LE_mono (by omega)
  have hELr : (E (x / 10000 ^ n / 10000 % y)).length = LE (x / 10000 ^ n / 10000 % y) := rfl
  have h10 : x / 10000 ^ n % 10000 = ((E x).getD n 0).toNat := by omega
  have hdm2 := Nat.div_add_mod (x / 10000 ^ n) 10000
  generalize hz : x / 10000 ^ n = z at *
  generalize hr : z / 10000 % y = r at *
  generalize hq : z / 10000 / y = q at *
  have hval : Dg.vl 10000 ((E x).getD n 0 :: E r) = ((z % 10000 + 10000 * r : Nat) : Int) := by
   rw [Dg.vl_cons,E_vl]
   omega
  have t1 := rtrim_c (Dg.Dig.cons hg.1 hg.2 (E_dig r)) (by rw [zF]; omega) hval
  -- z = y * (10000 q) + (z % 10000 + 10000 r)
  have hzz : z = z % 10000 + 10000 * r + y * (10000 * q) := by
   have : y * (10000 * q) = 10000 * (y * q) := by rw [Nat.mul_left_comm]
   omega
  have hmod : (z % 10000 + 10000 * r) % y = z % y := by
   conv => rhs; rw [hzz]
   rw [Nat.add_mul_mod_self_left]
  have hdiv : z / y = (z % 10000 + 10000 * r) / y + 10000 * q := by
   conv => lhs; rw [hzz]
   rw [Nat.add_mul_div_left _ _ hy]
  have hlt : z % 10000 + 10000 * r < y * 10000 := by omega
  have hqd : (z % 10000 + 10000 * r) / y < 10000 := (Nat.div_lt_iff_lt_mul hy).2 (by rw [Nat.mul_comm 10000 y]; exact hlt)
  have hLw : LE (z % 10000 + 10000 * r) ≤ LE (y * 10000) := LE_mono (by omega)
  have hLw2 := LE_mul y 10000
  have hLw3 := LE_u64 (n := 10000) (by omega)
  have h1 := over_l1 hy (by omega) (by omega) (r := z % 10000 + 10000 * r) (E x) out n 10000 0 10000 (by omega) (by omega) (by omega) (by omega) hlt
  have h9 := ih (out.set n (((z % 10000 + 10000 * r) / y : Nat) : Int)) (by omega) (by rw [zU]; exact ho) (hd.set _ (zq _) (Int.ofNat_lt.2 hqd)) (by
   rw [Dg.vl_drop_succ,Dg.vl_drop_set _ _ _ _ _ (Nat.lt_succ_self _),hv,Dg.getD_set _ _ _ _ (by omega),if_pos rfl,hdiv]
   omega)
  obtain ⟨o,h10',h11⟩ := h9
  refine ⟨o,?_,h11⟩
  have hqy := Nat.div_add_mod (z % 10000 + 10000 * r) y
  have hqle : y * ((z % 10000 + 10000 * r) / y) ≤ z % 10000 + 10000 * r := Nat.mul_div_le _ _
  have hsub : z % 10000 + 10000 * r - y * ((z % 10000 + 10000 * r) / y) = z % y := by rw [← hmod]; omega
  have hLv := LE_mono hqle
  have hl := LE_u64 (n := (z % 10000 + 10000 * r) / y) (by omega)
  have hLe : LE (z % 10000 + 10000 * r) ≤ 2000000000 := by omega
  generalize hv' : (z % 10000 + 10000 * r) / y = v at *
  have s1 := small_c (x := (v : Int)) (n := v) rfl (by omega)
  have s2 := times_c (x := y) (y := v) (by omega)
  have s3 := minus_c (x := z % 10000 + 10000 * r) (y := y * v) hqle (by omega)
  rw [hsub] at s3
  have e3 : IntKind.i64.wrap ((n : Int) - 1) = (n : Int) - 1 := w64 (by omega) (by omega)
  have b1 : (1 + LE r) * 8 ≤ 140737488355328 := by omega
  have b2 : n < LE x := by omega
  rw [zI] at h1
  have b0 : ((10000 : Nat) : Int) = 10000 := rfl
  rw [b0] at h1
  clear hsp hval hzz hmod hdiv hlt hqd hLw hLw2 hLw3 hdm hdm2 hrl h10 hLr hpp hv hqy hqle hsub hLv hg
  have m1 : zQ (1 + LE r) ([n64 ((E x).getD n 0)] ++ List.map n64 (E r)) = List.map n64 ((E x).getD n 0 :: E r) := by
   rw [zp (by simp only [zx,zC,jg,hELr]; omega)]; rfl
  have b3 : (n : Int) < (LE x : Int) := by omega
  have m2 : zQ (LE x) (out.set n (v : Int)) = out.set n (v : Int) := zp (by rw [zU]; omega)
  have m3 : zQ (LE x) out = out := zp (by omega)
  simp only [List.map_cons] at t1
  rw [LP_go FF b80_0.eq_1]
  simp only [RB,RL,un,St.none,za,zd,ze,zf,zb,zj,zk,zm,zn,zc,zg,zh,zi,↓reduceIte,reduceCtorEq,pack,pid,parN,lid,chkK,apartV,Heap.none,e0,hEx,ho,hELr,b1,m1,t1,h1,s1,s2,s3,e3,b2,b3,zq,zC,m2,m3]
  exact h10'
theorem over_c {x y : Nat} (hy : y ≠ 0) (hx : LE x ≤ 1000000000) (hy2 : LE y ≤ 1000000000) : R FF 80 [(AV.l 1 (List.map n64 (E x))),(AV.l 1 (List.map n64 (E y)))] = some (.tup [(AV.l 1 (List.map n64 (E (x / y)))),(AV.l 1 (List.map n64 (E (x % y))))]) := by
 have hEx : (E x).length = LE x := rfl
 have h0 : x / 10000 ^ LE x = 0 := Nat.div_eq_of_lt (LE_lt x)
 obtain ⟨o,h1,h2,h3,h4⟩ := over_l0 (x := x) (y := y) (by omega) hx hy2 (LE x) (zL (LE x) 0) (zz _) zP (Dg.Dig.replicate (by decide) _) (by
  rw [zW (by rw [zP]; exact zz _),h0,Nat.zero_div]; rfl)
 rw [h0,Nat.zero_mod,E_zero] at h1
 have t1 := rtrim_c h3 (by omega) h4
 have e1 : IntKind.i64.wrap ((LE x : Int) - 1) = (LE x : Int) - 1 := w64 (by omega) (by omega)
 have b1 : LE x * 8 ≤ 281474976710656 := by omega
 simp only [zR] at h1
 have m1 : zQ (LE x) (zL (LE x) (0 : Int)) = zL (LE x) 0 := zp (by rw [zP]; omega)
 rw [R_go FF F80 c80.eq_1]
 simp only [RB,RL,un,St.none,za,zd,ze,zf,zb,zj,zk,zm,zn,zc,zg,zh,zi,↓reduceIte,reduceCtorEq,pack,pid,parN,lid,chkK,apartV,Heap.none,hEx,e1,b1,zq,m1,h1,t1]
theorem take_U {l : List Int} (h : U l) (n : Nat) : U (l.take n) := fun x hx => h x (List.mem_of_mem_take hx)
def rgt (q : Bool) (l : List Int) : Bool := decide (l = D (W l)) && (decide (0 < (l.length : Int)) || !q)
theorem getD_mem' {α : Type} {l : List α} {k : Nat} (d : α) (h : k < l.length) : l.getD k d ∈ l := by
 rw [zo,zr h]
 exact List.getElem_mem _
theorem rgcd_l0 : ∀ (N a b : Nat),b ≤ N → LE a ≤ 1000000000 → LE b ≤ 1000000000 → LP FF [(0,0),(1,0)] [(0,0)] b40_0 [(AV.l 1 (List.map n64 (E a))),(AV.l 1 (List.map n64 (E b)))] = some (.exit 0,[(AV.l 1 (List.map n64 (E (Nat.gcd a b))))]) := by
 intro N
 induction N with
 | zero =>
  intro a b hb _ _
  have : b = 0 := by omega
  subst this
  rw [Nat.gcd_zero_right,E_zero]
  rw [LP_go FF b40_0.eq_1]
  simp only [RB,RL,un,St.none,za,zd,ze,zf,zb,zj,zk,zm,zn,zc,zg,zh,zi,↓reduceIte,reduceCtorEq,pack,pid,parN,lid,chkK,apartV,Heap.none]
 | succ N ih =>
  intro a b hb ha hb2
  by_cases h0 : b = 0
  ·subst h0
   rw [Nat.gcd_zero_right,E_zero]
   rw [LP_go FF b40_0.eq_1]
   simp only [RB,RL,un,St.none,za,zd,ze,zf,zb,zj,zk,zm,zn,zc,zg,zh,zi,↓reduceIte,reduceCtorEq,pack,pid,parN,lid,chkK,apartV,Heap.none]
  ·have o1 := over_c (x := a) h0 ha hb2
   have hlt := Nat.mod_lt a (Nat.pos_of_ne_zero h0)
   have h9 := ih b (a % b) (by omega) hb2 (zE (LE_mono (Nat.le_of_lt hlt)) hb2)
   rw [Nat.gcd_comm b,← Nat.gcd_rec,Nat.gcd_comm b] at h9
   have c1 : 0 < (((E b).length : Nat) : Int) := by
    rcases Nat.eq_zero_or_pos (E b).length with h | h
    ·have h2 := List.eq_nil_of_length_eq_zero h
     have h3 := E_vl b
     rw [h2] at h3
     have : Dg.vl 10000 [] = 0 := rfl
     omega
    ·omega
   rw [LP_go FF b40_0.eq_1]
   simp only [RB,RL,un,St.none,za,zd,ze,zf,zb,zj,zk,zm,zn,zc,zg,zh,zi,↓reduceIte,reduceCtorEq,pack,pid,parN,lid,chkK,apartV,Heap.none,c1,o1]
   exact h9
theorem rgcd_c {a b : Nat} (ha : LE a ≤ 1000000000) (hb : LE b ≤ 1000000000) : R FF 40 [(AV.l 1 (List.map n64 (E a))),(AV.l 1 (List.map n64 (E b)))] = some (AV.l 1 (List.map n64 (E (Nat.gcd a b)))) := by
 have h1 := rgcd_l0 b a b (zz _) ha hb
 rw [R_go FF F40 c40.eq_1]
 simp only [RB,RL,un,St.none,za,zd,ze,zf,zb,zj,zk,zm,zn,zc,zg,zh,zi,↓reduceIte,reduceCtorEq,pack,pid,parN,lid,chkK,apartV,Heap.none,h1]
def qv (q : Bool) (l d : List Int) : Rat := mkRat (wv q l) (W d)
theorem mk_num {n : Int} {d : Nat} (hd : d ≠ 0) : (mkRat n d).num.natAbs = n.natAbs / Nat.gcd n.natAbs d ∧ ng (mkRat n d).num = ng n ∧ (mkRat n d).den = d / Nat.gcd n.natAbs d := by
 rw [Rat.num_mkRat,Rat.den_mkRat,if_neg hd,if_neg hd,Nat.gcd_comm d]
 have hg : 0 < Nat.gcd n.natAbs d := Nat.gcd_pos_of_pos_right _ (Nat.pos_of_ne_zero hd)
 obtain ⟨m,hm⟩ := Int.ofNat_dvd_left.2 (Nat.gcd_dvd_left n.natAbs d)
 generalize Nat.gcd n.natAbs d = g at *
 subst hm
 have g0 : (g : Int) ≠ 0 := by omega
 rw [Int.mul_ediv_cancel_left _ g0,Int.natAbs_mul,Int.natAbs_natCast,Nat.mul_div_cancel_left _ hg]
 refine ⟨rfl,?_,rfl⟩
 unfold ng
 rw [decide_eq_decide]
 constructor
 ·intro h; exact Int.mul_neg_of_pos_of_neg (by omega) h
 ·intro h
  rcases Int.lt_or_le m 0 with k | k
  ·exact k
  ·have := Int.mul_nonneg (show (0 : Int) ≤ g by omega) k; omega
theorem form_c {n : Int} {d : Nat} (hd : d ≠ 0) (hn : L n.natAbs ≤ 100000000000) (hl : L d ≤ 100000000000) : R FF 75 [(AV.agg [AV.b (ng n),(AV.l 1 (List.map u (D (zM n))))]),(AV.l 1 (List.map u (D d)))] = some (AV.agg [AV.b (ng (zV (mkRat n d))),(AV.l 1 (List.map u (D (zM (zV (mkRat n d)))))),(AV.l 1 (List.map u (D (Rat.den (mkRat n d)))))]) := by
 obtain ⟨k1,k2,k3⟩ := mk_num (n := n) hd
 rw [k1,k2,k3]
 have o1 := of_c (x := 1) (by omega) (by omega) (n := 1) rfl
 by_cases h0 : n = 0
 ·subst h0
  rw [ng_false.2 (Int.le_refl _),Int.natAbs_zero,Nat.zero_div,Nat.gcd_zero_left,Nat.div_self (Nat.pos_of_ne_zero hd),D_zero]
  rw [R_go FF F75 c75.eq_1]
  simp only [RB,RL,un,St.none,za,zd,ze,zf,zb,zj,zk,zm,zn,zc,zg,zh,zi,↓reduceIte,reduceCtorEq,pack,pid,parN,lid,chkK,apartV,Heap.none,o1]
 ·have g1 := gcd_D (a := n.natAbs) (b := d) (by omega) (by omega)
  have hg : 0 < Nat.gcd n.natAbs d := Nat.gcd_pos_of_pos_right _ (Nat.pos_of_ne_zero hd)
  have c1 : ¬ (((D n.natAbs).length : Nat) : Int) = 0 := by have := (L_pos (k := n.natAbs)).2 (by omega); show ¬ (L n.natAbs : Int) = 0; omega
  have hgl : L (Nat.gcd n.natAbs d) ≤ 100000000000 := zE (L_mono (Nat.gcd_le_right _ (Nat.pos_of_ne_zero hd))) hl
  have d1 := divmod_c (D_U n.natAbs) (D_U (Nat.gcd n.natAbs d)) (show L _ ≤ _ by omega) (show L _ ≤ _ by omega)
  have d2 := divmod_c (D_U d) (D_U (Nat.gcd n.natAbs d)) (show L _ ≤ _ by omega) (show L _ ≤ _ by omega)
  rw [W_D,W_D,if_neg (by omega)] at d1 d2
  generalize Nat.gcd n.natAbs d = g at *
  by_cases h1 : g = 1
  ·subst h1
   have e1 : D 1 = [1] := by decide +kernel
   rw [Nat.div_one,Nat.div_one]
   rw [e1] at g1
   rw [R_go FF F75 c75.eq_1]
   simp only [RB,RL,un,St.none,za,zd,ze,zf,zb,zj,zk,zm,zn,zc,zg,zh,zi,↓reduceIte,reduceCtorEq,pack,pid,parN,lid,chkK,apartV,Heap.none,c1,g1]
  ·by_cases h2 : ((L g : Nat) : Int) = 1
   ·obtain ⟨x,hx⟩ := List.length_eq_one_iff.1 (show (D g).length = 1 from by have : (D g).length = L g := rfl; omega)
    have e1 : x = (g : Int) := by
     have h3 := D_vl g
     rw [hx] at h3
     simpa [Dg.vl] using h3
    have c2 : ¬ x = 1 := by omega
    rw [hx] at g1 d1 d2
    simp only [List.map_cons,zR] at g1 d1 d2
    rw [R_go FF F75 c75.eq_1]
    simp only [RB,RL,un,St.none,za,zd,ze,zf,zb,zj,zk,zm,zn,zc,zg,zh,zi,↓reduceIte,reduceCtorEq,pack,pid,parN,lid,chkK,apartV,Heap.none,c1,g1,c2,d1,d2]
   ·have c2 : ¬ (((D g).length : Nat) : Int) = 1 := h2
    rw [R_go FF F75 c75.eq_1]
    simp only [RB,RL,un,St.none,za,zd,ze,zf,zb,zj,zk,zm,zn,zc,zg,zh,zi,↓reduceIte,reduceCtorEq,pack,pid,parN,lid,chkK,apartV,Heap.none,c1,g1,c2,d1,d2]
def sq (x : Rat) : Nat := max (L x.num.natAbs) (L x.den)
theorem sq_num (x : Rat) : L x.num.natAbs ≤ sq x := Nat.le_max_left _ _
theorem sq_den (x : Rat) : L x.den ≤ sq x := Nat.le_max_right _ _
theorem sq_mk {n : Int} {d : Nat} (hd : d ≠ 0) : sq (mkRat n d) ≤ max (L n.natAbs) (L d) := by
 obtain ⟨k1,_,k3⟩ := mk_num (n := n) hd
 unfold sq
 rw [k1,k3]
 have h1 := L_mono (Nat.div_le_self n.natAbs (Nat.gcd n.natAbs d))
 have h2 := L_mono (Nat.div_le_self d (Nat.gcd n.natAbs d))
 omega
theorem qv_cq (x : Rat) : qv (ng x.num) (D x.num.natAbs) (D x.den) = x := by unfold qv; rw [wv_ci,W_D,Rat.mkRat_self]
theorem qv_sq {q : Bool} {l d : List Int} {k : Nat} (h1 : l.length ≤ k) (h2 : d.length ≤ k) (hk : 1 ≤ k) : sq (qv q l d) ≤ k := by
 unfold qv
 by_cases h0 : W d = 0
 ·rw [h0,Rat.mkRat_zero]
  have a1 : L (0 : Rat).num.natAbs ≤ 0 := L_le (n := 0) (k := 0) (by decide)
  have a2 : L (0 : Rat).den ≤ 1 := L_le (n := 1) (k := 1) (by decide)
  unfold sq
  omega
 ·have := sq_mk (n := wv q l) h0
  have := wv_L q l
  have := L_W d
  omega
theorem sq_add (x y : Rat) : sq (x + y) ≤ sq x + sq y + 1 := by
 rw [Rat.add_def']
 have h := sq_mk (n := x.num * y.den + y.num * x.den) (d := x.den * y.den) (Nat.mul_ne_zero x.den_nz y.den_nz)
 have a1 := L_mul x.den y.den
 have a2 := L_mono (Int.natAbs_add_le (x.num * y.den) (y.num * x.den))
 have a3 := L_add (x.num * y.den).natAbs (y.num * x.den).natAbs
 rw [Int.natAbs_mul,Int.natAbs_mul,Int.natAbs_natCast,Int.natAbs_natCast] at a2 a3
 have a4 := L_mul x.num.natAbs y.den
 have a5 := L_mul y.num.natAbs x.den
 have := sq_num x
 have := sq_num y
 have := sq_den x
 have := sq_den y
 omega
theorem sq_mul (x y : Rat) : sq (x * y) ≤ sq x + sq y := by
 rw [Rat.mul_def']
 have h := sq_mk (n := x.num * y.num) (d := x.den * y.den) (Nat.mul_ne_zero x.den_nz y.den_nz)
 have a1 := L_mul x.den y.den
 have a4 := L_mul x.num.natAbs y.num.natAbs
 rw [Int.natAbs_mul] at h
 have := sq_num x
 have := sq_num y
 have := sq_den x
 have := sq_den y
 omega
theorem sq_neg (x : Rat) : sq (-x) = sq x := by unfold sq; rw [Rat.neg_num,Rat.neg_den,Int.natAbs_neg]
theorem qzero_c : R FF 54 [] = some (AV.agg [AV.b (ng (zV ((0 : Rat)))),(AV.l 1 (List.map u (D (zM (zV ((0 : Rat))))))),(AV.l 1 (List.map u (D (Rat.den ((0 : Rat))))))]) := by
 have o1 := of_c (x := 1) (by omega) (by omega) (n := 1) rfl
 show R FF 54 [] = some (.agg [.b (ng 0),(AV.l 1 (List.map u (D 0))),(AV.l 1 (List.map u (D 1)))])
 rw [ng_false.2 (Int.le_refl _),D_zero]
 rw [R_go FF F54 c54.eq_1]
 simp only [RB,RL,un,St.none,za,zd,ze,zf,zb,zj,zk,zm,zn,zc,zg,zh,zi,↓reduceIte,reduceCtorEq,pack,pid,parN,lid,chkK,apartV,Heap.none,o1]
theorem qof_c {n : Int} (h0 : -9223372036854775808 ≤ n) (h1 : n ≤ 9223372036854775807) : R FF 68 [(AV.i .i64 n)] = some (AV.agg [AV.b (ng (zV ((n : Rat)))),(AV.l 1 (List.map u (D (zM (zV ((n : Rat))))))),(AV.l 1 (List.map u (D (Rat.den ((n : Rat))))))]) := by
 have o1 := of_c (x := 1) (by omega) (by omega) (n := 1) rfl
 have o2 := wof_c h0 h1
 rw [Rat.num_intCast,Rat.den_intCast]
 rw [R_go FF F68 c68.eq_1]
 simp only [RB,RL,un,St.none,za,zd,ze,zf,zb,zj,zk,zm,zn,zc,zg,zh,zi,↓reduceIte,reduceCtorEq,pack,pid,parN,lid,chkK,apartV,Heap.none,o1,o2]
theorem qclean_c {q : Bool} {l d : List Int} (hu : U l) (hl : l.length ≤ 100000000000) (hv : U d) (hd : d.length ≤ 100000000000) : R FF 63 [(AV.agg [AV.b q,(AV.l 1 (List.map u l)),(AV.l 1 (List.map u d))])] = some (AV.agg [AV.b (ng (zV (qv q l d))),(AV.l 1 (List.map u (D (zM (zV (qv q l d)))))),(AV.l 1 (List.map u (D (Rat.den (qv q l d)))))]) := by
 have c1 := clean_c hv (by omega)
 have c2 := wclean_c (q := q) hu (by omega)
 unfold qv
 have l1 := wv_L q l
 have l2 := L_W d
 by_cases h0 : W d = 0
 ·have z1 := qzero_c
  rw [h0] at c1
  rw [h0,Rat.mkRat_zero]
  rw [D_zero] at c1
  rw [R_go FF F63 c63.eq_1]
  simp only [RB,RL,un,St.none,za,zd,ze,zf,zb,zj,zk,zm,zn,zc,zg,zh,zi,↓reduceIte,reduceCtorEq,pack,pid,parN,lid,chkK,apartV,Heap.none,c1,z1]
 ·have f1 := form_c (n := wv q l) h0 (by omega) (by omega)
  have c3 : ¬ (((D (W d)).length : Nat) : Int) = 0 := by have := (L_pos (k := W d)).2 (Nat.pos_of_ne_zero h0); show ¬ (L (W d) : Int) = 0; omega
  rw [R_go FF F63 c63.eq_1]
  simp only [RB,RL,un,St.none,za,zd,ze,zf,zb,zj,zk,zm,zn,zc,zg,zh,zi,↓reduceIte,reduceCtorEq,pack,pid,parN,lid,chkK,apartV,Heap.none,c1,c2,c3,f1]
theorem qden_c {q : Bool} {l d : List Int} : R FF 66 [(AV.agg [AV.b q,(AV.l 1 (List.map u l)),(AV.l 1 (List.map u d))])] = some (AV.agg [AV.b false,(AV.l 1 (List.map u d))]) := by
 rw [R_go FF F66 c66.eq_1]
 simp only [RB,RL,un,St.none,za,zd,ze,zf,zb,zj,zk,zm,zn,zc,zg,zh,zi,↓reduceIte,reduceCtorEq,pack,pid,parN,lid,chkK,apartV,Heap.none]
def qcmp (x y : Rat) : Int := cmp (x.num * y.den) (y.num * x.den)
theorem qcmp_lt {x y : Rat} : qcmp x y < 0 ↔ x < y := by unfold qcmp; rw [cmp_lt_iff,Rat.lt_iff]
theorem qcmp_gt {x y : Rat} : 0 < qcmp x y ↔ y < x := by unfold qcmp; rw [cmp_gt_iff,Rat.lt_iff]
theorem qcmp_le {x y : Rat} : qcmp x y ≤ 0 ↔ x ≤ y := by unfold qcmp; rw [cmp_le_iff,Rat.le_iff]
theorem qcmp_ge {x y : Rat} : 0 ≤ qcmp x y ↔ y ≤ x := by have := qcmp_lt (x := x) (y := y); have := Rat.not_lt (a := x) (b := y); grind
theorem qcmp_eq {x y : Rat} : qcmp x y = 0 ↔ x = y := by
 have h1 := qcmp_le (x := x) (y := y)
 have h2 := qcmp_ge (x := x) (y := y)
 constructor
 ·intro h; exact Rat.le_antisymm (h1.1 (by omega)) (h2.1 (by omega))
 ·intro h
  have a1 := h1.2 (by rw [h]; exact Rat.le_refl)
  have a2 := h2.2 (by rw [h]; exact Rat.le_refl)
  omega
theorem den_ci (d : Nat) : wv false (D d) = (d : Int) := by unfold wv sv; rw [W_D]; rfl
theorem qcmp_c {q r : Bool} {l d m e : List Int} (hu : U l) (hl : l.length ≤ 100000000000) (hv : U d) (hd : d.length ≤ 100000000000) (hu2 : U m) (hl2 : m.length ≤ 100000000000) (hv2 : U e) (hd2 : e.length ≤ 100000000000) :
  R FF 14 [(AV.agg [AV.b q,(AV.l 1 (List.map u l)),(AV.l 1 (List.map u d))]),(AV.agg [AV.b r,(AV.l 1 (List.map u m)),(AV.l 1 (List.map u e))])] = some (AV.i .i64 (qcmp (qv q l d) (qv r m e))) := by
 have c1 := qclean_c (q := q) hu hl hv hd
 have c2 := qclean_c (q := r) hu2 hl2 hv2 hd2
 have s1 := qv_sq (q := q) (l := l) (d := d) (k := 100000000000) hl hd (by omega)
 have s2 := qv_sq (q := r) (l := m) (d := e) (k := 100000000000) hl2 hd2 (by omega)
 generalize qv q l d = x at *
 generalize qv r m e = y at *
 have e1 := qden_c (q := ng x.num) (l := D x.num.natAbs) (d := D x.den)
 have e2 := qden_c (q := ng y.num) (l := D y.num.natAbs) (d := D y.den)
 have n1 := sq_num x
 have n2 := sq_num y
 have n3 := sq_den x
 have n4 := sq_den y
 have m1 := wmul_c (q := ng x.num) (r := false) (D_U x.num.natAbs) (show L _ ≤ _ by omega) (D_U y.den) (show L _ ≤ _ by omega)
 have m2 := wmul_c (q := ng y.num) (r := false) (D_U y.num.natAbs) (show L _ ≤ _ by omega) (D_U x.den) (show L _ ≤ _ by omega)
 rw [wv_ci,den_ci] at m1 m2
 have b1 : L (x.num * y.den).natAbs ≤ 200000000000 := by rw [Int.natAbs_mul,Int.natAbs_natCast]; have := L_mul x.num.natAbs y.den; omega
 have b2 : L (y.num * x.den).natAbs ≤ 200000000000 := by rw [Int.natAbs_mul,Int.natAbs_natCast]; have := L_mul y.num.natAbs x.den; omega
 have k1 := wcmp_c (q := ng (x.num * y.den)) (r := ng (y.num * x.den)) (D_U (x.num * y.den).natAbs) (show L _ ≤ _ by omega) (D_U (y.num * x.den).natAbs) (show L _ ≤ _ by omega)
 rw [wv_ci,wv_ci] at k1
 unfold qcmp
 rw [R_go FF F14 c14.eq_1]
 simp only [RB,RL,un,St.none,za,zd,ze,zf,zb,zj,zk,zm,zn,zc,zg,zh,zi,↓reduceIte,reduceCtorEq,pack,pid,parN,lid,chkK,apartV,Heap.none,c1,c2,e1,e2,m1,m2,k1]
def Sm (l d : List Int) (k : Nat) : Prop := (U l ∧ l.length ≤ k) ∧ U d ∧ d.length ≤ k
theorem Sm.take {l d : List Int} {k : Nat} (h : Sm l d k) (n : Nat) : Sm (l.take n) (d.take n) n := ⟨⟨take_U h.1.1 n,List.length_take_le _ _⟩,take_U h.2.1 n,List.length_take_le _ _⟩
theorem Sm.mono {l d : List Int} {k m : Nat} (h : Sm l d k) (hm : k ≤ m) : Sm l d m := ⟨⟨h.1.1,zE h.1.2 hm⟩,h.2.1,zE h.2.2 hm⟩
theorem sm_cq {x : Rat} {k : Nat} (h : sq x ≤ k) : Sm (D x.num.natAbs) (D x.den) k := ⟨⟨D_U _,zE (sq_num x) h⟩,D_U _,zE (sq_den x) h⟩
theorem Sm.sq {q : Bool} {l d : List Int} {k : Nat} (h : Sm l d k) (hk : 1 ≤ k) : sq (qv q l d) ≤ k := qv_sq h.1.2 h.2.2 hk
theorem qclean_s {q : Bool} {l d : List Int} {k : Nat} (h : Sm l d k) (hk : k ≤ 100000000000) : R FF 63 [(AV.agg [AV.b q,(AV.l 1 (List.map u l)),(AV.l 1 (List.map u d))])] = some (AV.agg [AV.b (ng (zV (qv q l d))),(AV.l 1 (List.map u (D (zM (zV (qv q l d)))))),(AV.l 1 (List.map u (D (Rat.den (qv q l d)))))]) := qclean_c h.1.1 (zE h.1.2 hk) h.2.1 (zE h.2.2 hk)
theorem qcmp_s {q r : Bool} {l d m e : List Int} {k j : Nat} (h : Sm l d k) (h2 : Sm m e j) (hk : k ≤ 100000000000) (hj : j ≤ 100000000000) : R FF 14 [(AV.agg [AV.b q,(AV.l 1 (List.map u l)),(AV.l 1 (List.map u d))]),(AV.agg [AV.b r,(AV.l 1 (List.map u m)),(AV.l 1 (List.map u e))])] = some (AV.i .i64 (qcmp (qv q l d) (qv r m e))) :=
 qcmp_c h.1.1 (zE h.1.2 hk) h.2.1 (zE h.2.2 hk) h2.1.1 (zE h2.1.2 hj) h2.2.1 (zE h2.2.2 hj)
theorem number09_c {q : Bool} {l d : List Int} (hl : l.length ≤ maxL) (hd : d.length ≤ maxL) : R FF 74 [(AV.agg [AV.b q,(AV.l 1 (List.map u l)),(AV.l 1 (List.map u d))])] = some (AV.agg [AV.b q,(AV.l 1 (List.map u (((l.take 3))))),(AV.l 1 (List.map u (((d.take 3)))))]) := by
 have e3 : (3 : Int).toNat = 3 := rfl
 by_cases c1 : 3 < (l.length : Int)
 ·have c3 : (3 : Int) ≤ (l.length : Int) := by omega
  by_cases c2 : 3 < (d.length : Int)
  ·have c4 : (3 : Int) ≤ (d.length : Int) := by omega
   rw [R_go FF F74 c74.eq_1]
   simp only [RB,RL,un,St.none,za,zd,ze,zf,zb,zj,zk,zm,zn,zc,zg,zh,zi,↓reduceIte,reduceCtorEq,pack,pid,parN,lid,chkK,apartV,Heap.none,c1,c2,c3,c4]
  ·have t2 : d.take 3 = d := zp (by omega)
   rw [t2]
   rw [R_go FF F74 c74.eq_1]
   simp only [RB,RL,un,St.none,za,zd,ze,zf,zb,zj,zk,zm,zn,zc,zg,zh,zi,↓reduceIte,reduceCtorEq,pack,pid,parN,lid,chkK,apartV,Heap.none,c1,c2,c3]
 ·have t1 : l.take 3 = l := zp (by omega)
  rw [t1]
  by_cases c2 : 3 < (d.length : Int)
  ·have c4 : (3 : Int) ≤ (d.length : Int) := by omega
   rw [R_go FF F74 c74.eq_1]
   simp only [RB,RL,un,St.none,za,zd,ze,zf,zb,zj,zk,zm,zn,zc,zg,zh,zi,↓reduceIte,reduceCtorEq,pack,pid,parN,lid,chkK,apartV,Heap.none,c1,c2,c4]
  ·have t2 : d.take 3 = d := zp (by omega)
   rw [t2]
   rw [R_go FF F74 c74.eq_1]
   simp only [RB,RL,un,St.none,za,zd,ze,zf,zb,zj,zk,zm,zn,zc,zg,zh,zi,↓reduceIte,reduceCtorEq,pack,pid,parN,lid,chkK,apartV,Heap.none,c1,c2]
def t3 (c : RC) : RC := (c.1,c.2.1,c.2.2.1.take 3,c.2.2.2.take 3)
theorem few09_l0 {l : List RC} {n : Nat} (hn : n ≤ 100000000000) (hu : ∀ x ∈ l,OkC x) (hl : l.length ≤ maxL) : ∀ (d i : Nat),i + d = min l.length n →
  LP FF [(5,1),(0,0),(1,0),(6,0)] [(5,0)] b29_0 [.own true 4 (((l.take i).map t3).map eC),.l 4 (l.map eC),(AV.i .i64 ((n : Int))),(AV.i .i64 ((i : Int)))] = some (.exit 0,[.l 4 (((l.take n).map t3).map eC)]) := by
 intro d
 induction d with
 | zero =>
  intro i hi
  have h2 : l.take i = l.take n := by
   rw [show i = min l.length n by omega]
   rcases Nat.le_total l.length n with h | h
   ·rw [jh h,zp (zz _),zp h]
   ·rw [Nat.min_eq_right h]
  rw [h2,show i = min l.length n by omega]
  by_cases c1 : ((min l.length n : Nat) : Int) < (l.length : Int)
  ·have c2 : ¬ ((min l.length n : Nat) : Int) < (n : Int) := by omega
   rw [LP_go FF b29_0.eq_1]
   simp only [RB,RL,un,St.none,za,zd,ze,zf,zb,zj,zk,zm,zn,zc,zg,zh,zi,↓reduceIte,reduceCtorEq,pack,pid,parN,lid,chkK,apartV,Heap.none,c1,c2]
  ·rw [LP_go FF b29_0.eq_1]
   simp only [RB,RL,un,St.none,za,zd,ze,zf,zb,zj,zk,zm,zn,zc,zg,zh,zi,↓reduceIte,reduceCtorEq,pack,pid,parN,lid,chkK,apartV,Heap.none,c1]
 | succ d ih =>
  intro i hi
  have hlt : i < l.length := by omega
  have h9 := ih (i + 1) (by omega)
  have hx := hu _ (getD_mem' (false,false,[],[]) hlt)
  have f1 := number09_c (q := (l.getD i (false,false,[],[])).2.1) hx.1.2 hx.2.2
  have ht : (l.take (i + 1)).map t3 = (l.take i).map t3 ++ [t3 (l.getD i (false,false,[],[]))] := by
   rw [List.take_add_one,zr hlt,jb,zo,zr hlt]
   rfl
  rw [ht] at h9
  have hlen : (List.map t3 (zQ i l)).length = i := by rw [zC,zD]; omega
  have c1 : (i : Int) < (l.length : Int) := by omega
  have c2 : (i : Int) < (n : Int) := by omega
  have e2 : IntKind.i64.wrap ((i : Int) + 1) = ((i + 1 : Nat) : Int) := w64succ (by omega)
  have b2 : (i + 1) * 64 ≤ 140737488355328 := by omega
  have m2 : zQ (i + 1) (List.map t3 (zQ i l) ++ [t3 (l.getD i (false,false,[],[]))]) = List.map t3 (zQ i l) ++ [t3 (l.getD i (false,false,[],[]))] := zp (by rw [zx,hlen]; simp)
  have m3 : zQ i (List.map t3 (zQ i l)) = List.map t3 (zQ i l) := zp (by omega)
  have m1 : List.map eC (List.map t3 (zQ i l)) ++ [[AV.b (l.getD i (false,false,[],[])).1,AV.b (l.getD i (false,false,[],[])).2.1,AV.l 1 (List.map u ((l.getD i (false,false,[],[])).2.2.1.take 3)),AV.l 1 (List.map u ((l.getD i (false,false,[],[])).2.2.2.take 3))]] = List.map eC (List.map t3 (zQ i l) ++ [t3 (l.getD i (false,false,[],[]))]) := by rw [jb]; rfl
  rw [LP_go FF b29_0.eq_1]
  simp only [RB,RL,un,St.none,za,zd,ze,zf,zb,zj,zk,zm,zn,zc,zg,zh,zi,↓reduceIte,reduceCtorEq,pack,pid,parN,lid,chkK,apartV,Heap.none,c1,c2,eC_rules,eC_row,zq,f1,e2,hlen,b2,m3,m1,m2]
  exact h9
theorem few09_c {l : List RC} {n : Nat} (hn : n ≤ 100000000000) (hu : ∀ x ∈ l,OkC x) (hl : l.length ≤ maxL) : R FF 29 [.l 4 (l.map eC),(AV.i .i64 ((n : Int)))] = some (.l 4 (((l.take n).map t3).map eC)) := by
 have h1 := few09_l0 hn hu hl (min l.length n) 0 (by omega)
 rw [jk,zI] at h1
 simp only [zR] at h1
 rw [R_go FF F29 c29.eq_1]
 simp only [RB,RL,un,St.none,za,zd,ze,zf,zb,zj,zk,zm,zn,zc,zg,zh,zi,↓reduceIte,reduceCtorEq,pack,pid,parN,lid,chkK,apartV,Heap.none,h1]
def vQ (x : RQt) : Rat := qv x.1 x.2.1 x.2.2
def SmQ (x : RQt) (k : Nat) : Prop := Sm x.2.1 x.2.2 k
def tQ (x : RQt) : RQt := (x.1,x.2.1.take 3,x.2.2.take 3)
def cQ (h : Bool) (x : Rat) : RQt := if h then (ng x.num,D x.num.natAbs,D x.den) else (false,[],[])
theorem vQ_sq {x : RQt} {k : Nat} (h : SmQ x k) (hk : 1 ≤ k) : sq (vQ x) ≤ k := Sm.sq h hk
def cS (s : RS) : RS := (s.1,s.2.1,cQ s.1 (vQ s.2.2.1),cQ s.2.1 (vQ s.2.2.2.1),s.2.2.2.2)
def belV (s : RS) (x : RQt) (mi : Bool) : RS :=
 if !s.2.1 || decide (vQ x < vQ s.2.2.2.1) then (s.1,true,cQ s.1 (vQ s.2.2.1),cQ true (vQ x),s.2.2.2.2 && mi) else (s.1,s.2.1,cQ s.1 (vQ s.2.2.1),cQ s.2.1 (vQ s.2.2.2.1),s.2.2.2.2 && mi)
def abvV (s : RS) (x : RQt) (mi : Bool) : RS :=
 if !s.1 || decide (vQ s.2.2.1 < vQ x) then (true,s.2.1,cQ true (vQ x),cQ s.2.1 (vQ s.2.2.2.1),s.2.2.2.2 && mi) else (s.1,s.2.1,cQ s.1 (vQ s.2.2.1),cQ s.2.1 (vQ s.2.2.2.1),s.2.2.2.2 && mi)
def eRw (r : List RC) : List AV := [.l 4 (r.map eC)]
theorem eRw_rules : (∀ x,(eRw x).length = 1) ∧ (∀ h x,(eRw x).map (tellC h) = eRw x) ∧ (∀ h x,(eRw x).map (tell0 h) = eRw x) ∧ (∀ h x,(eRw x).flatMap (refC h) = []) ∧ (∀ x,(eRw x).flatMap ref0 = []) ∧
  (∀ x,ldC false 1 0 (eRw x) = some (.l 4 (x.map eC))) := by
 refine ⟨?_,?_,?_,?_,?_,?_⟩ <;> intros <;> rfl
theorem eRw_row : type_of% (row_rules eRw [] 1 (fun _ => rfl) (fun _ _ => rfl)) := row_rules eRw [] 1 (fun _ => rfl) (fun _ _ => rfl)
def fw (w : Nat) (r : List RC) : List RC := (r.take w).map t3
def OkRw (l : List (List RC)) : Prop := ∀ r ∈ l,r.length ≤ maxL ∧ ∀ c ∈ r,OkC c
theorem all09_l0 {l : List (List RC)} {n w : Nat} (hn : n ≤ 1000000) (hw : w ≤ 1000000) (hu : OkRw l) (hl : l.length ≤ maxL) : ∀ (d i : Nat),i + d = min l.length n →
  LP FF [(7,1),(0,0),(1,0),(2,0),(8,0)] [(7,0)] b97_0 [.own true 1 (((l.take i).map (fw w)).map eRw),.l 1 (l.map eRw),(AV.i .i64 ((n : Int))),(AV.i .i64 ((w : Int))),(AV.i .i64 ((i : Int)))] = some (.exit 0,[.l 1 (((l.take n).map (fw w)).map eRw)]) := by
 intro d
 induction d with
 | zero =>
  intro i hi
  have h2 : l.take i = l.take n := by
   rw [show i = min l.length n by omega]
   rcases Nat.le_total l.length n with h | h
   ·rw [jh h,zp (zz _),zp h]
   ·rw [Nat.min_eq_right h]
  rw [h2,show i = min l.length n by omega]
  by_cases c1 : ((min l.length n : Nat) : Int) < (l.length : Int)
  ·have c2 : ¬ ((min l.length n : Nat) : Int) < (n : Int) := by omega
   rw [LP_go FF b97_0.eq_1]
   simp only [RB,RL,un,St.none,za,zd,ze,zf,zb,zj,zk,zm,zn,zc,zg,zh,zi,↓reduceIte,reduceCtorEq,pack,pid,parN,lid,chkK,apartV,Heap.none,c1,c2]
  ·rw [LP_go FF b97_0.eq_1]
   simp only [RB,RL,un,St.none,za,zd,ze,zf,zb,zj,zk,zm,zn,zc,zg,zh,zi,↓reduceIte,reduceCtorEq,pack,pid,parN,lid,chkK,apartV,Heap.none,c1]
 | succ d ih =>
  intro i hi
  have hlt : i < l.length := by omega
  have h9 := ih (i + 1) (by omega)
  have hx := hu _ (getD_mem' ([] : List RC) hlt)
  have f1 := few09_c (l := l.getD i []) (n := w) (by omega) hx.2 hx.1
  rw [show ((l.getD i []).take w).map t3 = fw w (l.getD i []) from rfl] at f1
  have ht : (l.take (i + 1)).map (fw w) = (l.take i).map (fw w) ++ [fw w (l.getD i [])] := by
   rw [List.take_add_one,zr hlt,jb,zo,zr hlt]
   rfl
  rw [ht] at h9
  have hlen : (List.map (fw w) (zQ i l)).length = i := by rw [zC,zD]; omega
  have c1 : (i : Int) < (l.length : Int) := by omega
  have c2 : (i : Int) < (n : Int) := by omega
  have e2 : IntKind.i64.wrap ((i : Int) + 1) = ((i + 1 : Nat) : Int) := w64succ (by omega)
  have b2 : (i + 1) * 24 ≤ 140737488355328 := by omega
  have m2 : zQ (i + 1) (List.map (fw w) (zQ i l) ++ [fw w (l.getD i [])]) = List.map (fw w) (zQ i l) ++ [fw w (l.getD i [])] := zp (by rw [zx,hlen]; exact zz _)
  have m3 : zQ i (List.map (fw w) (zQ i l)) = List.map (fw w) (zQ i l) := zp (by omega)
  have m1 : List.map eRw (List.map (fw w) (zQ i l)) ++ [[AV.l 4 ((fw w (l.getD i [])).map eC)]] = List.map eRw (List.map (fw w) (zQ i l) ++ [fw w (l.getD i [])]) := by rw [jb (f := eRw)]; rfl
  rw [LP_go FF b97_0.eq_1]
  simp only [RB,RL,un,St.none,za,zd,ze,zf,zb,zj,zk,zm,zn,zc,zg,zh,zi,↓reduceIte,reduceCtorEq,pack,pid,parN,lid,chkK,apartV,Heap.none,c1,c2,eRw_rules,eRw_row,zq,f1,e2,hlen,b2,m3,m1,m2]
  exact h9
theorem all09_c {l : List (List RC)} {n w : Nat} (hn : n ≤ 1000000) (hw : w ≤ 1000000) (hu : OkRw l) (hl : l.length ≤ maxL) : R FF 97 [.l 1 (l.map eRw),(AV.i .i64 ((n : Int))),(AV.i .i64 ((w : Int)))] = some (.l 1 (((l.take n).map (fw w)).map eRw)) := by
 have h1 := all09_l0 hn hw hu hl (min l.length n) 0 (by omega)
 rw [jk,zI] at h1
 simp only [zR] at h1
 rw [R_go FF F97 c97.eq_1]
 simp only [RB,RL,un,St.none,za,zd,ze,zf,zb,zj,zk,zm,zn,zc,zg,zh,zi,↓reduceIte,reduceCtorEq,pack,pid,parN,lid,chkK,apartV,Heap.none,h1]
abbrev I64 (n : Int) : Prop := -9223372036854775808 ≤ n ∧ n ≤ 9223372036854775807
abbrev RR := Int × Int
def eR (x : RR) : List AV := [.i .i64 x.1,.i .i64 x.2]
def OkR (x : RR) : Prop := I64 x.1 ∧ I64 x.2
abbrev RD := Int × List (List RC) × List RQt
def eD (x : RD) : List AV := [.i .i64 x.1,.l 1 (x.2.1.map eRw),.l 3 (x.2.2.map eQ)]
def OkD (x : RD) : Prop := I64 x.1 ∧ (x.2.1.length ≤ maxL ∧ OkRw x.2.1) ∧ x.2.2.length ≤ maxL ∧ ∀ a ∈ x.2.2,OkQ a
structure RNd where
 leaf : Bool
 ft : Int
 cut : RQt
 lft : Int
 rgt : Int
 miss : Bool
 val : RQt
 cov : RQt
 deriving Inhabited
def eNd (x : RNd) : List AV := [.b x.leaf,.i .i64 x.ft,.b x.cut.1,.l 1 (x.cut.2.1.map u),.l 1 (x.cut.2.2.map u),.i .i64 x.lft,.i .i64 x.rgt,.b x.miss,.b x.val.1,.l 1 (x.val.2.1.map u),.l 1 (x.val.2.2.map u),.b x.cov.1,.l 1 (x.cov.2.1.map u),.l 1 (x.cov.2.2.map u)]
abbrev dNd : RNd := ⟨false,0,dQ,0,0,false,dQ,dQ⟩
theorem eNd_rules : (∀ x,(eNd x).length = 14) ∧ (∀ h x,(eNd x).map (tellC h) = eNd x) ∧ (∀ h x,(eNd x).map (tell0 h) = eNd x) ∧ (∀ h x,(eNd x).flatMap (refC h) = []) ∧ (∀ x,(eNd x).flatMap ref0 = []) ∧
  (∀ x,ldC true 14 0 (eNd x) = some (.agg (eNd x))) ∧ (∀ x,ldC false 1 0 (eNd x) = some (.b x.leaf)) ∧ (∀ x,ldC false 1 1 (eNd x) = some (.i .i64 x.ft)) ∧ (∀ x,ldC true 3 2 (eNd x) = some (.agg [.b x.cut.1,.l 1 (x.cut.2.1.map u),.l 1 (x.cut.2.2.map u)])) ∧
  (∀ x,ldC false 1 5 (eNd x) = some (.i .i64 x.lft)) ∧ (∀ x,ldC false 1 6 (eNd x) = some (.i .i64 x.rgt)) ∧ (∀ x,ldC false 1 7 (eNd x) = some (.b x.miss)) ∧ (∀ x,ldC true 3 8 (eNd x) = some (.agg [.b x.val.1,.l 1 (x.val.2.1.map u),.l 1 (x.val.2.2.map u)])) ∧ (∀ x,ldC true 3 11 (eNd x) = some (.agg [.b x.cov.1,.l 1 (x.cov.2.1.map u),.l 1 (x.cov.2.2.map u)])) := by
 refine ⟨?_,?_,?_,?_,?_,?_,?_,?_,?_,?_,?_,?_,?_,?_⟩ <;> intros <;> rfl
theorem eNd_row : type_of% (row_rules eNd dNd 14 (fun _ => rfl) (fun _ _ => rfl)) := row_rules eNd dNd 14 (fun _ => rfl) (fun _ _ => rfl)
def eTr (t : List RNd) : List AV := [.l 14 (t.map eNd)]
theorem eTr_rules : (∀ x,(eTr x).length = 1) ∧ (∀ h x,(eTr x).map (tellC h) = eTr x) ∧ (∀ h x,(eTr x).map (tell0 h) = eTr x) ∧ (∀ h x,(eTr x).flatMap (refC h) = []) ∧ (∀ x,(eTr x).flatMap ref0 = []) ∧
  (∀ x,ldC false 1 0 (eTr x) = some (.l 14 (x.map eNd))) := by
 refine ⟨?_,?_,?_,?_,?_,?_⟩ <;> intros <;> rfl
theorem eTr_row : type_of% (row_rules eTr [] 1 (fun _ => rfl) (fun _ _ => rfl)) := row_rules eTr [] 1 (fun _ => rfl) (fun _ _ => rfl)
abbrev RM := Int × List (List RNd)
def eM (x : RM) : List AV := [.i .i64 x.1,.l 1 (x.2.map eTr)]
theorem open_Rw {x : AV} (h : Fit (.sl [.sl kC]) x) : ∃ l : List (List RC),x = .l 1 (l.map eRw) ∧ l.length ≤ maxL ∧ ∀ a ∈ l,a.length ≤ maxL ∧ ∀ c ∈ a,OkC c :=
 open_list h eRw (fun a => a.length ≤ maxL ∧ ∀ c ∈ a,OkC c) fun acs ha => by
  obtain ⟨y,rfl,hy⟩ := ha.one
  obtain ⟨l,rfl,h1,h2⟩ := open_LC hy
  exact ⟨l,rfl,h1,h2⟩
def kR : List CK := [.int .i64,.int .i64]
theorem open_R {acs : List AV} (h : Fits kR acs) : ∃ x,acs = eR x ∧ OkR x := by
 obtain ⟨a,r,rfl,h1,h⟩ := h.cons
 obtain ⟨b,rfl,h2⟩ := h.one
 obtain ⟨n,rfl,o1⟩ := open_int h1
 obtain ⟨m,rfl,o2⟩ := open_int h2
 exact ⟨(n,m),rfl,o1,o2⟩
def kD : List CK := [.int .i64,.sl [.sl kC],.sl kQ]
theorem open_D {acs : List AV} (h : Fits kD acs) : ∃ x,acs = eD x ∧ OkD x := by
 obtain ⟨a,r,rfl,h1,h⟩ := h.cons
 obtain ⟨b,r,rfl,h2,h⟩ := h.cons
 obtain ⟨c,rfl,h3⟩ := h.one
 obtain ⟨n,rfl,o1⟩ := open_int h1
 obtain ⟨l,rfl,o2,o3⟩ := open_Rw h2
 obtain ⟨v,rfl,o4,o5⟩ := open_LQ h3
 exact ⟨(n,l,v),rfl,o1,⟨o2,o3⟩,o4,o5⟩
theorem qadd_c {q r : Bool} {l d m e : List Int} (hu : U l) (hl : l.length ≤ 40000000000) (hv : U d) (hd : d.length ≤ 40000000000) (hu2 : U m) (hl2 : m.length ≤ 40000000000) (hv2 : U e) (hd2 : e.length ≤ 40000000000) :
  R FF 31 [(AV.agg [AV.b q,(AV.l 1 (List.map u l)),(AV.l 1 (List.map u d))]),(AV.agg [AV.b r,(AV.l 1 (List.map u m)),(AV.l 1 (List.map u e))])] = some (AV.agg [AV.b (ng (zV (qv q l d + qv r m e))),(AV.l 1 (List.map u (D (zM (zV (qv q l d + qv r m e)))))),(AV.l 1 (List.map u (D (Rat.den (qv q l d + qv r m e)))))]) := by
 have k1 := qclean_c (q := q) hu (by omega) hv (by omega)
 have k2 := qclean_c (q := r) hu2 (by omega) hv2 (by omega)
 have s1 := qv_sq (q := q) (l := l) (d := d) (k := 40000000000) hl hd (by omega)
 have s2 := qv_sq (q := r) (l := m) (d := e) (k := 40000000000) hl2 hd2 (by omega)
 generalize qv q l d = x at *
 generalize qv r m e = y at *
 have e1 := qden_c (q := ng x.num) (l := D x.num.natAbs) (d := D x.den)
 have e2 := qden_c (q := ng y.num) (l := D y.num.natAbs) (d := D y.den)
 have n1 := sq_num x
 have n2 := sq_num y
 have n3 := sq_den x
 have n4 := sq_den y
 have m1 := wmul_c (q := ng x.num) (r := false) (D_U x.num.natAbs) (show L _ ≤ _ by omega) (D_U y.den) (show L _ ≤ _ by omega)
 have m2 := wmul_c (q := ng y.num) (r := false) (D_U y.num.natAbs) (show L _ ≤ _ by omega) (D_U x.den) (show L _ ≤ _ by omega)
 rw [wv_ci,den_ci] at m1 m2
 have b1 : L (x.num * y.den).natAbs ≤ 80000000000 := by rw [Int.natAbs_mul,Int.natAbs_natCast]; have := L_mul x.num.natAbs y.den; omega
 have b2 : L (y.num * x.den).natAbs ≤ 80000000000 := by rw [Int.natAbs_mul,Int.natAbs_natCast]; have := L_mul y.num.natAbs x.den; omega
 have a1 := wadd_D (a := x.num * y.den) (b := y.num * x.den) (by omega) (by omega)
 have b3 : L (x.num * y.den + y.num * x.den).natAbs ≤ 80000000001 := by
  have h1 := L_mono (Int.natAbs_add_le (x.num * y.den) (y.num * x.den))
  have h2 := L_add (x.num * y.den).natAbs (y.num * x.den).natAbs
  omega
 have m3 := mul_D (m := x.den) (n := y.den) (by omega)
 have b4 := L_mul x.den y.den
 have f1 := form_c (n := x.num * y.den + y.num * x.den) (d := x.den * y.den) (Nat.mul_ne_zero x.den_nz y.den_nz) (by omega) (by omega)
 rw [← Rat.add_def'] at f1
 rw [R_go FF F31 c31.eq_1]
 simp only [RB,RL,un,St.none,za,zd,ze,zf,zb,zj,zk,zm,zn,zc,zg,zh,zi,↓reduceIte,reduceCtorEq,pack,pid,parN,lid,chkK,apartV,Heap.none,k1,k2,e1,e2,m1,m2,a1,m3,f1]
theorem qneg_c {q : Bool} {l d : List Int} (hu : U l) (hl : l.length ≤ 100000000000) (hv : U d) (hd : d.length ≤ 100000000000) : R FF 96 [(AV.agg [AV.b q,(AV.l 1 (List.map u l)),(AV.l 1 (List.map u d))])] = some (AV.agg [AV.b (ng (zV (-qv q l d))),(AV.l 1 (List.map u (D (zM (zV (-qv q l d)))))),(AV.l 1 (List.map u (D (Rat.den (-qv q l d)))))]) := by
 have k1 := qclean_c (q := q) hu hl hv hd
 have s1 := qv_sq (q := q) (l := l) (d := d) (k := 100000000000) hl hd (by omega)
 generalize qv q l d = x at *
 have n1 := sq_num x
 have m1 := wneg_c (q := ng x.num) (D_U x.num.natAbs) (show L _ ≤ _ by omega)
 rw [wv_ci] at m1
 rw [Rat.neg_num,Rat.neg_den]
 rw [R_go FF F96 c96.eq_1]
 simp only [RB,RL,un,St.none,za,zd,ze,zf,zb,zj,zk,zm,zn,zc,zg,zh,zi,↓reduceIte,reduceCtorEq,pack,pid,parN,lid,chkK,apartV,Heap.none,k1,m1]
theorem qsub_c {q r : Bool} {l d m e : List Int} (hu : U l) (hl : l.length ≤ 40000000000) (hv : U d) (hd : d.length ≤ 40000000000) (hu2 : U m) (hl2 : m.length ≤ 40000000000) (hv2 : U e) (hd2 : e.length ≤ 40000000000) :
  R FF 55 [(AV.agg [AV.b q,(AV.l 1 (List.map u l)),(AV.l 1 (List.map u d))]),(AV.agg [AV.b r,(AV.l 1 (List.map u m)),(AV.l 1 (List.map u e))])] = some (AV.agg [AV.b (ng (zV (qv q l d - qv r m e))),(AV.l 1 (List.map u (D (zM (zV (qv q l d - qv r m e)))))),(AV.l 1 (List.map u (D (Rat.den (qv q l d - qv r m e)))))]) := by
 have k1 := qneg_c (q := r) hu2 (by omega) hv2 (by omega)
 have s2 := qv_sq (q := r) (l := m) (d := e) (k := 40000000000) hl2 hd2 (by omega)
 rw [← sq_neg] at s2
 rw [Rat.sub_eq_add_neg]
 generalize -qv r m e = y at *
 have n2 := sq_num y
 have n4 := sq_den y
 have k2 := qadd_c (q := q) (r := ng y.num) hu hl hv hd (D_U y.num.natAbs) (show L _ ≤ _ by omega) (D_U y.den) (show L _ ≤ _ by omega)
 rw [qv_cq] at k2
 rw [R_go FF F55 c55.eq_1]
 simp only [RB,RL,un,St.none,za,zd,ze,zf,zb,zj,zk,zm,zn,zc,zg,zh,zi,↓reduceIte,reduceCtorEq,pack,pid,parN,lid,chkK,apartV,Heap.none,k1,k2]
theorem qmul_c {q r : Bool} {l d m e : List Int} (hu : U l) (hl : l.length ≤ 40000000000) (hv : U d) (hd : d.length ≤ 40000000000) (hu2 : U m) (hl2 : m.length ≤ 40000000000) (hv2 : U e) (hd2 : e.length ≤ 40000000000) :
  R FF 94 [(AV.agg [AV.b q,(AV.l 1 (List.map u l)),(AV.l 1 (List.map u d))]),(AV.agg [AV.b r,(AV.l 1 (List.map u m)),(AV.l 1 (List.map u e))])] = some (AV.agg [AV.b (ng (zV (qv q l d * qv r m e))),(AV.l 1 (List.map u (D (zM (zV (qv q l d * qv r m e)))))),(AV.l 1 (List.map u (D (Rat.den (qv q l d * qv r m e)))))]) := by
 have k1 := qclean_c (q := q) hu (by omega) hv (by omega)
 have k2 := qclean_c (q := r) hu2 (by omega) hv2 (by omega)
 have s1 := qv_sq (q := q) (l := l) (d := d) (k := 40000000000) hl hd (by omega)
 have s2 := qv_sq (q := r) (l := m) (d := e) (k := 40000000000) hl2 hd2 (by omega)
 generalize qv q l d = x at *
 generalize qv r m e = y at *
 have n1 := sq_num x
 have n2 := sq_num y
 have n3 := sq_den x
 have n4 := sq_den y
 have m1 := wmul_D (a := x.num) (b := y.num) (by omega) (by omega)
 have b1 : L (x.num * y.num).natAbs ≤ 80000000000 := by rw [Int.natAbs_mul]; have := L_mul x.num.natAbs y.num.natAbs; omega
 have m3 := mul_D (m := x.den) (n := y.den) (by omega)
 have b4 := L_mul x.den y.den
 have f1 := form_c (n := x.num * y.num) (d := x.den * y.den) (Nat.mul_ne_zero x.den_nz y.den_nz) (by omega) (by omega)
 rw [← Rat.mul_def'] at f1
 rw [R_go FF F94 c94.eq_1]
 simp only [RB,RL,un,St.none,za,zd,ze,zf,zb,zj,zk,zm,zn,zc,zg,zh,zi,↓reduceIte,reduceCtorEq,pack,pid,parN,lid,chkK,apartV,Heap.none,k1,k2,m1,m3,f1]
theorem qone_c : R FF 56 [] = some (AV.agg [AV.b (ng (zV ((1 : Rat)))),(AV.l 1 (List.map u (D (zM (zV ((1 : Rat))))))),(AV.l 1 (List.map u (D (Rat.den ((1 : Rat))))))]) := by
 have o1 := qof_c (n := 1) (by omega) (by omega)
 rw [show ((1 : Int) : Rat) = 1 from rfl] at o1
 rw [R_go FF F56 c56.eq_1]
 simp only [RB,RL,un,St.none,za,zd,ze,zf,zb,zj,zk,zm,zn,zc,zg,zh,zi,↓reduceIte,reduceCtorEq,pack,pid,parN,lid,chkK,apartV,Heap.none,o1]
theorem qsame_c {q r : Bool} {l d m e : List Int} (hu : U l) (hl : l.length ≤ 100000000000) (hv : U d) (hd : d.length ≤ 100000000000) (hu2 : U m) (hl2 : m.length ≤ 100000000000) (hv2 : U e) (hd2 : e.length ≤ 100000000000) :
  R FF 57 [(AV.agg [AV.b q,(AV.l 1 (List.map u l)),(AV.l 1 (List.map u d))]),(AV.agg [AV.b r,(AV.l 1 (List.map u m)),(AV.l 1 (List.map u e))])] = some (.b (decide (qv q l d = qv r m e))) := by
 have k1 := qcmp_c (q := q) (r := r) hu hl hv hd hu2 hl2 hv2 hd2
 have e1 := qcmp_eq (x := qv q l d) (y := qv r m e)
 rw [show decide (qv q l d = qv r m e) = decide (qcmp (qv q l d) (qv r m e) = 0) from decide_eq_decide.2 e1.symm]
 rw [R_go FF F57 c57.eq_1]
 simp only [RB,RL,un,St.none,za,zd,ze,zf,zb,zj,zk,zm,zn,zc,zg,zh,zi,↓reduceIte,reduceCtorEq,pack,pid,parN,lid,chkK,apartV,Heap.none,k1]
theorem qsign_n (x : Rat) : cmp x.num 0 = qcmp x 0 := by
 unfold qcmp
 rw [show (0 : Rat).num = 0 from rfl,show (0 : Rat).den = 1 from rfl,Int.zero_mul,Int.ofNat_one,Int.mul_one]
def mt2 (a b : RS) : RS := if b.1 then abvV (cS a) b.2.2.1 true else cS a
def mt3 (a b : RS) : RS := if b.2.1 then belV (mt2 a b) b.2.2.2.1 true else mt2 a b
theorem qsub_s {q r : Bool} {l d m e : List Int} {k j : Nat} (h : Sm l d k) (h2 : Sm m e j) (hk : k ≤ 40000000000) (hj : j ≤ 40000000000) : R FF 55 [(AV.agg [AV.b q,(AV.l 1 (List.map u l)),(AV.l 1 (List.map u d))]),(AV.agg [AV.b r,(AV.l 1 (List.map u m)),(AV.l 1 (List.map u e))])] = some (AV.agg [AV.b (ng (zV (qv q l d - qv r m e))),(AV.l 1 (List.map u (D (zM (zV (qv q l d - qv r m e)))))),(AV.l 1 (List.map u (D (Rat.den (qv q l d - qv r m e)))))]) :=
 qsub_c h.1.1 (zE h.1.2 hk) h.2.1 (zE h.2.2 hk) h2.1.1 (zE h2.1.2 hj) h2.2.1 (zE h2.2.2 hj)
theorem qadd_s {q r : Bool} {l d m e : List Int} {k j : Nat} (h : Sm l d k) (h2 : Sm m e j) (hk : k ≤ 40000000000) (hj : j ≤ 40000000000) : R FF 31 [(AV.agg [AV.b q,(AV.l 1 (List.map u l)),(AV.l 1 (List.map u d))]),(AV.agg [AV.b r,(AV.l 1 (List.map u m)),(AV.l 1 (List.map u e))])] = some (AV.agg [AV.b (ng (zV (qv q l d + qv r m e))),(AV.l 1 (List.map u (D (zM (zV (qv q l d + qv r m e)))))),(AV.l 1 (List.map u (D (Rat.den (qv q l d + qv r m e)))))]) :=
 qadd_c h.1.1 (zE h.1.2 hk) h.2.1 (zE h.2.2 hk) h2.1.1 (zE h2.1.2 hj) h2.2.1 (zE h2.2.2 hj)
theorem qmul_s {q r : Bool} {l d m e : List Int} {k j : Nat} (h : Sm l d k) (h2 : Sm m e j) (hk : k ≤ 40000000000) (hj : j ≤ 40000000000) : R FF 94 [(AV.agg [AV.b q,(AV.l 1 (List.map u l)),(AV.l 1 (List.map u d))]),(AV.agg [AV.b r,(AV.l 1 (List.map u m)),(AV.l 1 (List.map u e))])] = some (AV.agg [AV.b (ng (zV (qv q l d * qv r m e))),(AV.l 1 (List.map u (D (zM (zV (qv q l d * qv r m e)))))),(AV.l 1 (List.map u (D (Rat.den (qv q l d * qv r m e)))))]) :=
 qmul_c h.1.1 (zE h.1.2 hk) h.2.1 (zE h.2.2 hk) h2.1.1 (zE h2.1.2 hj) h2.2.1 (zE h2.2.2 hj)
theorem qsame_s {q r : Bool} {l d m e : List Int} {k j : Nat} (h : Sm l d k) (h2 : Sm m e j) (hk : k ≤ 100000000000) (hj : j ≤ 100000000000) : R FF 57 [(AV.agg [AV.b q,(AV.l 1 (List.map u l)),(AV.l 1 (List.map u d))]),(AV.agg [AV.b r,(AV.l 1 (List.map u m)),(AV.l 1 (List.map u e))])] = some (.b (decide (qv q l d = qv r m e))) :=
 qsame_c h.1.1 (zE h.1.2 hk) h.2.1 (zE h.2.2 hk) h2.1.1 (zE h2.1.2 hj) h2.2.1 (zE h2.2.2 hj)
theorem sq_zero : sq 0 ≤ 1 := by
 have h1 : L (0 : Rat).num.natAbs ≤ 0 := L_le (n := 0) (k := 0) (by decide)
 have h2 : L (0 : Rat).den ≤ 1 := L_le (n := 1) (k := 1) (by decide)
 unfold sq
 omega
theorem sq_sub (x y : Rat) : sq (x - y) ≤ sq x + sq y + 1 := by rw [Rat.sub_eq_add_neg,← sq_neg y]; exact sq_add x (-y)
theorem qsign_c {q : Bool} {l d : List Int} {k : Nat} (hk : k ≤ 100000000000) (h : Sm l d k) : R FF 162 [(AV.agg [AV.b q,(AV.l 1 (List.map u l)),(AV.l 1 (List.map u d))])] = some (AV.i .i64 (cmp (qv q l d).num 0)) := by
 have k1 := qclean_s (q := q) h hk
 have s1 := qv_sq (q := q) (l := l) (d := d) (k := 100000000000) (zE h.1.2 hk) (zE h.2.2 hk) (by omega)
 generalize qv q l d = x at *
 have n1 := sq_num x
 have m1 := wsign_c (q := ng x.num) (D_U x.num.natAbs) (show L _ ≤ _ by omega)
 rw [wv_ci] at m1
 rw [R_go FF F162 c162.eq_1]
 simp only [RB,RL,un,St.none,za,zd,ze,zf,zb,zj,zk,zm,zn,zc,zg,zh,zi,↓reduceIte,reduceCtorEq,pack,pid,parN,lid,chkK,apartV,Heap.none,k1,m1]
def SmL (p : List RQt) (k : Nat) : Prop := ∀ x ∈ p,Sm x.2.1 x.2.2 k
def rQ (x : Rat) : RQt := (ng x.num,D x.num.natAbs,D x.den)
theorem vQ_rQ (x : Rat) : vQ (rQ x) = x := qv_cq x
theorem sq_inv (x : Rat) : sq x⁻¹ ≤ sq x + 1 := by
 unfold sq
 rw [Rat.num_inv,Rat.den_inv,Int.natAbs_mul,Int.natAbs_natCast]
 have h1 : L (x.num.sign.natAbs * x.den) ≤ L x.den := L_mono (by
  have : x.num.sign.natAbs ≤ 1 := by
   rcases Int.lt_trichotomy x.num 0 with h | h | h
   ·rw [Int.sign_eq_neg_one_of_neg h]; decide
   ·rw [h]; decide
   ·rw [Int.sign_eq_one_of_pos h]; decide
  calc x.num.sign.natAbs * x.den ≤ 1 * x.den := zK _ this
   _ = x.den := Nat.one_mul _)
 split
 ·have : L 1 ≤ 1 := L_le (n := 1) (k := 1) (by decide)
  omega
 ·omega
theorem sq_int (n : Int) (h : n.natAbs < 4294967296) : sq (n : Rat) ≤ 1 := by
 unfold sq
 rw [Rat.num_intCast,Rat.den_intCast]
 have h1 : L n.natAbs ≤ 1 := L_le (n := n.natAbs) (k := 1) (by omega)
 have h2 : L 1 ≤ 1 := L_le (n := 1) (k := 1) (by decide)
 omega
theorem qmake_c {n d : Int} (hn : L n.natAbs ≤ 100000000000) (hd : L d.natAbs ≤ 100000000000) (h0 : d ≠ 0) : R FF 122 [(AV.agg [AV.b (ng n),(AV.l 1 (List.map u (D (zM n))))]),(AV.agg [AV.b (ng d),(AV.l 1 (List.map u (D (zM d))))])] = some (.tup [(AV.agg [AV.b (ng (zV ((Rat.divInt n d)))),(AV.l 1 (List.map u (D (zM (zV ((Rat.divInt n d))))))),(AV.l 1 (List.map u (D (Rat.den ((Rat.divInt n d))))))]),(AV.i .i64 0)]) := by
 have k1 := wclean_c (q := ng n) (D_U n.natAbs) (show L _ ≤ _ by omega)
 have k2 := wclean_c (q := ng d) (D_U d.natAbs) (show L _ ≤ _ by omega)
 have s1 := wsign_c (q := ng d) (D_U d.natAbs) (show L _ ≤ _ by omega)
 have m1 := wneg_c (q := ng n) (D_U n.natAbs) (show L _ ≤ _ by omega)
 rw [wv_ci] at k1 k2 s1 m1
 have c0 : ¬ cmp d 0 = 0 := fun h => h0 (cmp_eq_iff.1 h)
 rcases Int.lt_or_le d 0 with c | c
 ·have e1 : d = -((d.natAbs : Nat) : Int) := by omega
  have e2 : Rat.divInt n d = mkRat (-n) d.natAbs := by
   conv => lhs; rw [e1]
   rw [Rat.divInt_neg',Rat.divInt_ofNat]
  have f1 := form_c (n := -n) (d := d.natAbs) (by omega) (by rw [Int.natAbs_neg]; omega) hd
  have b1 : ng d = true := by unfold ng; exact decide_eq_true c
  rw [e2]
  rw [b1] at k2 s1 ⊢
  generalize mkRat (-n) d.natAbs = z at *
  rw [R_go FF F122 c122.eq_1]
  simp only [RB,RL,un,St.none,za,zd,ze,zf,zb,zj,zk,zm,zn,zc,zg,zh,zi,↓reduceIte,reduceCtorEq,pack,pid,parN,lid,chkK,apartV,Heap.none,k1,k2,s1,m1,c0,f1]
 ·have e1 : d = ((d.natAbs : Nat) : Int) := by omega
  have e2 : Rat.divInt n d = mkRat n d.natAbs := by
   conv => lhs; rw [e1]
   rw [Rat.divInt_ofNat]
  have f1 := form_c (n := n) (d := d.natAbs) (by omega) hn hd
  have b1 : ng d = false := ng_false.2 c
  rw [e2]
  rw [b1] at k2 s1 ⊢
  generalize mkRat n d.natAbs = z at *
  rw [R_go FF F122 c122.eq_1]
  simp only [RB,RL,un,St.none,za,zd,ze,zf,zb,zj,zk,zm,zn,zc,zg,zh,zi,↓reduceIte,reduceCtorEq,pack,pid,parN,lid,chkK,apartV,Heap.none,k1,k2,s1,m1,c0,f1]
theorem qfrac_c {i : Nat} (hi : i < 1000000) : R FF 95 [(AV.i .i64 1),(AV.i .i64 (((i + 1 : Nat) : Int)))] = some (AV.agg [AV.b (ng (zV (((((i + 1 : Nat) : Int) : Rat)⁻¹)))),(AV.l 1 (List.map u (D (zM (zV (((((i + 1 : Nat) : Int) : Rat)⁻¹))))))),(AV.l 1 (List.map u (D (Rat.den (((((i + 1 : Nat) : Int) : Rat)⁻¹))))))]) := by
 have o1 := wof_c (x := 1) (by omega) (by omega)
 have o2 := wof_c (x := ((i + 1 : Nat) : Int)) (by omega) (by omega)
 have m1 := qmake_c (n := 1) (d := ((i + 1 : Nat) : Int)) (zE (L_le (n := 1) (k := 1) (by decide)) (by omega)) (zE (L_le (n := i + 1) (k := 1) (by omega)) (by omega)) (by omega)
 have e : Rat.divInt 1 ((i + 1 : Nat) : Int) = (((i + 1 : Nat) : Int) : Rat)⁻¹ := by rw [Rat.inv_def]; rfl
 rw [e] at m1
 have s0 := sq_int ((i + 1 : Nat) : Int) (by omega)
 have s1 := sq_inv ((((i + 1 : Nat) : Int)) : Rat)
 generalize ((((i + 1 : Nat) : Int)) : Rat)⁻¹ = y at *
 have k1 := qclean_s (q := ng y.num) (sm_cq (x := y) (k := 2) (by omega)) (by omega)
 rw [qv_cq] at k1
 rw [R_go FF F95 c95.eq_1]
 simp only [RB,RL,un,St.none,za,zd,ze,zf,zb,zj,zk,zm,zn,zc,zg,zh,zi,↓reduceIte,reduceCtorEq,pack,pid,parN,lid,chkK,apartV,Heap.none,o1,o2,m1,k1]
def fD (d : RD) : RD := (d.1,(d.2.1.take 6).map (fw 4),(d.2.2.take 6).map tQ)
theorem few1_c {q : Bool} {l d : List Int} (h : OkQ (q,l,d)) : R FF 29 [.l 4 [[.b false,.b q,.l 1 (l.map u),.l 1 (d.map u)]],(AV.i .i64 1)] = some (.l 4 [[.b false,.b q,.l 1 ((l.take 3).map u),.l 1 ((d.take 3).map u)]]) :=
 few09_c (l := [(false,q,l,d)]) (n := 1) (by omega) (fun x hx => by rw [List.mem_singleton.1 hx]; exact h) (by rw [jg]; decide)
theorem nJ (ls : List Nat) (y : AV) (g : Heap) (xs : List AV) : nestJ ls (some (y,g)) xs = (nestL ls g xs).map fun q => (y :: q.1,q.2) := rfl
theorem nK (h : Heap) (q z o n : Nat) (ap : Bool) (z' : Nat) (es : List (List AV)) : nestK h q z o n (some (.sl ap z' es)) = some (.own (ap && apB z o n es.length) z ((es.drop o).take n),h.put q .dead) := rfl
theorem few26_l0 {f : Int} {rs rows : List (List AV)} {l : List RQt} (hu : ∀ x ∈ l,OkQ x) (hl : l.length ≤ maxL) : ∀ (d i : Nat),i + d = min l.length 6 →
  LP FF [(2,1),(3,4),(1,0),(4,0)] [(2,1),(3,0)] b167_0 [.ownp [(AV.i .i64 0),.l 1 [],.l 3 []],.ownp [(AV.i .i64 f),.l 1 rows,.own true 3 (((l.take i).map tQ).map eQ)],.tp [(AV.i .i64 f),.l 1 rs,.l 3 (l.map eQ)] 0,(AV.i .i64 ((i : Int)))] = some (.exit 0,[.ownp [(AV.i .i64 0),.l 1 [],.l 3 []],.tp [(AV.i .i64 f),.l 1 rows,.l 3 (((l.take 6).map tQ).map eQ)] 0]) := by
 intro d
 induction d with
 | zero =>
  intro i hi
  have h2 : l.take i = l.take 6 := by
   rw [show i = min l.length 6 by omega]
   rcases Nat.le_total l.length 6 with h | h
   ·rw [jh h,zp (zz _),zp h]
   ·rw [Nat.min_eq_right h]
  rw [h2]
  by_cases c1 : (i : Int) < (l.length : Int)
  ·have c2 : ¬ (i : Int) < 6 := by omega
   rw [LP_go FF b167_0.eq_1]
   simp only [RB,RL,un,St.none,za,zd,ze,zf,zb,zj,zk,zm,zn,zc,zg,zh,zi,↓reduceIte,reduceCtorEq,pack,pid,parN,lid,chkK,apartV,Heap.none,c1,c2,nJ,nK]
  ·rw [LP_go FF b167_0.eq_1]
   simp only [RB,RL,un,St.none,za,zd,ze,zf,zb,zj,zk,zm,zn,zc,zg,zh,zi,↓reduceIte,reduceCtorEq,pack,pid,parN,lid,chkK,apartV,Heap.none,c1,nJ,nK]
 | succ d ih =>
  intro i hi
  have hlt : i < l.length := by omega
  have h9 := ih (i + 1) (by omega)
  have hx := hu _ (getD_mem' dQ hlt)
  have f1 := few1_c (q := (l.getD i dQ).1) (l := (l.getD i dQ).2.1) (d := (l.getD i dQ).2.2) hx
  have ht : (l.take (i + 1)).map tQ = (l.take i).map tQ ++ [tQ (l.getD i dQ)] := by
   rw [List.take_add_one,zr hlt,jb,zo,zr hlt]
   rfl
  rw [ht] at h9
  have hlen : (List.map tQ (zQ i l)).length = i := by rw [zC,zD]; omega
  have c1 : (i : Int) < (l.length : Int) := by omega
  have c2 : (i : Int) < 6 := by omega
  have e2 : IntKind.i64.wrap ((i : Int) + 1) = ((i + 1 : Nat) : Int) := w64succ (by omega)
  have b2 : (i + 1) * 56 ≤ 140737488355328 := by omega
  have m2 : zQ (i + 1) (List.map tQ (zQ i l) ++ [tQ (l.getD i dQ)]) = List.map tQ (zQ i l) ++ [tQ (l.getD i dQ)] := zp (by rw [zx,hlen]; simp)
  have m3 : zQ i (List.map tQ (zQ i l)) = List.map tQ (zQ i l) := zp (by omega)
  have m1 : List.map eQ (List.map tQ (zQ i l)) ++ [[AV.b (l.getD i dQ).1,AV.l 1 (List.map u ((l.getD i dQ).2.1.take 3)),AV.l 1 (List.map u ((l.getD i dQ).2.2.take 3))]] = List.map eQ (List.map tQ (zQ i l) ++ [tQ (l.getD i dQ)]) := by rw [jb]; rfl
  rw [LP_go FF b167_0.eq_1]
  simp only [RB,RL,un,St.none,za,zd,ze,zf,zb,zj,zk,zm,zn,zc,zg,zh,zi,↓reduceIte,reduceCtorEq,pack,pid,parN,lid,chkK,apartV,Heap.none,c1,c2,nJ,nK,eQ_rules,eQ_row,zq,f1,e2,hlen,b2,m3,m1,m2]


  exact h9
theorem few26_c {d : RD} (h : OkD d) : R FF 167 [.agg (eD d)] = some (.agg (eD (fD d))) := by
 obtain ⟨f,rows,vals⟩ := d
 have f1 : R FF 97 [.l 1 (rows.map eRw),(AV.i .i64 6),(AV.i .i64 4)] = _ := all09_c (n := 6) (w := 4) (by omega) (by omega) h.2.1.2 h.2.1.1
 have l0 := few26_l0 (f := f) (l := vals) (rs := rows.map eRw) (rows := ((rows.take 6).map (fw 4)).map eRw) h.2.2.2 h.2.2.1 (min vals.length 6) 0 (by omega)
 rw [jk,zI] at l0
 simp only [zR] at l0
 simp only [eD,fD]
 rw [R_go FF F167 c167.eq_1]
 simp only [RB,RL,un,St.none,za,zd,ze,zf,zb,zj,zk,zm,zn,zc,zg,zh,zi,↓reduceIte,reduceCtorEq,pack,pid,parN,lid,chkK,apartV,Heap.none,f1,l0,nJ,nK,n64]
def badL (f : Int) (r : List RC) : Bool := decide ((r.length : Int) ≠ f)
def rtV (d : RD) (r : RR) : Int :=
 if d.1 < 0 ∨ 64 < d.1 ∨ r.1 < 0 ∨ 7 < r.1 ∨ r.2 < 1 then 8 else if d.2.1.length ≠ d.2.2.length then 14 else if d.2.1.length = 0 then 15 else if d.2.1.any (badL d.1) then 14 else 0
theorem any_drop {α : Type} {p : α → Bool} {l : List α} {i : Nat} (d : α) (h : i < l.length) : (l.drop i).any p = (p (l.getD i d) || (l.drop (i + 1)).any p) := by
 rw [List.drop_eq_getElem_cons h,List.any_cons,zo,zr h]; rfl
theorem gright_l0 {f : Int} {rows : List (List RC)} {es : List (List AV)} (hl : rows.length ≤ 1000) : ∀ (d i : Nat),i + d = rows.length →
  LP FF [(2,0),(50,0),(51,0),(52,0)] [(4,0)] b168_0 [.tp [(AV.i .i64 f),.l 1 (rows.map eRw),.l 3 es] 0,.l 1 (rows.map eRw),(AV.i .i64 ((rows.length : Int))),(AV.i .i64 ((i : Int)))] = if (rows.drop i).any (badL f) then some (.ret,[(AV.i .i64 14)]) else some (.exit 1,[.junk]) := by
 intro d
 induction d with
 | zero =>
  intro i hi
  have c1 : ¬ (i : Int) < (rows.length : Int) := by omega
  rw [zW (by omega)]
  rw [LP_go FF b168_0.eq_1]
  simp only [RB,RL,un,St.none,za,zd,ze,zf,zb,zj,zk,zm,zn,zc,zg,zh,zi,↓reduceIte,reduceCtorEq,pack,pid,parN,lid,chkK,apartV,Heap.none,c1]
  simp
 | succ d ih =>
  intro i hi
  have h9 := ih (i + 1) (by omega)
  have hlt : i < rows.length := by omega
  have c1 : (i : Int) < (rows.length : Int) := by omega
  have e2 : IntKind.i64.wrap ((i : Int) + 1) = ((i + 1 : Nat) : Int) := w64succ (by omega)
  rw [any_drop [] hlt]
  by_cases c2 : ((rows.getD i []).length : Int) = f
  ·rw [show badL f (rows.getD i []) = false from by simp only [badL,c2,ne_eq,not_true_eq_false,not_false_eq_true,decide_true,decide_false],Bool.false_or]
   rw [LP_go FF b168_0.eq_1]
   simp only [RB,RL,un,St.none,za,zd,ze,zf,zb,zj,zk,zm,zn,zc,zg,zh,zi,↓reduceIte,reduceCtorEq,pack,pid,parN,lid,chkK,apartV,Heap.none,c1,c2,e2,eRw_rules,eRw_row,zq]
   exact h9
  ·rw [show badL f (rows.getD i []) = true from by simp only [badL,c2,ne_eq,not_true_eq_false,not_false_eq_true,decide_true,decide_false],Bool.true_or,if_pos rfl]
   rw [LP_go FF b168_0.eq_1]
   simp only [RB,RL,un,St.none,za,zd,ze,zf,zb,zj,zk,zm,zn,zc,zg,zh,zi,↓reduceIte,reduceCtorEq,pack,pid,parN,lid,chkK,apartV,Heap.none,c1,c2,e2,eRw_rules,eRw_row,zq]
theorem right26_l0 {f : Int} {rows : List (List RC)} {es : List (List AV)} (hl : rows.length ≤ 1000) : ∀ (d i : Nat),i + d = rows.length →
  LP FF [(2,0),(5,0)] [(4,0)] b169_0 [.tp [(AV.i .i64 f),.l 1 (rows.map eRw),.l 3 es] 0,(AV.i .i64 ((i : Int)))] = if (rows.drop i).any (badL f) then some (.ret,[(AV.i .i64 14)]) else some (.exit 0,[.junk]) := by
 intro d
 induction d with
 | zero =>
  intro i hi
  have c1 : ¬ (i : Int) < (rows.length : Int) := by omega
  rw [zW (by omega)]
  rw [LP_go FF b169_0.eq_1]
  simp only [RB,RL,un,St.none,za,zd,ze,zf,zb,zj,zk,zm,zn,zc,zg,zh,zi,↓reduceIte,reduceCtorEq,pack,pid,parN,lid,chkK,apartV,Heap.none,c1]
  simp
 | succ d ih =>
  intro i hi
  have h9 := ih (i + 1) (by omega)
  have hlt : i < rows.length := by omega
  have c1 : (i : Int) < (rows.length : Int) := by omega
  have e2 : IntKind.i64.wrap ((i : Int) + 1) = ((i + 1 : Nat) : Int) := w64succ (by omega)
  rw [any_drop [] hlt]
  by_cases c2 : ((rows.getD i []).length : Int) = f
  ·rw [show badL f (rows.getD i []) = false from by simp only [badL,c2,ne_eq,not_true_eq_false,not_false_eq_true,decide_true,decide_false],Bool.false_or]
   rw [LP_go FF b169_0.eq_1]
   simp only [RB,RL,un,St.none,za,zd,ze,zf,zb,zj,zk,zm,zn,zc,zg,zh,zi,↓reduceIte,reduceCtorEq,pack,pid,parN,lid,chkK,apartV,Heap.none,c1,c2,e2,eRw_rules,eRw_row,zq]
   exact h9
  ·rw [show badL f (rows.getD i []) = true from by simp only [badL,c2,ne_eq,not_true_eq_false,not_false_eq_true,decide_true,decide_false],Bool.true_or,if_pos rfl]
   rw [LP_go FF b169_0.eq_1]
   simp only [RB,RL,un,St.none,za,zd,ze,zf,zb,zj,zk,zm,zn,zc,zg,zh,zi,↓reduceIte,reduceCtorEq,pack,pid,parN,lid,chkK,apartV,Heap.none,c1,c2,e2,eRw_rules,eRw_row,zq]
theorem gright_c {d : RD} {r : RR} (h : d.2.1.length ≤ 1000) : R FF 168 [.agg (eD d),.agg (eR r)] = some (AV.i .i64 (rtV d r)) := by
 obtain ⟨f,rows,vals⟩ := d
 obtain ⟨dep,lst⟩ := r
 have l0 := gright_l0 (f := f) (rows := rows) (es := vals.map eQ) (by simpa using h) rows.length 0 (by omega)
 rw [List.drop_zero,zI] at l0
 simp only at h
 have c0 : ¬ (1000 : Int) < (rows.length : Int) := by omega
 simp only [eD,eR,rtV]
 by_cases b : f < 0 ∨ 64 < f ∨ dep < 0 ∨ 7 < dep ∨ lst < 1
 ·rw [if_pos b]
  by_cases b1 : f < 0
  ·rw [R_go FF F168 c168.eq_1]
   simp only [RB,RL,un,St.none,za,zd,ze,zf,zb,zj,zk,zm,zn,zc,zg,zh,zi,↓reduceIte,reduceCtorEq,pack,pid,parN,lid,chkK,apartV,Heap.none,b1]
  by_cases b2 : 64 < f
  ·rw [R_go FF F168 c168.eq_1]
   simp only [RB,RL,un,St.none,za,zd,ze,zf,zb,zj,zk,zm,zn,zc,zg,zh,zi,↓reduceIte,reduceCtorEq,pack,pid,parN,lid,chkK,apartV,Heap.none,b1,b2]
  by_cases b3 : dep < 0
  ·rw [R_go FF F168 c168.eq_1]
   simp only [RB,RL,un,St.none,za,zd,ze,zf,zb,zj,zk,zm,zn,zc,zg,zh,zi,↓reduceIte,reduceCtorEq,pack,pid,parN,lid,chkK,apartV,Heap.none,b1,b2,b3]
  by_cases b4 : 7 < dep
  ·rw [R_go FF F168 c168.eq_1]
   simp only [RB,RL,un,St.none,za,zd,ze,zf,zb,zj,zk,zm,zn,zc,zg,zh,zi,↓reduceIte,reduceCtorEq,pack,pid,parN,lid,chkK,apartV,Heap.none,b1,b2,b3,b4]
  have b5 : lst < 1 := by omega
  rw [R_go FF F168 c168.eq_1]
  simp only [RB,RL,un,St.none,za,zd,ze,zf,zb,zj,zk,zm,zn,zc,zg,zh,zi,↓reduceIte,reduceCtorEq,pack,pid,parN,lid,chkK,apartV,Heap.none,b1,b2,b3,b4,b5]
 rw [if_neg b]
 have b1 : ¬ f < 0 := by omega
 have b2 : ¬ 64 < f := by omega
 have b3 : ¬ dep < 0 := by omega
 have b4 : ¬ 7 < dep := by omega
 have b5 : ¬ lst < 1 := by omega
 by_cases h1 : rows.length = vals.length
 ·have h1' : (rows.length : Int) = (vals.length : Int) := by omega
  rw [if_neg (by omega)]
  by_cases h2 : rows.length = 0
  ·rw [if_pos h2]
   have h2' : (rows.length : Int) = 0 := by omega
   have h2'' : (vals.length : Int) = 0 := by omega
   rw [R_go FF F168 c168.eq_1]
   simp only [RB,RL,un,St.none,za,zd,ze,zf,zb,zj,zk,zm,zn,zc,zg,zh,zi,↓reduceIte,reduceCtorEq,pack,pid,parN,lid,chkK,apartV,Heap.none,b1,b2,b3,b4,b5,h1',h2',h2'']
  ·rw [if_neg h2]
   have h2' : ¬ (rows.length : Int) = 0 := by omega
   have h2'' : ¬ (vals.length : Int) = 0 := by omega
   rw [h1'] at c0 l0
   by_cases h3 : rows.any (badL f) = true
   ·rw [if_pos h3] at l0 ⊢
    rw [R_go FF F168 c168.eq_1]
    simp only [RB,RL,un,St.none,za,zd,ze,zf,zb,zj,zk,zm,zn,zc,zg,zh,zi,↓reduceIte,reduceCtorEq,pack,pid,parN,lid,chkK,apartV,Heap.none,b1,b2,b3,b4,b5,h1',h2',h2'',l0,c0]
   ·rw [if_neg h3] at l0 ⊢
    rw [R_go FF F168 c168.eq_1]
    simp only [RB,RL,un,St.none,za,zd,ze,zf,zb,zj,zk,zm,zn,zc,zg,zh,zi,↓reduceIte,reduceCtorEq,pack,pid,parN,lid,chkK,apartV,Heap.none,b1,b2,b3,b4,b5,h1',h2',h2'',l0,c0]
 ·rw [if_pos h1]
  have h1' : ¬ (rows.length : Int) = (vals.length : Int) := by omega
  rw [R_go FF F168 c168.eq_1]
  simp only [RB,RL,un,St.none,za,zd,ze,zf,zb,zj,zk,zm,zn,zc,zg,zh,zi,↓reduceIte,reduceCtorEq,pack,pid,parN,lid,chkK,apartV,Heap.none,b1,b2,b3,b4,b5,h1']
theorem right26_c {d : RD} {r : RR} (h : d.2.1.length ≤ 1000) : R FF 169 [.agg (eD d),.agg (eR r)] = some (AV.i .i64 (rtV d r)) := by
 obtain ⟨f,rows,vals⟩ := d
 obtain ⟨dep,lst⟩ := r
 have l0 := right26_l0 (f := f) (rows := rows) (es := vals.map eQ) (by simpa using h) rows.length 0 (by omega)
 rw [List.drop_zero,zI] at l0
 simp only [eD,eR,rtV]
 by_cases b : f < 0 ∨ 64 < f ∨ dep < 0 ∨ 7 < dep ∨ lst < 1
 ·rw [if_pos b]
  by_cases b1 : f < 0
  ·rw [R_go FF F169 c169.eq_1]
   simp only [RB,RL,un,St.none,za,zd,ze,zf,zb,zj,zk,zm,zn,zc,zg,zh,zi,↓reduceIte,reduceCtorEq,pack,pid,parN,lid,chkK,apartV,Heap.none,b1]
  by_cases b2 : 64 < f
  ·rw [R_go FF F169 c169.eq_1]
   simp only [RB,RL,un,St.none,za,zd,ze,zf,zb,zj,zk,zm,zn,zc,zg,zh,zi,↓reduceIte,reduceCtorEq,pack,pid,parN,lid,chkK,apartV,Heap.none,b1,b2]
  by_cases b3 : dep < 0
  ·rw [R_go FF F169 c169.eq_1]
   simp only [RB,RL,un,St.none,za,zd,ze,zf,zb,zj,zk,zm,zn,zc,zg,zh,zi,↓reduceIte,reduceCtorEq,pack,pid,parN,lid,chkK,apartV,Heap.none,b1,b2,b3]
  by_cases b4 : 7 < dep
  ·rw [R_go FF F169 c169.eq_1]
   simp only [RB,RL,un,St.none,za,zd,ze,zf,zb,zj,zk,zm,zn,zc,zg,zh,zi,↓reduceIte,reduceCtorEq,pack,pid,parN,lid,chkK,apartV,Heap.none,b1,b2,b3,b4]
  have b5 : lst < 1 := by omega
  rw [R_go FF F169 c169.eq_1]
  simp only [RB,RL,un,St.none,za,zd,ze,zf,zb,zj,zk,zm,zn,zc,zg,zh,zi,↓reduceIte,reduceCtorEq,pack,pid,parN,lid,chkK,apartV,Heap.none,b1,b2,b3,b4,b5]
 rw [if_neg b]
 have b1 : ¬ f < 0 := by omega
 have b2 : ¬ 64 < f := by omega
 have b3 : ¬ dep < 0 := by omega
 have b4 : ¬ 7 < dep := by omega
 have b5 : ¬ lst < 1 := by omega
 by_cases h1 : rows.length = vals.length
 ·have h1' : (rows.length : Int) = (vals.length : Int) := by omega
  rw [if_neg (by omega)]
  by_cases h2 : rows.length = 0
  ·rw [if_pos h2]
   have h2' : (rows.length : Int) = 0 := by omega
   have h2'' : (vals.length : Int) = 0 := by omega
   rw [R_go FF F169 c169.eq_1]
   simp only [RB,RL,un,St.none,za,zd,ze,zf,zb,zj,zk,zm,zn,zc,zg,zh,zi,↓reduceIte,reduceCtorEq,pack,pid,parN,lid,chkK,apartV,Heap.none,b1,b2,b3,b4,b5,h1',h2',h2'']
  ·rw [if_neg h2]
   have h2' : ¬ (rows.length : Int) = 0 := by omega
   have h2'' : ¬ (vals.length : Int) = 0 := by omega
   by_cases h3 : rows.any (badL f) = true
   ·rw [if_pos h3] at l0 ⊢
    rw [R_go FF F169 c169.eq_1]
    simp only [RB,RL,un,St.none,za,zd,ze,zf,zb,zj,zk,zm,zn,zc,zg,zh,zi,↓reduceIte,reduceCtorEq,pack,pid,parN,lid,chkK,apartV,Heap.none,b1,b2,b3,b4,b5,h1',h2',h2'',l0]
   ·rw [if_neg h3] at l0 ⊢
    rw [R_go FF F169 c169.eq_1]
    simp only [RB,RL,un,St.none,za,zd,ze,zf,zb,zj,zk,zm,zn,zc,zg,zh,zi,↓reduceIte,reduceCtorEq,pack,pid,parN,lid,chkK,apartV,Heap.none,b1,b2,b3,b4,b5,h1',h2',h2'',l0]
 ·rw [if_pos h1]
  have h1' : ¬ (rows.length : Int) = (vals.length : Int) := by omega
  rw [R_go FF F169 c169.eq_1]
  simp only [RB,RL,un,St.none,za,zd,ze,zf,zb,zj,zk,zm,zn,zc,zg,zh,zi,↓reduceIte,reduceCtorEq,pack,pid,parN,lid,chkK,apartV,Heap.none,b1,b2,b3,b4,b5,h1']
theorem LE_zero {k : Nat} : LE k = 0 ↔ k = 0 := by
 show (E k).length = 0 ↔ _
 rw [List.length_eq_zero_iff,E_nil]
theorem r3from_c {q : Bool} {l d : List Int} {k : Nat} (hk : k ≤ 100000000) (h : Sm l d k) : ∃ (n : Int) (m : Nat),R FF 216 [(AV.agg [AV.b q,(AV.l 1 (List.map u l)),(AV.l 1 (List.map u d))])] = some (AV.agg [AV.b (ng n),(AV.l 1 (List.map n64 (E (zM n)))),(AV.l 1 (List.map n64 (E m)))]) ∧ m ≠ 0 ∧ mkRat n m = qv q l d ∧ L n.natAbs ≤ max k 1 ∧ L m ≤ max k 1 := by
 have f1 := from_c h.2.1 (show d.length ≤ 1000000000000 by have := h.2.2; omega)
 have f2 := rfrom_c (q := q) h.1.1 (show l.length ≤ 1000000000000 by have := h.1.2; omega)
 have h5 : (E (W d)).length = LE (W d) := rfl
 by_cases h0 : W d = 0
 ·have g0 : (LE (W d) : Int) = 0 := by have := LE_zero.2 h0; omega
  have s1 := rsmall_c (x := 0) (by omega) (by omega)
  have s2 := small_c (x := 1) (n := 1) rfl (by omega)
  have s3 : R FF 242 [(AV.i .i64 0),(AV.i .i64 1)] = some (AV.agg [AV.b (ng 0),(AV.l 1 (List.map n64 (E (zM 0)))),(AV.l 1 (List.map n64 (E 1)))]) := by
   rw [R_go FF F242 c242.eq_1]
   simp only [RB,RL,un,St.none,za,zd,ze,zf,zb,zj,zk,zm,zn,zc,zg,zh,zi,↓reduceIte,reduceCtorEq,pack,pid,parN,lid,chkK,apartV,Heap.none,s1,s2]
  refine ⟨0,1,?_,by decide,?_,?_,?_⟩
  ·rw [R_go FF F216 c216.eq_1]
   simp only [RB,RL,un,St.none,za,zd,ze,zf,zb,zj,zk,zm,zn,zc,zg,zh,zi,↓reduceIte,reduceCtorEq,pack,pid,parN,lid,chkK,apartV,Heap.none,f1,f2,s3,h5,g0]
  ·unfold qv; rw [h0,Rat.mkRat_zero]; rfl
  ·exact zE (L_le (k := 0) (by decide)) (by omega)
  ·exact zE (L_le (k := 1) (by decide)) (by omega)
 ·have g0 : ¬ (LE (W d) : Int) = 0 := by have := LE_zero (k := W d); omega
  refine ⟨wv q l,W d,?_,h0,rfl,?_,?_⟩
  ·rw [R_go FF F216 c216.eq_1]
   simp only [RB,RL,un,St.none,za,zd,ze,zf,zb,zj,zk,zm,zn,zc,zg,zh,zi,↓reduceIte,reduceCtorEq,pack,pid,parN,lid,chkK,apartV,Heap.none,f1,f2,h5,g0]
  ·exact zE (wv_L q l) (by have := h.1.2; omega)
  ·exact zE (L_W d) (by have := h.2.2; omega)
theorem r3den_c {n : Int} {m : Nat} : R FF 257 [(AV.agg [AV.b (ng n),(AV.l 1 (List.map n64 (E (zM n)))),(AV.l 1 (List.map n64 (E m)))])] = some (AV.agg [AV.b (ng ((m : Int))),(AV.l 1 (List.map n64 (E (zM ((m : Int))))))]) := by
 have f1 := rmake_c false m
 rw [show sv false m = (m : Int) from rfl] at f1
 rw [R_go FF F257 c257.eq_1]
 simp only [RB,RL,un,St.none,za,zd,ze,zf,zb,zj,zk,zm,zn,zc,zg,zh,zi,↓reduceIte,reduceCtorEq,pack,pid,parN,lid,chkK,apartV,Heap.none,f1]
theorem r3order_c {n n' : Int} {m m' k : Nat} (hk : k ≤ 100000000) (h1 : L n.natAbs ≤ k) (h2 : L m ≤ k) (h3 : L n'.natAbs ≤ k) (h4 : L m' ≤ k) : R FF 241 [(AV.agg [AV.b (ng n),(AV.l 1 (List.map n64 (E (zM n)))),(AV.l 1 (List.map n64 (E m)))]),(AV.agg [AV.b (ng (n')),(AV.l 1 (List.map n64 (E (zM (n'))))),(AV.l 1 (List.map n64 (E (m'))))])] = some (AV.i .i64 (cmp (n * (m' : Int)) (n' * (m : Int)))) := by
 have d1 := r3den_c (n := n) (m := m)
 have d2 := r3den_c (n := n') (m := m')
 have e1 := LE_L n.natAbs
 have e2 := LE_L n'.natAbs
 have e3 := LE_L m
 have e4 := LE_L m'
 have t1 := rtimes_c (a := n) (b := (m' : Int)) (by rw [Int.natAbs_natCast]; omega)
 have t2 := rtimes_c (a := n') (b := (m : Int)) (by rw [Int.natAbs_natCast]; omega)
 have e5 := LE_mul n.natAbs m'
 have e6 := LE_mul n'.natAbs m
 have o1 := rord_c (a := n * (m' : Int)) (b := n' * (m : Int)) (by rw [Int.natAbs_mul,Int.natAbs_natCast]; omega) (by rw [Int.natAbs_mul,Int.natAbs_natCast]; omega)
 rw [R_go FF F241 c241.eq_1]
 simp only [RB,RL,un,St.none,za,zd,ze,zf,zb,zj,zk,zm,zn,zc,zg,zh,zi,↓reduceIte,reduceCtorEq,pack,pid,parN,lid,chkK,apartV,Heap.none,d1,d2,t1,t2,o1]
theorem r3right_c {x : Rat} (hx : sq x ≤ 100000000) : R FF 240 [(AV.agg [AV.b (ng (zV x)),(AV.l 1 (List.map u (D (zM (zV x))))),(AV.l 1 (List.map u (D (Rat.den x))))])] = some (.b true) := by
 have n1 := sq_num x
 have n2 := sq_den x
 have r1 := rright_c (D_U x.num.natAbs) (show L _ ≤ _ by omega)
 have r2 := rright_c (D_U x.den) (show L _ ≤ _ by omega)
 rw [W_D,decide_eq_true rfl] at r1 r2
 have f1 := from_D (n := x.num.natAbs) (by omega)
 have f2 := from_D (n := x.den) (by omega)
 have e1 := LE_L x.num.natAbs
 have e2 := LE_L x.den
 have g1 := rgcd_c (a := x.num.natAbs) (b := x.den) (by omega) (by omega)
 rw [x.reduced] at g1
 have s1 := small_c (x := 1) (n := 1) rfl (by omega)
 have o1 := rorder_c (m := 1) (n := 1) (zE (LE_u64 (n := 1) (by omega)) (by omega)) (zE (LE_u64 (n := 1) (by omega)) (by omega))
 rw [show cmp ((1 : Nat) : Int) ((1 : Nat) : Int) = 0 from rfl] at o1
 have h5 : (D x.den).length = L x.den := rfl
 have h6 : (D x.num.natAbs).length = L x.num.natAbs := rfl
 have h7 : ¬ (L x.den : Int) = 0 := by have := (L_pos (k := x.den)).2 (Nat.pos_of_ne_zero x.den_nz); omega
 by_cases h0 : x.num = 0
 ·have h8 : (L x.num.natAbs : Int) = 0 := by have := L_pos (k := x.num.natAbs); omega
  have h9 : ng x.num = false := ng_false.2 (by omega)
  rw [R_go FF F240 c240.eq_1]
  simp only [RB,RL,un,St.none,za,zd,ze,zf,zb,zj,zk,zm,zn,zc,zg,zh,zi,↓reduceIte,reduceCtorEq,pack,pid,parN,lid,chkK,apartV,Heap.none,r1,r2,f1,f2,g1,s1,o1,h5,h6,h7,h8,h9]
 ·have h8 : ¬ (L x.num.natAbs : Int) = 0 := by have := (L_pos (k := x.num.natAbs)).2 (by omega); omega
  rw [R_go FF F240 c240.eq_1]
  simp only [RB,RL,un,St.none,za,zd,ze,zf,zb,zj,zk,zm,zn,zc,zg,zh,zi,↓reduceIte,reduceCtorEq,pack,pid,parN,lid,chkK,apartV,Heap.none,r1,r2,f1,f2,g1,s1,o1,h5,h6,h7,h8]
theorem is3_c {x : Rat} {n : Int} {m k : Nat} (hk : k ≤ 100000000) (hx : sq x ≤ k) (h1 : L n.natAbs ≤ k) (h2 : L m ≤ k) (h0 : m ≠ 0) : R FF 215 [(AV.agg [AV.b (ng (zV x)),(AV.l 1 (List.map u (D (zM (zV x))))),(AV.l 1 (List.map u (D (Rat.den x))))]),(AV.agg [AV.b (ng n),(AV.l 1 (List.map n64 (E (zM n)))),(AV.l 1 (List.map n64 (E m)))])] = some (.b (decide (x = mkRat n m))) := by
 have r1 := r3right_c (x := x) (by omega)
 have n1 := sq_num x
 have n2 := sq_den x
 have f1 := rfrom_c (q := ng x.num) (D_U x.num.natAbs) (show L _ ≤ _ by omega)
 rw [wv_ci] at f1
 have f2 := from_D (n := x.den) (by omega)
 have h5 : (E x.den).length = LE x.den := rfl
 have g0 : ¬ (LE x.den : Int) = 0 := by have := LE_zero (k := x.den); have := x.den_nz; omega
 have f3 : R FF 216 [(AV.agg [AV.b (ng (zV x)),(AV.l 1 (List.map u (D (zM (zV x))))),(AV.l 1 (List.map u (D (Rat.den x))))])] = some (AV.agg [AV.b (ng x.num),(AV.l 1 (List.map n64 (E (zM x.num)))),(AV.l 1 (List.map n64 (E x.den)))]) := by
  rw [R_go FF F216 c216.eq_1]
  simp only [RB,RL,un,St.none,za,zd,ze,zf,zb,zj,zk,zm,zn,zc,zg,zh,zi,↓reduceIte,reduceCtorEq,pack,pid,parN,lid,chkK,apartV,Heap.none,f1,f2,h5,g0]
 have o1 := r3order_c (n := x.num) (m := x.den) (n' := n) (m' := m) hk (by omega) (by omega) h1 h2
 have e : decide (cmp (x.num * (m : Int)) (n * (x.den : Int)) = 0) = decide (x = mkRat n m) := decide_eq_decide.2 (by
  rw [cmp_eq_iff]
  conv => rhs; lhs; rw [← Rat.mkRat_self x]
  rw [Rat.mkRat_eq_iff x.den_nz h0])
 rw [R_go FF F215 c215.eq_1]
 simp only [RB,RL,un,St.none,za,zd,ze,zf,zb,zj,zk,zm,zn,zc,zg,zh,zi,↓reduceIte,reduceCtorEq,pack,pid,parN,lid,chkK,apartV,Heap.none,r1,f3,o1,e]
theorem is10_c {x : Rat} {q : Bool} {l d : List Int} {k : Nat} (hk : k ≤ 100000000) (h1k : 1 ≤ k) (hx : sq x ≤ k) (h : Sm l d k) : R FF 171 [(AV.agg [AV.b (ng (zV x)),(AV.l 1 (List.map u (D (zM (zV x))))),(AV.l 1 (List.map u (D (Rat.den x))))]),(AV.agg [AV.b q,(AV.l 1 (List.map u l)),(AV.l 1 (List.map u d))])] = some (.b (decide (x = qv q l d))) := by
 obtain ⟨n,m,f1,h0,f2,h1,h2⟩ := r3from_c (q := q) hk h
 rw [Nat.max_eq_left h1k] at h1 h2
 have g1 := is3_c hk hx h1 h2 h0
 rw [f2] at g1
 rw [R_go FF F171 c171.eq_1]
 simp only [RB,RL,un,St.none,za,zd,ze,zf,zb,zj,zk,zm,zn,zc,zg,zh,zi,↓reduceIte,reduceCtorEq,pack,pid,parN,lid,chkK,apartV,Heap.none,f1,g1]
def eX (i : Nat) : List AV := [.i .i64 (i : Int)]
theorem eX_rules : (∀ x,(eX x).length = 1) ∧ (∀ h x,(eX x).map (tellC h) = eX x) ∧ (∀ h x,(eX x).map (tell0 h) = eX x) ∧ (∀ h x,(eX x).flatMap (refC h) = []) ∧ (∀ x,(eX x).flatMap ref0 = []) ∧
  (∀ x,ldC false 1 0 (eX x) = some (.i .i64 (x : Int))) := by
 refine ⟨?_,?_,?_,?_,?_,?_⟩ <;> intros <;> rfl
theorem eX_row : type_of% (row_rules eX 0 1 (fun _ => rfl) (fun _ _ => rfl)) := row_rules eX 0 1 (fun _ => rfl) (fun _ _ => rfl)
def sR : List Rat → Rat
 | [] => 0
 | x :: l => x + sR l
def pR : List Rat → Rat
 | [] => 0
 | x :: l => x * x + pR l
theorem sR_snoc (l : List Rat) (x : Rat) : sR (l ++ [x]) = sR l + x := by
 induction l with
 | nil => show x + 0 = 0 + x; grind
 | cons y l ih => show y + sR (l ++ [x]) = y + sR l + x; rw [ih]; grind
theorem pR_snoc (l : List Rat) (x : Rat) : pR (l ++ [x]) = pR l + x * x := by
 induction l with
 | nil => show x * x + 0 = 0 + x * x; grind
 | cons y l ih => show y * y + pR (l ++ [x]) = y * y + pR l + x * x; rw [ih]; grind
def AllQ (l : List Rat) (k : Nat) : Prop := ∀ x ∈ l,sq x ≤ k
theorem sR_sq {k : Nat} : ∀ {l : List Rat},AllQ l k → sq (sR l) ≤ l.length * (k + 1) + 1
 | [],_ => zE sq_zero (by omega)
 | x :: l,h => by
  have h1 := sR_sq (l := l) (fun y hy => h y (zH _ hy))
  have h2 := sq_add x (sR l)
  have h3 := h x (zG ..)
  show sq (x + sR l) ≤ _
  rw [zF,zZ,Nat.one_mul]
  omega
theorem pR_sq {k : Nat} : ∀ {l : List Rat},AllQ l k → sq (pR l) ≤ l.length * (2 * k + 1) + 1
 | [],_ => zE sq_zero (by omega)
 | x :: l,h => by
  have h1 := pR_sq (l := l) (fun y hy => h y (zH _ hy))
  have h2 := sq_add (x * x) (pR l)
  have h3 := h x (zG ..)
  have h4 := sq_mul x x
  show sq (x * x + pR l) ≤ _
  rw [zF,zZ,Nat.one_mul]
  omega
def vsL (V : List RQt) (l : List Nat) : List Rat := l.map fun i => vQ (V.getD i dQ)
def InX (l : List Nat) (n : Nat) : Prop := ∀ i ∈ l,i < n
theorem vsL_all {V : List RQt} {l : List Nat} {k : Nat} (hV : SmL V k) (hk : 1 ≤ k) (hl : InX l V.length) : AllQ (vsL V l) k := fun x hx => by
 obtain ⟨i,hi,rfl⟩ := List.mem_map.1 hx
 exact Sm.sq (hV _ (getD_mem' dQ (hl i hi))) hk
theorem vsL_len (V : List RQt) (l : List Nat) : (vsL V l).length = l.length := zC ..
theorem vsL_snoc {V : List RQt} {l : List Nat} {i : Nat} (hi : i < l.length) : vsL V (l.take (i + 1)) = vsL V (l.take i) ++ [vQ (V.getD (l.getD i 0) dQ)] := by
 unfold vsL
 rw [List.take_add_one,zr hi,jb,zo (l := l),zr hi]
 rfl
theorem take_all {l : List Nat} {i n : Nat} (h : InX l n) : InX (l.take i) n := fun x hx => h x (List.mem_of_mem_take hx)
theorem qadd_v {s : Rat} {x : RQt} {k j : Nat} (hs : sq s ≤ k) (hx : SmQ x j) (hk : k ≤ 40000000000) (hj : j ≤ 40000000000) : R FF 31 [(AV.agg [AV.b (ng (zV s)),(AV.l 1 (List.map u (D (zM (zV s))))),(AV.l 1 (List.map u (D (Rat.den s))))]),(AV.agg [AV.b x.1,(AV.l 1 (List.map u x.2.1)),(AV.l 1 (List.map u x.2.2))])] = some (AV.agg [AV.b (ng (zV (s + vQ x))),(AV.l 1 (List.map u (D (zM (zV (s + vQ x)))))),(AV.l 1 (List.map u (D (Rat.den (s + vQ x)))))]) := by
 have h := qadd_s (q := ng s.num) (r := x.1) (sm_cq hs) hx hk hj
 rwa [qv_cq] at h
theorem qadd_cc {s t : Rat} {k j : Nat} (hs : sq s ≤ k) (ht : sq t ≤ j) (hk : k ≤ 40000000000) (hj : j ≤ 40000000000) : R FF 31 [(AV.agg [AV.b (ng (zV s)),(AV.l 1 (List.map u (D (zM (zV s))))),(AV.l 1 (List.map u (D (Rat.den s))))]),(AV.agg [AV.b (ng (zV t)),(AV.l 1 (List.map u (D (zM (zV t))))),(AV.l 1 (List.map u (D (Rat.den t))))])] = some (AV.agg [AV.b (ng (zV (s + t))),(AV.l 1 (List.map u (D (zM (zV (s + t)))))),(AV.l 1 (List.map u (D (Rat.den (s + t)))))]) := by
 have h := qadd_s (q := ng s.num) (r := ng t.num) (sm_cq hs) (sm_cq ht) hk hj
 rwa [qv_cq,qv_cq] at h
theorem qsub_cc {s t : Rat} {k j : Nat} (hs : sq s ≤ k) (ht : sq t ≤ j) (hk : k ≤ 40000000000) (hj : j ≤ 40000000000) : R FF 55 [(AV.agg [AV.b (ng (zV s)),(AV.l 1 (List.map u (D (zM (zV s))))),(AV.l 1 (List.map u (D (Rat.den s))))]),(AV.agg [AV.b (ng (zV t)),(AV.l 1 (List.map u (D (zM (zV t))))),(AV.l 1 (List.map u (D (Rat.den t))))])] = some (AV.agg [AV.b (ng (zV (s - t))),(AV.l 1 (List.map u (D (zM (zV (s - t)))))),(AV.l 1 (List.map u (D (Rat.den (s - t)))))]) := by
 have h := qsub_s (q := ng s.num) (r := ng t.num) (sm_cq hs) (sm_cq ht) hk hj
 rwa [qv_cq,qv_cq] at h
theorem qsub_vc {s : Rat} {x : RQt} {k j : Nat} (hs : sq s ≤ k) (hx : SmQ x j) (hk : k ≤ 40000000000) (hj : j ≤ 40000000000) : R FF 55 [(AV.agg [AV.b x.1,(AV.l 1 (List.map u x.2.1)),(AV.l 1 (List.map u x.2.2))]),(AV.agg [AV.b (ng (zV s)),(AV.l 1 (List.map u (D (zM (zV s))))),(AV.l 1 (List.map u (D (Rat.den s))))])] = some (AV.agg [AV.b (ng (zV (vQ x - s))),(AV.l 1 (List.map u (D (zM (zV (vQ x - s)))))),(AV.l 1 (List.map u (D (Rat.den (vQ x - s)))))]) := by
 have h := qsub_s (q := x.1) (r := ng s.num) hx (sm_cq hs) hj hk
 rwa [qv_cq] at h
theorem qmul_cc {s t : Rat} {k j : Nat} (hs : sq s ≤ k) (ht : sq t ≤ j) (hk : k ≤ 40000000000) (hj : j ≤ 40000000000) : R FF 94 [(AV.agg [AV.b (ng (zV s)),(AV.l 1 (List.map u (D (zM (zV s))))),(AV.l 1 (List.map u (D (Rat.den s))))]),(AV.agg [AV.b (ng (zV t)),(AV.l 1 (List.map u (D (zM (zV t))))),(AV.l 1 (List.map u (D (Rat.den t))))])] = some (AV.agg [AV.b (ng (zV (s * t))),(AV.l 1 (List.map u (D (zM (zV (s * t)))))),(AV.l 1 (List.map u (D (Rat.den (s * t)))))]) := by
 have h := qmul_s (q := ng s.num) (r := ng t.num) (sm_cq hs) (sm_cq ht) hk hj
 rwa [qv_cq,qv_cq] at h
theorem qmul_vv {x y : RQt} {k j : Nat} (hx : SmQ x k) (hy : SmQ y j) (hk : k ≤ 40000000000) (hj : j ≤ 40000000000) : R FF 94 [(AV.agg [AV.b x.1,(AV.l 1 (List.map u x.2.1)),(AV.l 1 (List.map u x.2.2))]),(AV.agg [AV.b y.1,(AV.l 1 (List.map u y.2.1)),(AV.l 1 (List.map u y.2.2))])] = some (AV.agg [AV.b (ng (zV (vQ x * vQ y))),(AV.l 1 (List.map u (D (zM (zV (vQ x * vQ y)))))),(AV.l 1 (List.map u (D (Rat.den (vQ x * vQ y)))))]) := qmul_s hx hy hk hj
theorem len_mul {a b c n : Nat} (h : n ≤ a) (hb : b ≤ c) : n * b ≤ a * c := Nat.mul_le_mul h hb
theorem gof_l0 {f : Int} {rows : List (List AV)} {V : List RQt} {l : List Nat} {k : Nat} (hk : k ≤ 1000000) (h1k : 1 ≤ k) (hV : SmL V k) (hVl : V.length ≤ 1000) (hl : InX l V.length) (hn : l.length ≤ 1000) : ∀ (d i : Nat),i + d = l.length →
  LP FF [(4,1),(5,1),(2,0),(11,0),(12,0),(13,0)] [(4,1),(5,0)] b217_0 [.ownp [(AV.i .i64 0),.b false,.l 1 [],.l 1 [],.b false,.l 1 [],.l 1 []],
   .ownp [(AV.i .i64 ((i : Int))),.b (ng (sR (vsL V (l.take i))).num),(AV.l 1 (List.map u (D (sR (vsL V (l.take i))).num.natAbs))),(AV.l 1 (List.map u (D (sR (vsL V (l.take i))).den))),.b (ng (pR (vsL V (l.take i))).num),(AV.l 1 (List.map u (D (pR (vsL V (l.take i))).num.natAbs))),(AV.l 1 (List.map u (D (pR (vsL V (l.take i))).den)))],
   .tp [(AV.i .i64 f),.l 1 rows,.l 3 (V.map eQ)] 0,.l 1 (l.map eX),(AV.i .i64 ((l.length : Int))),(AV.i .i64 ((i : Int)))] =
   some (.exit 0,[.ownp [(AV.i .i64 0),.b false,.l 1 [],.l 1 [],.b false,.l 1 [],.l 1 []],
    .tp [(AV.i .i64 ((l.length : Int))),.b (ng (sR (vsL V l)).num),(AV.l 1 (List.map u (D (sR (vsL V l)).num.natAbs))),(AV.l 1 (List.map u (D (sR (vsL V l)).den))),.b (ng (pR (vsL V l)).num),(AV.l 1 (List.map u (D (pR (vsL V l)).num.natAbs))),(AV.l 1 (List.map u (D (pR (vsL V l)).den)))] 0]) := by
 intro d
 induction d with
 | zero =>
  intro i hi
  have hi' : i = l.length := by omega
  rw [hi',zp (zz _)]
  have c1 : ¬ (l.length : Int) < (l.length : Int) := by omega
  rw [LP_go FF b217_0.eq_1]
  simp only [RB,RL,un,St.none,za,zd,ze,zf,zb,zj,zk,zm,zn,zc,zg,zh,zi,↓reduceIte,reduceCtorEq,pack,pid,parN,lid,chkK,apartV,Heap.none,c1]
 | succ d ih =>
  intro i hi
  have hlt : i < l.length := by omega
  have h9 := ih (i + 1) (by omega)
  have hx : l.getD i 0 < V.length := hl _ (getD_mem' 0 hlt)
  rw [vsL_snoc hlt,sR_snoc,pR_snoc] at h9
  have a1 := vsL_all hV h1k (take_all (i := i) hl)
  have s1 := sR_sq a1
  have s2 := pR_sq a1
  rw [vsL_len] at s1 s2
  have hti : (l.take i).length ≤ 1000 := zE (List.length_take_le _ _) (by omega)
  have s3 := len_mul hti (show k + 1 ≤ 1000001 by omega)
  have s4 := len_mul hti (show 2 * k + 1 ≤ 2000001 by omega)
  have hxk := hV _ (getD_mem' dQ hx)
  have v1 : sq (vQ (V.getD (l.getD i 0) dQ)) ≤ k := Sm.sq hxk h1k
  have v2 := sq_mul (vQ (V.getD (l.getD i 0) dQ)) (vQ (V.getD (l.getD i 0) dQ))
  have f1 := qadd_v (s := sR (vsL V (l.take i))) (x := V.getD (l.getD i 0) dQ) (k := 1000001001) (j := k) (by omega) hxk (by omega) (by omega)
  have f2 := qmul_vv (x := V.getD (l.getD i 0) dQ) (y := V.getD (l.getD i 0) dQ) hxk hxk (by omega) (by omega)
  have f3 := qadd_cc (s := pR (vsL V (l.take i))) (t := vQ (V.getD (l.getD i 0) dQ) * vQ (V.getD (l.getD i 0) dQ)) (k := 2000001001) (j := 2000000) (by omega) (by omega) (by omega) (by omega)
  generalize pR (vsL V (l.take i)) = p at *
  generalize sR (vsL V (l.take i)) = s at *
  have c1 : (i : Int) < (l.length : Int) := by omega
  have c2 : ((l.getD i 0 : Nat) : Int) < (V.length : Int) := by omega
  have e2 : IntKind.i64.wrap ((i : Int) + 1) = ((i + 1 : Nat) : Int) := w64succ (by omega)
  generalize vQ (V.getD (l.getD i 0) dQ) = y at *
  rw [LP_go FF b217_0.eq_1]
  simp only [RB,RL,un,St.none,za,zd,ze,zf,zb,zj,zk,zm,zn,zc,zg,zh,zi,↓reduceIte,reduceCtorEq,pack,pid,parN,lid,chkK,apartV,Heap.none,c1,c2,eX_rules,eX_row,eQ_rules,eQ_row,zq,f1,f2,f3,e2,n64]
  exact h9
theorem gof_c {f : Int} {rows : List (List AV)} {V : List RQt} {l : List Nat} {k : Nat} (hk : k ≤ 1000000) (h1k : 1 ≤ k) (hV : SmL V k) (hVl : V.length ≤ 1000) (hl : InX l V.length) (hn : l.length ≤ 1000) :
  R FF 217 [.agg [(AV.i .i64 f),.l 1 rows,.l 3 (V.map eQ)],.l 1 (l.map eX)] = some (.agg [(AV.i .i64 ((l.length : Int))),.b (ng (sR (vsL V l)).num),(AV.l 1 (List.map u (D (sR (vsL V l)).num.natAbs))),(AV.l 1 (List.map u (D (sR (vsL V l)).den))),.b (ng (pR (vsL V l)).num),(AV.l 1 (List.map u (D (pR (vsL V l)).num.natAbs))),(AV.l 1 (List.map u (D (pR (vsL V l)).den)))]) := by
 have z1 := qzero_c
 have l0 := gof_l0 (f := f) (rows := rows) hk h1k hV hVl hl hn l.length 0 (by omega)
 rw [jk,show sR (vsL V []) = 0 from rfl,show pR (vsL V []) = 0 from rfl,zI] at l0
 rw [R_go FF F217 c217.eq_1]
 simp only [RB,RL,un,St.none,za,zd,ze,zf,zb,zj,zk,zm,zn,zc,zg,zh,zi,↓reduceIte,reduceCtorEq,pack,pid,parN,lid,chkK,apartV,Heap.none,z1,l0,n64,eX_rules,eX_row]
theorem qfrac0 : R FF 95 [(AV.i .i64 1),(AV.i .i64 0)] = some (AV.agg [AV.b (ng (zV ((0 : Rat)))),(AV.l 1 (List.map u (D (zM (zV ((0 : Rat))))))),(AV.l 1 (List.map u (D (Rat.den ((0 : Rat))))))]) := (R_some FF).2 ⟨40,by kernel_rfl⟩
def ivn (n : Nat) : Rat := ((n : Int) : Rat)⁻¹
theorem qfracn_c {n : Nat} (hn : n < 1000000) : R FF 95 [(AV.i .i64 1),(AV.i .i64 ((n : Int)))] = some (AV.agg [AV.b (ng (zV ((ivn n)))),(AV.l 1 (List.map u (D (zM (zV ((ivn n))))))),(AV.l 1 (List.map u (D (Rat.den ((ivn n))))))]) := by
 cases n with
 | zero =>
  have e : ivn 0 = 0 := by unfold ivn; rw [show (((0 : Nat) : Int) : Rat) = 0 from rfl,Rat.inv_zero]
  rw [e]; exact qfrac0
 | succ n => exact qfrac_c (by omega)
theorem ivn_sq {n : Nat} (hn : n < 1000000) : sq (ivn n) ≤ 2 := by
 have h1 := sq_inv ((n : Int) : Rat)
 have h2 := sq_int (n : Int) (by omega)
 unfold ivn
 omega
def mnV (X : List Rat) : Rat := sR X * ivn X.length
def lsV (X : List Rat) : Rat := pR X - sR X * sR X * ivn X.length
def dR (m : Rat) : List Rat → Rat
 | [] => 0
 | x :: l => (x - m) * (x - m) + dR m l
theorem dR_snoc (m : Rat) (l : List Rat) (x : Rat) : dR m (l ++ [x]) = dR m l + (x - m) * (x - m) := by
 induction l with
 | nil => show (x - m) * (x - m) + 0 = 0 + (x - m) * (x - m); grind
 | cons y l ih => show (y - m) * (y - m) + dR m (l ++ [x]) = (y - m) * (y - m) + dR m l + (x - m) * (x - m); rw [ih]; grind
theorem dR_eq (m : Rat) (l : List Rat) : dR m l = pR l - 2 * m * sR l + ((l.length : Int) : Rat) * (m * m) := by
 induction l with
 | nil => show (0 : Rat) = 0 - 2 * m * 0 + (((0 : Nat) : Int) : Rat) * (m * m); rw [show (((0 : Nat) : Int) : Rat) = 0 from rfl]; grind
 | cons y l ih =>
  show (y - m) * (y - m) + dR m l = y * y + pR l - 2 * m * (y + sR l) + (((l.length + 1 : Nat) : Int) : Rat) * (m * m)
  rw [ih,show (((l.length + 1 : Nat) : Int) : Rat) = ((l.length : Int) : Rat) + 1 by rw [Int.natCast_add,Rat.intCast_add]; rfl]
  grind
theorem dR_loss (l : List Rat) : dR (mnV l) l = lsV l := by
 rw [dR_eq]
 unfold mnV lsV ivn
 by_cases h : l.length = 0
 ·have : l = [] := List.length_eq_zero_iff.1 h
  subst this
  show (0 : Rat) - 2 * (0 * _) * 0 + _ * ((0 * _) * (0 * _)) = 0 - 0 * 0 * _
  grind
 ·have h1 : ((l.length : Int) : Rat) ≠ 0 := fun h0 => h (by have := Rat.intCast_inj.1 (show ((l.length : Int) : Rat) = ((0 : Int) : Rat) from h0); omega)
  have h2 := Rat.mul_inv_cancel _ h1
  generalize ((l.length : Int) : Rat)⁻¹ = i at *
  generalize ((l.length : Int) : Rat) = n at *
  grind
theorem mnV_sq {X : List Rat} {k : Nat} (h : AllQ X k) (hn : X.length < 1000000) : sq (mnV X) ≤ X.length * (k + 1) + 3 := by
 have h1 := sR_sq h
 have h2 := ivn_sq hn
 have h3 := sq_mul (sR X) (ivn X.length)
 unfold mnV
 omega
theorem lsV_sq {X : List Rat} {k : Nat} (h : AllQ X k) (hn : X.length < 1000000) : sq (lsV X) ≤ X.length * (2 * k + 1) + 2 * (X.length * (k + 1)) + 6 := by
 have h1 := sR_sq h
 have h2 := ivn_sq hn
 have h3 := sq_mul (sR X) (sR X)
 have h4 := sq_mul (sR X * sR X) (ivn X.length)
 have h5 := pR_sq h
 have h6 := sq_sub (pR X) (sR X * sR X * ivn X.length)
 unfold lsV
 omega
theorem sloss_c {X : List Rat} {k : Nat} (hk : k ≤ 1000000) (h : AllQ X k) (hn : X.length ≤ 1000) :
  R FF 218 [.agg [(AV.i .i64 ((X.length : Int))),.b (ng (sR X).num),(AV.l 1 (List.map u (D (sR X).num.natAbs))),(AV.l 1 (List.map u (D (sR X).den))),.b (ng (pR X).num),(AV.l 1 (List.map u (D (pR X).num.natAbs))),(AV.l 1 (List.map u (D (pR X).den)))]] = some (AV.agg [AV.b (ng (zV (lsV X))),(AV.l 1 (List.map u (D (zM (zV (lsV X)))))),(AV.l 1 (List.map u (D (Rat.den (lsV X)))))]) := by
 have s1 := sR_sq h
 have s2 := pR_sq h
 have s3 := len_mul hn (show k + 1 ≤ 1000001 by omega)
 have s4 := len_mul hn (show 2 * k + 1 ≤ 2000001 by omega)
 have s5 := sq_mul (sR X) (sR X)
 have s6 := ivn_sq (n := X.length) (by omega)
 have s7 := sq_mul (sR X * sR X) (ivn X.length)
 have f1 := qmul_cc (s := sR X) (t := sR X) (k := 1000001001) (j := 1000001001) (by omega) (by omega) (by omega) (by omega)
 have f2 := qfracn_c (n := X.length) (by omega)
 have f3 := qmul_cc (s := sR X * sR X) (t := ivn X.length) (k := 2000002002) (j := 2) (by omega) (by omega) (by omega) (by omega)
 have f4 := qsub_cc (s := pR X) (t := sR X * sR X * ivn X.length) (k := 2000001001) (j := 2000002004) (by omega) (by omega) (by omega) (by omega)
 have z1 := qzero_c
 by_cases h0 : X.length = 0
 ·have : X = [] := List.length_eq_zero_iff.1 h0
  subst this
  have e : lsV [] = 0 := by show (0 : Rat) - 0 * 0 * _ = 0; grind
  rw [e]
  show R FF 218 [.agg [(AV.i .i64 0),.b (ng (sR []).num),(AV.l 1 (List.map u (D (sR []).num.natAbs))),(AV.l 1 (List.map u (D (sR []).den))),.b (ng (pR []).num),(AV.l 1 (List.map u (D (pR []).num.natAbs))),(AV.l 1 (List.map u (D (pR []).den)))]] = _
  rw [R_go FF F218 c218.eq_1]
  simp only [RB,RL,un,St.none,za,zd,ze,zf,zb,zj,zk,zm,zn,zc,zg,zh,zi,↓reduceIte,reduceCtorEq,pack,pid,parN,lid,chkK,apartV,Heap.none,z1,n64]
 ·have h0' : ¬ (X.length : Int) = 0 := by omega
  unfold lsV
  generalize pR X = p at *
  generalize sR X = s at *
  generalize s * s * ivn X.length = y at *
  generalize s * s = x at *
  rw [R_go FF F218 c218.eq_1]
  simp only [RB,RL,un,St.none,za,zd,ze,zf,zb,zj,zk,zm,zn,zc,zg,zh,zi,↓reduceIte,reduceCtorEq,pack,pid,parN,lid,chkK,apartV,Heap.none,f1,f2,f3,f4,h0',n64]
theorem mean26_l0 {f : Int} {rows : List (List AV)} {V : List RQt} {l : List Nat} {k : Nat} (hk : k ≤ 1000000) (h1k : 1 ≤ k) (hV : SmL V k) (hVl : V.length ≤ 1000) (hl : InX l V.length) (hn : l.length ≤ 1000) : ∀ (d i : Nat),i + d = l.length →
  LP FF [(4,1),(5,1),(1,0),(2,0),(6,0)] [(4,1),(1,0),(5,0)] b219_0 [.ownp [.b false,.l 1 [],.l 1 []],.ownp [.b (ng (sR (vsL V (l.take i))).num),(AV.l 1 (List.map u (D (sR (vsL V (l.take i))).num.natAbs))),(AV.l 1 (List.map u (D (sR (vsL V (l.take i))).den)))],.l 1 (l.map eX),.tp [(AV.i .i64 f),.l 1 rows,.l 3 (V.map eQ)] 0,(AV.i .i64 ((i : Int)))] =
   some (.exit 0,[.ownp [.b false,.l 1 [],.l 1 []],.l 1 (l.map eX),.tp [.b (ng (sR (vsL V l)).num),(AV.l 1 (List.map u (D (sR (vsL V l)).num.natAbs))),(AV.l 1 (List.map u (D (sR (vsL V l)).den)))] 0]) := by
 intro d
 induction d with
 | zero =>
  intro i hi
  have hi' : i = l.length := by omega
  rw [hi',zp (zz _)]
  have c1 : ¬ (l.length : Int) < (l.length : Int) := by omega
  rw [LP_go FF b219_0.eq_1]
  simp only [RB,RL,un,St.none,za,zd,ze,zf,zb,zj,zk,zm,zn,zc,zg,zh,zi,↓reduceIte,reduceCtorEq,pack,pid,parN,lid,chkK,apartV,Heap.none,c1,eX_rules,eX_row]
 | succ d ih =>
  intro i hi
  have hlt : i < l.length := by omega
  have h9 := ih (i + 1) (by omega)
  have hx : l.getD i 0 < V.length := hl _ (getD_mem' 0 hlt)
  rw [vsL_snoc hlt,sR_snoc] at h9
  have a1 := vsL_all hV h1k (take_all (i := i) hl)
  have s1 := sR_sq a1
  rw [vsL_len] at s1
  have hti : (l.take i).length ≤ 1000 := zE (List.length_take_le _ _) (by omega)
  have s3 := len_mul hti (show k + 1 ≤ 1000001 by omega)
  have hxk := hV _ (getD_mem' dQ hx)
  have f1 := qadd_v (s := sR (vsL V (l.take i))) (x := V.getD (l.getD i 0) dQ) (k := 1000001001) (j := k) (by omega) hxk (by omega) (by omega)
  generalize sR (vsL V (l.take i)) = s at *
  have c1 : (i : Int) < (l.length : Int) := by omega
  have c2 : ((l.getD i 0 : Nat) : Int) < (V.length : Int) := by omega
  have e2 : IntKind.i64.wrap ((i : Int) + 1) = ((i + 1 : Nat) : Int) := w64succ (by omega)
  generalize vQ (V.getD (l.getD i 0) dQ) = y at *
  rw [LP_go FF b219_0.eq_1]
  simp only [RB,RL,un,St.none,za,zd,ze,zf,zb,zj,zk,zm,zn,zc,zg,zh,zi,↓reduceIte,reduceCtorEq,pack,pid,parN,lid,chkK,apartV,Heap.none,c1,c2,eX_rules,eX_row,eQ_rules,eQ_row,zq,f1,e2,n64]
  exact h9
theorem mean26_c {f : Int} {rows : List (List AV)} {V : List RQt} {l : List Nat} {k : Nat} (hk : k ≤ 1000000) (h1k : 1 ≤ k) (hV : SmL V k) (hVl : V.length ≤ 1000) (hl : InX l V.length) (hn : l.length ≤ 1000) :
  R FF 219 [.agg [(AV.i .i64 f),.l 1 rows,.l 3 (V.map eQ)],.l 1 (l.map eX)] = some (AV.agg [AV.b (ng (zV (mnV (vsL V l)))),(AV.l 1 (List.map u (D (zM (zV (mnV (vsL V l))))))),(AV.l 1 (List.map u (D (Rat.den (mnV (vsL V l))))))]) := by
 have z1 := qzero_c
 have l0 := mean26_l0 (f := f) (rows := rows) hk h1k hV hVl hl hn l.length 0 (by omega)
 rw [jk,show sR (vsL V []) = 0 from rfl,zI] at l0
 have s1 := sR_sq (vsL_all hV h1k hl)
 rw [vsL_len] at s1
 have s3 := len_mul hn (show k + 1 ≤ 1000001 by omega)
 have s6 := ivn_sq (n := l.length) (by omega)
 have f2 := qfracn_c (n := l.length) (by omega)
 have f3 := qmul_cc (s := sR (vsL V l)) (t := ivn l.length) (k := 1000001001) (j := 2) (by omega) (by omega) (by omega) (by omega)
 have e : mnV (vsL V l) = sR (vsL V l) * ivn l.length := by unfold mnV; rw [vsL_len]
 rw [e]
 generalize sR (vsL V l) = s at *
 generalize s * ivn l.length = x at *
 rw [R_go FF F219 c219.eq_1]
 simp only [RB,RL,un,St.none,za,zd,ze,zf,zb,zj,zk,zm,zn,zc,zg,zh,zi,↓reduceIte,reduceCtorEq,pack,pid,parN,lid,chkK,apartV,Heap.none,z1,l0,n64,eX_rules,eX_row,f2,f3]
theorem dR_sq {m : Rat} {k j : Nat} (hm : sq m ≤ j) : ∀ {l : List Rat},AllQ l k → sq (dR m l) ≤ l.length * (2 * (k + j + 1) + 1) + 1
 | [],_ => zE sq_zero (by omega)
 | x :: l,h => by
  have h1 := dR_sq hm (l := l) (fun y hy => h y (zH _ hy))
  have h2 := sq_add ((x - m) * (x - m)) (dR m l)
  have h3 := h x (zG ..)
  have h4 := sq_mul (x - m) (x - m)
  have h5 := sq_sub x m
  show sq ((x - m) * (x - m) + dR m l) ≤ _
  rw [zF,zZ,Nat.one_mul]
  omega
theorem loss26_l0 {f : Int} {rows : List (List AV)} {V : List RQt} {l : List Nat} {k : Nat} {m : Rat} (hk : k ≤ 1000) (hm : sq m ≤ 2000000) (h1k : 1 ≤ k) (hV : SmL V k) (hVl : V.length ≤ 1000) (hl : InX l V.length) (hn : l.length ≤ 1000) : ∀ (d i : Nat),i + d = l.length →
  LP FF [(4,1),(6,1),(1,0),(2,0),(5,0),(7,0)] [(4,1),(6,0)] b173_0 [.ownp [.b false,.l 1 [],.l 1 []],.ownp [.b (ng (dR m (vsL V (l.take i))).num),(AV.l 1 (List.map u (D (dR m (vsL V (l.take i))).num.natAbs))),(AV.l 1 (List.map u (D (dR m (vsL V (l.take i))).den)))],.l 1 (l.map eX),.tp [(AV.i .i64 f),.l 1 rows,.l 3 (V.map eQ)] 0,.tp [.b (ng m.num),(AV.l 1 (List.map u (D m.num.natAbs))),(AV.l 1 (List.map u (D m.den)))] 0,(AV.i .i64 ((i : Int)))] =
   some (.exit 0,[.ownp [.b false,.l 1 [],.l 1 []],.tp [.b (ng (dR m (vsL V l)).num),(AV.l 1 (List.map u (D (dR m (vsL V l)).num.natAbs))),(AV.l 1 (List.map u (D (dR m (vsL V l)).den)))] 0]) := by
 intro d
 induction d with
 | zero =>
  intro i hi
  have hi' : i = l.length := by omega
  rw [hi',zp (zz _)]
  have c1 : ¬ (l.length : Int) < (l.length : Int) := by omega
  rw [LP_go FF b173_0.eq_1]
  simp only [RB,RL,un,St.none,za,zd,ze,zf,zb,zj,zk,zm,zn,zc,zg,zh,zi,↓reduceIte,reduceCtorEq,pack,pid,parN,lid,chkK,apartV,Heap.none,c1,eX_rules,eX_row]
 | succ d ih =>
  intro i hi
  have hlt : i < l.length := by omega
  have h9 := ih (i + 1) (by omega)
  have hx : l.getD i 0 < V.length := hl _ (getD_mem' 0 hlt)
  rw [vsL_snoc hlt,dR_snoc] at h9
  have a1 := vsL_all hV h1k (take_all (i := i) hl)
  have s1 := dR_sq hm a1
  rw [vsL_len] at s1
  have hti : (l.take i).length ≤ 1000 := zE (List.length_take_le _ _) (by omega)
  have s3 := len_mul hti (show 2 * (k + 2000000 + 1) + 1 ≤ 4002003 by omega)
  have hxk := hV _ (getD_mem' dQ hx)
  have v1 : sq (vQ (V.getD (l.getD i 0) dQ)) ≤ k := Sm.sq hxk h1k
  have v2 := sq_sub (vQ (V.getD (l.getD i 0) dQ)) m
  have v3 := sq_mul (vQ (V.getD (l.getD i 0) dQ) - m) (vQ (V.getD (l.getD i 0) dQ) - m)
  have f1 := qsub_vc (s := m) (x := V.getD (l.getD i 0) dQ) (k := 2000000) (j := k) (by omega) hxk (by omega) (by omega)
  have f2 := qmul_cc (s := vQ (V.getD (l.getD i 0) dQ) - m) (t := vQ (V.getD (l.getD i 0) dQ) - m) (k := 2001001) (j := 2001001) (by omega) (by omega) (by omega) (by omega)
  have f3 := qadd_cc (s := dR m (vsL V (l.take i))) (t := (vQ (V.getD (l.getD i 0) dQ) - m) * (vQ (V.getD (l.getD i 0) dQ) - m)) (k := 4002003001) (j := 4002002) (by omega) (by omega) (by omega) (by omega)
  generalize dR m (vsL V (l.take i)) = s at *
  have c1 : (i : Int) < (l.length : Int) := by omega
  have c2 : ((l.getD i 0 : Nat) : Int) < (V.length : Int) := by omega
  have e2 : IntKind.i64.wrap ((i : Int) + 1) = ((i + 1 : Nat) : Int) := w64succ (by omega)
  generalize vQ (V.getD (l.getD i 0) dQ) - m = y at *
  generalize y * y = z at *
  generalize s + z = w at *
  rw [LP_go FF b173_0.eq_1]
  simp only [RB,RL,un,St.none,za,zd,ze,zf,zb,zj,zk,zm,zn,zc,zg,zh,zi,↓reduceIte,reduceCtorEq,pack,pid,parN,lid,chkK,apartV,Heap.none,c1,c2,eX_rules,eX_row,eQ_rules,eQ_row,zq,f1,f2,f3,e2,n64]
  exact h9
theorem loss26_c {f : Int} {rows : List (List AV)} {V : List RQt} {l : List Nat} {k : Nat} (hk : k ≤ 1000) (h1k : 1 ≤ k) (hV : SmL V k) (hVl : V.length ≤ 1000) (hl : InX l V.length) (hn : l.length ≤ 1000) :
  R FF 173 [.agg [(AV.i .i64 f),.l 1 rows,.l 3 (V.map eQ)],.l 1 (l.map eX)] = some (AV.agg [AV.b (ng (zV (lsV (vsL V l)))),(AV.l 1 (List.map u (D (zM (zV (lsV (vsL V l))))))),(AV.l 1 (List.map u (D (Rat.den (lsV (vsL V l))))))]) := by
 have z1 := qzero_c
 have f1 := mean26_c (f := f) (rows := rows) (k := k) (by omega) h1k hV hVl hl hn
 have a1 := vsL_all hV h1k hl
 have m1 := mnV_sq a1 (by rw [vsL_len]; omega)
 rw [vsL_len] at m1
 have s3 := len_mul hn (show k + 1 ≤ 1001 by omega)
 have l0 := loss26_l0 (f := f) (rows := rows) (m := mnV (vsL V l)) hk (by omega) h1k hV hVl hl hn l.length 0 (by omega)
 rw [jk,show dR (mnV (vsL V l)) (vsL V []) = 0 from rfl,zI,dR_loss] at l0
 generalize mnV (vsL V l) = m at *
 generalize lsV (vsL V l) = x at *
 rw [R_go FF F173 c173.eq_1]
 simp only [RB,RL,un,St.none,za,zd,ze,zf,zb,zj,zk,zm,zn,zc,zg,zh,zi,↓reduceIte,reduceCtorEq,pack,pid,parN,lid,chkK,apartV,Heap.none,z1,f1,l0,n64,eX_rules,eX_row]
theorem range_X (i : Nat) : (zT i).map eX ++ [n64 ((i : Nat) : Int)] = (zT (i + 1)).map eX := by rw [List.range_succ,jb]; rfl
def runV (ov : Nat → List AV → Option AV) (F : Nat → Option PF) : Nat → Nat → List AV → Option AV
 | 0,_,_ => none
 | k + 1,f,xs => match ov f xs with
  | some v => some v
  | none => (F f).bind fun p => (p.body.ev (runV ov F k) (loopF (runV ov F k) k) (un (parN p.lent 0 xs) xs)).bind (finE p)
theorem loopF_R (F : Nat → Option PF) : ∀ k,LeL (loopF (R F) k) (LP F) := by
 intro k
 induction k with
 | zero => intro l o x vs y e; cases e
 | succ k ih =>
  intro l o x vs
  rw [LP_eq]
  exact Le.bind (PC.mono (fun _ _ => Le.refl _) ih x _) fun p => round_mono (ih l o x) p
theorem runV_ok {ov : Nat → List AV → Option AV} {F : Nat → Option PF} (h : LeC ov (R F)) : ∀ k,LeC (runV ov F k) (R F) := by
 intro k
 induction k with
 | zero => intro f xs y e; cases e
 | succ k ih =>
  intro f xs y e
  rw [runV] at e
  cases h9 : ov f xs with
  | some v => rw [h9] at e; exact h f xs y (h9.trans e)
  | none =>
   rw [h9] at e
   rw [R_eq]
   refine Le.bind (Le.refl _) (fun p => Le.bind ?_ fun q => Le.refl _) y e
   exact PC.mono ih (fun l o x vs => Le.trans (loopF_call ih k l o x vs) (loopF_R F k l o x vs)) _ _
def dgf : Nat → Nat → List Int
 | 0,_ => []
 | k + 1,n => if n = 0 then [] else ((n % 4294967296 : Nat) : Int) :: dgf k (n / 4294967296)
theorem dgf_D : ∀ k n,n < 4294967296 ^ k → dgf k n = D n := by
 intro k
 induction k with
 | zero =>
  intro n h
  have : n = 0 := by rw [Nat.pow_zero] at h; omega
  subst this
  exact (Dg.dg_zero _).symm
 | succ k ih =>
  intro n h
  unfold dgf
  by_cases h0 : n = 0
  ·rw [if_pos h0,h0]; exact (Dg.dg_zero _).symm
  ·rw [if_neg h0]
   show _ = Dg.dg 4294967296 n
   rw [Dg.dg_succ (by decide) h0,ih (n / 4294967296) (by rw [Nat.div_lt_iff_lt_mul (by decide),← Nat.pow_succ]; exact h)]
   rfl
def encQ (x : Rat) : Option AV :=
 if x.num.natAbs < 4294967296 ^ 20 ∧ x.den < 4294967296 ^ 20 then some (.agg [.b (decide (x.num < 0)),.l 1 ((dgf 20 x.num.natAbs).map u),.l 1 ((dgf 20 x.den).map u)]) else none
theorem encQ_ok {x : Rat} {v : AV} (h : encQ x = some v) : v = (AV.agg [AV.b (ng (zV x)),(AV.l 1 (List.map u (D (zM (zV x))))),(AV.l 1 (List.map u (D (Rat.den x))))]) := by
 unfold encQ at h
 split at h
 ·rename_i h1
  rw [dgf_D _ _ h1.1,dgf_D _ _ h1.2] at h
  exact (Option.some.inj h).symm
 ·cases h
def decW : List (List AV) → Option (List Int)
 | [] => some []
 | [.i .u64 n] :: l => if 0 ≤ n ∧ n ≤ 18446744073709551615 then (decW l).map (n :: ·) else none
 | _ => none
theorem decW_ok : ∀ {es : List (List AV)} {l : List Int},decW es = some l → es = l.map u ∧ U l := by
 intro es
 induction es with
 | nil => intro l h; cases h; exact ⟨rfl,fun _ h => (zY h).elim⟩
 | cons e es ih =>
  intro l h
  unfold decW at h
  split at h
  ·rename_i h'; cases h'
  ·rename_i n l' heq
   cases heq
   split at h
   ·rename_i hn
    obtain ⟨l2,h2,rfl⟩ := Option.map_eq_some_iff.1 h
    obtain ⟨g1,g2⟩ := ih h2
    exact ⟨by rw [g1]; rfl,fun x hx => (List.mem_cons.1 hx).elim (fun e => by rw [e]; exact hn) (g2 x)⟩
   ·cases h
  ·cases h
def decQ : AV → Option (Bool × List Int × List Int)
 | .agg [.b q,.l 1 a,.l 1 b] => (decW a).bind fun l => (decW b).bind fun d => if l.length ≤ 100 ∧ d.length ≤ 100 then some (q,l,d) else none
 | _ => none
theorem decQ_ok {v : AV} {x : Bool × List Int × List Int} (h : decQ v = some x) : v = (AV.agg [AV.b x.1,(AV.l 1 (List.map u x.2.1)),(AV.l 1 (List.map u x.2.2))]) ∧ Sm x.2.1 x.2.2 100 := by
 unfold decQ at h
 split at h
 ·rename_i q a b
  obtain ⟨l,h1,h⟩ := Option.bind_eq_some_iff.1 h
  obtain ⟨d,h2,h⟩ := Option.bind_eq_some_iff.1 h
  split at h
  ·rename_i hl
   cases h
   obtain ⟨rfl,u1⟩ := decW_ok h1
   obtain ⟨rfl,u2⟩ := decW_ok h2
   exact ⟨rfl,⟨u1,hl.1⟩,u2,hl.2⟩
  ·cases h
 ·cases h
def two (g : Rat → Rat → Option AV) : List AV → Option AV
 | [a,b] => (decQ a).bind fun x => (decQ b).bind fun y => g (qv x.1 x.2.1 x.2.2) (qv y.1 y.2.1 y.2.2)
 | _ => none
def one (g : Rat → Option AV) : List AV → Option AV
 | [a] => (decQ a).bind fun x => g (qv x.1 x.2.1 x.2.2)
 | _ => none
theorem two_ok {f : Nat} {g : Rat → Rat → Option AV} (h : ∀ q l d r m e v,Sm l d 100 → Sm m e 100 → g (qv q l d) (qv r m e) = some v → R FF f [(AV.agg [AV.b q,(AV.l 1 (List.map u l)),(AV.l 1 (List.map u d))]),(AV.agg [AV.b r,(AV.l 1 (List.map u m)),(AV.l 1 (List.map u e))])] = some v) : ∀ xs,Le (two g xs) (R FF f xs) := by
 intro xs v hv
 unfold two at hv
 split at hv
 ·obtain ⟨x,h1,k1⟩ := Option.bind_eq_some_iff.1 hv
  obtain ⟨y,h2,k2⟩ := Option.bind_eq_some_iff.1 k1
  obtain ⟨e1,s1⟩ := decQ_ok h1
  obtain ⟨e2,s2⟩ := decQ_ok h2
  rw [e1,e2]
  exact h _ _ _ _ _ _ _ s1 s2 k2
 ·cases hv
theorem one_ok {f : Nat} {g : Rat → Option AV} (h : ∀ q l d v,Sm l d 100 → g (qv q l d) = some v → R FF f [(AV.agg [AV.b q,(AV.l 1 (List.map u l)),(AV.l 1 (List.map u d))])] = some v) : ∀ xs,Le (one g xs) (R FF f xs) := by
 intro xs v hv
 unfold one at hv
 split at hv
 ·obtain ⟨x,h1,k1⟩ := Option.bind_eq_some_iff.1 hv
  obtain ⟨e1,s1⟩ := decQ_ok h1
  rw [e1]
  exact h _ _ _ _ s1 k1
 ·cases hv
def ovF (f : Nat) (g : List AV → Option AV) (rest : Nat → List AV → Option AV) (n : Nat) (xs : List AV) : Option AV := if n = f then g xs else rest n xs
theorem ovF_ok {f : Nat} {g : List AV → Option AV} {rest : Nat → List AV → Option AV} (h1 : ∀ xs,Le (g xs) (R FF f xs)) (h2 : LeC rest (R FF)) : LeC (ovF f g rest) (R FF) := by
 intro n xs v h
 unfold ovF at h
 split at h
 ·rename_i e; subst e; exact h1 xs v h
 ·exact h2 n xs v h
def nothing (n : Nat) (xs : List AV) : Option AV := none
theorem nothing_ok : LeC nothing (R FF) := fun _ _ _ h => by cases h
theorem ov_add (xs : List AV) : Le (two (fun x y => encQ (x + y)) xs) (R FF 31 xs) := two_ok (fun q l d r m e v h1 h2 h => by rw [encQ_ok h]; exact qadd_s h1 h2 (by omega) (by omega)) xs
theorem ov_sub (xs : List AV) : Le (two (fun x y => encQ (x - y)) xs) (R FF 55 xs) := two_ok (fun q l d r m e v h1 h2 h => by rw [encQ_ok h]; exact qsub_s h1 h2 (by omega) (by omega)) xs
theorem ov_mul (xs : List AV) : Le (two (fun x y => encQ (x * y)) xs) (R FF 94 xs) := two_ok (fun q l d r m e v h1 h2 h => by rw [encQ_ok h]; exact qmul_s h1 h2 (by omega) (by omega)) xs
theorem ov_cmp (xs : List AV) : Le (two (fun x y => some (AV.i .i64 (qcmp x y))) xs) (R FF 14 xs) := two_ok (fun q l d r m e v h1 h2 h => by rw [← Option.some.inj h]; exact qcmp_s h1 h2 (by omega) (by omega)) xs
theorem ov_same (xs : List AV) : Le (two (fun x y => some (.b (decide (x = y)))) xs) (R FF 57 xs) := two_ok (fun q l d r m e v h1 h2 h => by rw [← Option.some.inj h]; exact qsame_s h1 h2 (by omega) (by omega)) xs
theorem ov_sign (xs : List AV) : Le (one (fun x => some (AV.i .i64 (cmp x.num 0))) xs) (R FF 162 xs) := one_ok (fun q l d v h1 h => by rw [← Option.some.inj h]; exact qsign_c (by omega) h1) xs
theorem ov_clean (xs : List AV) : Le (one encQ xs) (R FF 63 xs) := one_ok (fun q l d v h1 h => by rw [encQ_ok h]; exact qclean_s h1 (by omega)) xs
def ofG : List AV → Option AV
 | [.i .i64 n] => if -1000000 < n ∧ n < 1000000 then encQ n else none
 | _ => none
theorem ov_of (xs : List AV) : Le (ofG xs) (R FF 68 xs) := by
 intro v h
 unfold ofG at h
 split at h
 ·split at h
  ·rw [encQ_ok h]; exact qof_c (by omega) (by omega)
  ·cases h
 ·cases h
def fracG : List AV → Option AV
 | [.i .i64 1,.i .i64 n] => if 0 ≤ n ∧ n < 1000000 then encQ (ivn n.toNat) else none
 | _ => none
theorem ov_frac (xs : List AV) : Le (fracG xs) (R FF 95 xs) := by
 intro v h
 unfold fracG at h
 split at h
 ·rename_i n
  split at h
  ·rename_i hn
   rw [encQ_ok h]
   obtain ⟨m,rfl⟩ : ∃ m : Nat,n = m := ⟨n.toNat,by omega⟩
   exact qfracn_c (by omega)
  ·cases h
 ·cases h
def nilG (x : Rat) : List AV → Option AV
 | [] => encQ x
 | _ => none
theorem ov_zero (xs : List AV) : Le (nilG 0 xs) (R FF 54 xs) := by
 intro v h
 unfold nilG at h
 split at h
 ·rw [encQ_ok h]; exact qzero_c
 ·cases h
theorem ov_one (xs : List AV) : Le (nilG 1 xs) (R FF 56 xs) := by
 intro v h
 unfold nilG at h
 split at h
 ·rw [encQ_ok h]; exact qone_c
 ·cases h
def ovQ : Nat → List AV → Option AV :=
 ovF 31 (two fun x y => encQ (x + y)) <| ovF 55 (two fun x y => encQ (x - y)) <| ovF 94 (two fun x y => encQ (x * y)) <| ovF 14 (two fun x y => some (AV.i .i64 (qcmp x y))) <| ovF 57 (two fun x y => some (.b (decide (x = y)))) <| ovF 162 (one fun x => some (AV.i .i64 (cmp x.num 0))) <|
 ovF 63 (one encQ) <| ovF 68 ofG <| ovF 95 fracG <| ovF 54 (nilG 0) <| ovF 56 (nilG 1) nothing
theorem ovQ_ok : LeC ovQ (R FF) :=
 ovF_ok ov_add <| ovF_ok ov_sub <| ovF_ok ov_mul <| ovF_ok ov_cmp <| ovF_ok ov_same <| ovF_ok ov_sign <| ovF_ok ov_clean <| ovF_ok ov_of <| ovF_ok ov_frac <| ovF_ok ov_zero <| ovF_ok ov_one nothing_ok
theorem runQ {k f : Nat} {xs : List AV} {v : AV} (h : runV ovQ FF k f xs = some v) : R FF f xs = some v := runV_ok ovQ_ok k f xs v h
theorem awake26 : R FF 170 [] = some (.b true) := runQ (k := 30) (by kernel_rfl)
theorem inX_range (n : Nat) : InX (zT n) n := fun i hi => List.mem_range.1 hi
theorem fD_vals {d : RD} (h : OkD d) : SmL (fD d).2.2 3 ∧ (fD d).2.2.length ≤ 6 := by
 constructor
 ·intro x hx
  obtain ⟨y,hy,rfl⟩ := List.mem_map.1 (show x ∈ (d.2.2.take 6).map tQ from hx)
  exact Sm.take (k := maxL) (h.2.2.2 y (List.mem_of_mem_take hy)) 3
 ·show ((d.2.2.take 6).map tQ).length ≤ 6
  rw [zC]; exact List.length_take_le _ _
abbrev dC : RC := (false,false,[],[])
def goV (c : Rat) (m : Bool) (x : RC) : Bool := if x.1 then m else decide (vQ x.2 < c)
def eSp (f : Int) (c : RQt) (m : Bool) (ls : RQt) : List AV := [.i .i64 f,.b c.1,.l 1 (c.2.1.map u),.l 1 (c.2.2.map u),.b m,.b ls.1,.l 1 (ls.2.1.map u),.l 1 (ls.2.2.map u)]
theorem vcmp_c {x y : RQt} {k j : Nat} (hx : SmQ x k) (hy : SmQ y j) (hk : k ≤ 100000000000) (hj : j ≤ 100000000000) : R FF 14 [(AV.agg [AV.b x.1,(AV.l 1 (List.map u x.2.1)),(AV.l 1 (List.map u x.2.2))]),(AV.agg [AV.b y.1,(AV.l 1 (List.map u y.2.1)),(AV.l 1 (List.map u y.2.2))])] = some (AV.i .i64 (qcmp (vQ x) (vQ y))) := qcmp_s hx hy hk hj
theorem ggoes_c {f : Int} {c ls : RQt} {m : Bool} {x : RC} {k j : Nat} (hc : SmQ c k) (hx : SmQ x.2 j) (hk : k ≤ 100000000000) (hj : j ≤ 100000000000) : R FF 262 [.agg (eSp f c m ls),.agg (eC x)] = some (.b (goV (vQ c) m x)) := by
 have f1 := vcmp_c hx hc hj hk
 have e : decide (qcmp (vQ x.2) (vQ c) < 0) = decide (vQ x.2 < vQ c) := decide_eq_decide.2 qcmp_lt
 obtain ⟨a,q,l,d⟩ := x
 cases a
 ·simp only [eSp,eC,goV,ji,if_false]
  rw [R_go FF F262 c262.eq_1]
  simp only [RB,RL,un,St.none,za,zd,ze,zf,zb,zj,zk,zm,zn,zc,zg,zh,zi,↓reduceIte,reduceCtorEq,pack,pid,parN,lid,chkK,apartV,Heap.none,f1,e,n64]
 ·simp only [eSp,eC,goV,if_true]
  rw [R_go FF F262 c262.eq_1]
  simp only [RB,RL,un,St.none,za,zd,ze,zf,zb,zj,zk,zm,zn,zc,zg,zh,zi,↓reduceIte,reduceCtorEq,pack,pid,parN,lid,chkK,apartV,Heap.none,n64]
theorem rgoes_c {n : RNd} {x : RC} {k j : Nat} (hc : SmQ n.cut k) (hx : SmQ x.2 j) (hk : k ≤ 100000000000) (hj : j ≤ 100000000000) : R FF 246 [.agg (eNd n),.agg (eC x)] = some (.b (goV (vQ n.cut) n.miss x)) := by
 have f1 := vcmp_c hx hc hj hk
 have e : decide (qcmp (vQ x.2) (vQ n.cut) < 0) = decide (vQ x.2 < vQ n.cut) := decide_eq_decide.2 qcmp_lt
 obtain ⟨a,q,l,d⟩ := x
 cases a
 ·simp only [eNd,eC,goV,ji,if_false]
  rw [R_go FF F246 c246.eq_1]
  simp only [RB,RL,un,St.none,za,zd,ze,zf,zb,zj,zk,zm,zn,zc,zg,zh,zi,↓reduceIte,reduceCtorEq,pack,pid,parN,lid,chkK,apartV,Heap.none,f1,e,n64]
 ·simp only [eNd,eC,goV,if_true]
  rw [R_go FF F246 c246.eq_1]
  simp only [RB,RL,un,St.none,za,zd,ze,zf,zb,zj,zk,zm,zn,zc,zg,zh,zi,↓reduceIte,reduceCtorEq,pack,pid,parN,lid,chkK,apartV,Heap.none,n64]
theorem rleft_c {n : RNd} {x : RC} {k j : Nat} (hc : SmQ n.cut k) (hx : SmQ x.2 j) (hk : k ≤ 100000000000) (hj : j ≤ 100000000000) : R FF 230 [.agg (eNd n),.agg (eC x)] = some (.b (!n.leaf && goV (vQ n.cut) n.miss x)) := by
 have f1 := rgoes_c hc hx hk hj
 generalize goV (vQ n.cut) n.miss x = y at *
 obtain ⟨lf,ft,c,a,b,m,v,w⟩ := n
 obtain ⟨a',q,l,d⟩ := x
 cases lf
 ·simp only [eNd,eC] at f1 ⊢
  rw [R_go FF F230 c230.eq_1]
  simp only [RB,RL,un,St.none,za,zd,ze,zf,zb,zj,zk,zm,zn,zc,zg,zh,zi,↓reduceIte,reduceCtorEq,pack,pid,parN,lid,chkK,apartV,Heap.none,f1,n64]
 ·simp only [eNd,eC] at f1 ⊢
  rw [R_go FF F230 c230.eq_1]
  simp only [RB,RL,un,St.none,za,zd,ze,zf,zb,zj,zk,zm,zn,zc,zg,zh,zi,↓reduceIte,reduceCtorEq,pack,pid,parN,lid,chkK,apartV,Heap.none,n64]
def cellD (rows : List (List RC)) (f i : Nat) : RC := (rows.getD i []).getD f dC
def WfD (rows : List (List RC)) (f : Nat) (l : List Nat) (k : Nat) : Prop := ∀ i ∈ l,i < rows.length ∧ f < (rows.getD i []).length ∧ SmQ (cellD rows f i).2 k
theorem filter_snoc {p : Nat → Bool} {l : List Nat} {i : Nat} (hi : i < l.length) : (l.take (i + 1)).filter p = (l.take i).filter p ++ (if p (l.getD i 0) then [l.getD i 0] else []) := by
 rw [List.take_add_one,zr hi,List.filter_append,zo,zr hi]
 show _ ++ List.filter p [l[i]] = _
 rw [List.filter_cons]
 rfl
theorem snoc_X (A : List Nat) (x : Nat) : A.map eX ++ [[AV.i .i64 ((x : Nat) : Int)]] = (A ++ [x]).map eX := by rw [jb]; rfl
theorem take_snocX (A : List Nat) (x : Nat) : (A ++ [x]).take (A.length + 1) = A ++ [x] := zp (by rw [zx]; exact zz _)
theorem parted_l0 {fe : Int} {f : Nat} {c ls : RQt} {m : Bool} {rows : List (List RC)} {es : List (List AV)} {l : List Nat} {k : Nat} (hk : k ≤ 1000000) (hc : SmQ c k) (hr : rows.length ≤ 1000) (hw : WfD rows f l k) (hn : l.length ≤ 1000) : ∀ (d i : Nat),i + d = l.length →
  LP FF [(6,1),(7,1),(3,0),(5,0),(10,0),(11,0),(12,0)] [(6,0),(7,0)] b256_0 [.own true 1 (((l.take i).filter fun j => goV (vQ c) m (cellD rows f j)).map eX),.own true 1 (((l.take i).filter fun j => !goV (vQ c) m (cellD rows f j)).map eX),.tp [(AV.i .i64 fe),.l 1 (rows.map eRw),.l 3 es] 0,.tp (eSp f c m ls) 0,.l 1 (l.map eX),(AV.i .i64 ((l.length : Int))),(AV.i .i64 ((i : Int)))] =
   some (.exit 0,[.l 1 ((l.filter fun j => goV (vQ c) m (cellD rows f j)).map eX),.l 1 ((l.filter fun j => !goV (vQ c) m (cellD rows f j)).map eX)]) := by
 intro d
 induction d with
 | zero =>
  intro i hi
  have hi' : i = l.length := by omega
  rw [hi',zp (zz _)]
  have c1 : ¬ (l.length : Int) < (l.length : Int) := by omega
  rw [LP_go FF b256_0.eq_1]
  simp only [RB,RL,un,St.none,za,zd,ze,zf,zb,zj,zk,zm,zn,zc,zg,zh,zi,↓reduceIte,reduceCtorEq,pack,pid,parN,lid,chkK,apartV,Heap.none,c1,eX_rules,eX_row,eSp]
 | succ d ih =>
  intro i hi
  have hlt : i < l.length := by omega
  have h9 := ih (i + 1) (by omega)
  obtain ⟨w1,w2,w3⟩ := hw _ (getD_mem' 0 hlt)
  rw [filter_snoc hlt,filter_snoc hlt] at h9
  have f1 := ggoes_c (f := f) (c := c) (ls := ls) (m := m) (x := cellD rows f (l.getD i 0)) (k := k) (j := k) hc w3 (by omega) (by omega)
  have l1 : ((l.take i).filter fun j => goV (vQ c) m (cellD rows f j)).length ≤ 1000 := zE (List.length_filter_le _ _) (zE (List.length_take_le _ _) (by omega))
  have l2 : ((l.take i).filter fun j => !goV (vQ c) m (cellD rows f j)).length ≤ 1000 := zE (List.length_filter_le _ _) (zE (List.length_take_le _ _) (by omega))
  unfold cellD at f1
  have c1 : (i : Int) < (l.length : Int) := by omega
  have c2 : ((l.getD i 0 : Nat) : Int) < (rows.length : Int) := by omega
  have c3 : (f : Int) < ((rows.getD (l.getD i 0) []).length : Int) := by omega
  have e2 : IntKind.i64.wrap ((i : Int) + 1) = ((i + 1 : Nat) : Int) := w64succ (by omega)
  by_cases hg : goV (vQ c) m (cellD rows f (l.getD i 0)) = true
  ·have hg' : goV (vQ c) m ((rows.getD (l.getD i 0) []).getD f dC) = true := hg
   simp only [hg,Bool.not_true,ji,if_true,if_false,List.append_nil] at h9
   rw [hg'] at f1
   generalize (l.take i).filter (fun j => goV (vQ c) m (cellD rows f j)) = A at *
   generalize (l.take i).filter (fun j => !goV (vQ c) m (cellD rows f j)) = B at *
   have b2 : (A.length + 1) * 8 ≤ 140737488355328 := by omega
   have m1 := snoc_X A (l.getD i 0)
   have m5 := take_snocX A (l.getD i 0)
   simp only [eSp,eC] at f1 h9 ⊢
   rw [LP_go FF b256_0.eq_1]
   simp only [RB,RL,un,St.none,za,zd,ze,zf,zb,zj,zk,zm,zn,zc,zg,zh,zi,↓reduceIte,reduceCtorEq,pack,pid,parN,lid,chkK,apartV,Heap.none,c1,c2,c3,eX_rules,eX_row,eRw_rules,eRw_row,eC_rules,eC_row,zq,f1,e2,n64,b2,m1,m5,zt]
   exact h9
  ·have hg0 : goV (vQ c) m (cellD rows f (l.getD i 0)) = false := by simpa using hg
   have hg' : goV (vQ c) m ((rows.getD (l.getD i 0) []).getD f dC) = false := hg0
   simp only [hg0,Bool.not_false,ji,if_true,if_false,List.append_nil] at h9
   rw [hg'] at f1
   generalize (l.take i).filter (fun j => goV (vQ c) m (cellD rows f j)) = A at *
   generalize (l.take i).filter (fun j => !goV (vQ c) m (cellD rows f j)) = B at *
   have b2 : (B.length + 1) * 8 ≤ 140737488355328 := by omega
   have m1 := snoc_X B (l.getD i 0)
   have m5 := take_snocX B (l.getD i 0)
   simp only [eSp,eC] at f1 h9 ⊢
   rw [LP_go FF b256_0.eq_1]
   simp only [RB,RL,un,St.none,za,zd,ze,zf,zb,zj,zk,zm,zn,zc,zg,zh,zi,↓reduceIte,reduceCtorEq,pack,pid,parN,lid,chkK,apartV,Heap.none,c1,c2,c3,eX_rules,eX_row,eRw_rules,eRw_row,eC_rules,eC_row,zq,f1,e2,n64,b2,m1,m5,zt]
   exact h9
theorem parted26_l0 {fe : Int} {f : Nat} {c ls : RQt} {m : Bool} {rows : List (List RC)} {es : List (List AV)} {l : List Nat} {k : Nat} (hk : k ≤ 1000000) (hc : SmQ c k) (hr : rows.length ≤ 1000) (hw : WfD rows f l k) (hn : l.length ≤ 1000) : ∀ (d i : Nat),i + d = l.length →
  LP FF [(9,1),(10,1),(1,0),(3,0),(5,0),(8,0),(11,0)] [(9,0),(10,0)] b282_0 [.own true 1 (((l.take i).filter fun j => goV (vQ c) m (cellD rows f j)).map eX),.own true 1 (((l.take i).filter fun j => !goV (vQ c) m (cellD rows f j)).map eX),.l 1 (l.map eX),.tp [(AV.i .i64 fe),.l 1 (rows.map eRw),.l 3 es] 0,.tp (eSp f c m ls) 0,.tp (eNd ⟨false,f,c,0,0,m,dQ,dQ⟩) 0,(AV.i .i64 ((i : Int)))] =
   some (.exit 0,[.l 1 ((l.filter fun j => goV (vQ c) m (cellD rows f j)).map eX),.l 1 ((l.filter fun j => !goV (vQ c) m (cellD rows f j)).map eX)]) := by
 intro d
 induction d with
 | zero =>
  intro i hi
  have hi' : i = l.length := by omega
  rw [hi',zp (zz _)]
  have c1 : ¬ (l.length : Int) < (l.length : Int) := by omega
  rw [LP_go FF b282_0.eq_1]
  simp only [RB,RL,un,St.none,za,zd,ze,zf,zb,zj,zk,zm,zn,zc,zg,zh,zi,↓reduceIte,reduceCtorEq,pack,pid,parN,lid,chkK,apartV,Heap.none,c1,eX_rules,eX_row,eSp,eNd]
 | succ d ih =>
  intro i hi
  have hlt : i < l.length := by omega
  have h9 := ih (i + 1) (by omega)
  obtain ⟨w1,w2,w3⟩ := hw _ (getD_mem' 0 hlt)
  rw [filter_snoc hlt,filter_snoc hlt] at h9
  have f1 := rleft_c (n := ⟨false,f,c,0,0,m,dQ,dQ⟩) (x := cellD rows f (l.getD i 0)) (k := k) (j := k) hc w3 (by omega) (by omega)
  simp only [Bool.not_false,Bool.true_and] at f1
  have l1 : ((l.take i).filter fun j => goV (vQ c) m (cellD rows f j)).length ≤ 1000 := zE (List.length_filter_le _ _) (zE (List.length_take_le _ _) (by omega))
  have l2 : ((l.take i).filter fun j => !goV (vQ c) m (cellD rows f j)).length ≤ 1000 := zE (List.length_filter_le _ _) (zE (List.length_take_le _ _) (by omega))
  unfold cellD at f1
  have c1 : (i : Int) < (l.length : Int) := by omega
  have c2 : ((l.getD i 0 : Nat) : Int) < (rows.length : Int) := by omega
  have c3 : (f : Int) < ((rows.getD (l.getD i 0) []).length : Int) := by omega
  have e2 : IntKind.i64.wrap ((i : Int) + 1) = ((i + 1 : Nat) : Int) := w64succ (by omega)
  by_cases hg : goV (vQ c) m (cellD rows f (l.getD i 0)) = true
  ·have hg' : goV (vQ c) m ((rows.getD (l.getD i 0) []).getD f dC) = true := hg
   simp only [hg,Bool.not_true,ji,if_true,if_false,List.append_nil] at h9
   rw [hg'] at f1
   generalize (l.take i).filter (fun j => goV (vQ c) m (cellD rows f j)) = A at *
   generalize (l.take i).filter (fun j => !goV (vQ c) m (cellD rows f j)) = B at *
   have b2 : (A.length + 1) * 8 ≤ 140737488355328 := by omega
   have m1 := snoc_X A (l.getD i 0)
   have m5 := take_snocX A (l.getD i 0)
   simp only [eSp,eC,eNd,zR] at f1 h9 ⊢
   rw [LP_go FF b282_0.eq_1]
   simp only [RB,RL,un,St.none,za,zd,ze,zf,zb,zj,zk,zm,zn,zc,zg,zh,zi,↓reduceIte,reduceCtorEq,pack,pid,parN,lid,chkK,apartV,Heap.none,c1,c2,c3,eX_rules,eX_row,eRw_rules,eRw_row,eC_rules,eC_row,zq,f1,e2,n64,b2,m1,m5,zt]
   exact h9
  ·have hg0 : goV (vQ c) m (cellD rows f (l.getD i 0)) = false := by simpa using hg
   have hg' : goV (vQ c) m ((rows.getD (l.getD i 0) []).getD f dC) = false := hg0
   simp only [hg0,Bool.not_false,ji,if_true,if_false,List.append_nil] at h9
   rw [hg'] at f1
   generalize (l.take i).filter (fun j => goV (vQ c) m (cellD rows f j)) = A at *
   generalize (l.take i).filter (fun j => !goV (vQ c) m (cellD rows f j)) = B at *
   have b2 : (B.length + 1) * 8 ≤ 140737488355328 := by omega
   have m1 := snoc_X B (l.getD i 0)
   have m5 := take_snocX B (l.getD i 0)
   simp only [eSp,eC,eNd,zR] at f1 h9 ⊢
   rw [LP_go FF b282_0.eq_1]
   simp only [RB,RL,un,St.none,za,zd,ze,zf,zb,zj,zk,zm,zn,zc,zg,zh,zi,↓reduceIte,reduceCtorEq,pack,pid,parN,lid,chkK,apartV,Heap.none,c1,c2,c3,eX_rules,eX_row,eRw_rules,eRw_row,eC_rules,eC_row,zq,f1,e2,n64,b2,m1,m5,zt]
   exact h9
theorem parted_c {fe : Int} {f : Nat} {c ls : RQt} {m : Bool} {rows : List (List RC)} {es : List (List AV)} {l : List Nat} {k : Nat} (hk : k ≤ 1000000) (hc : SmQ c k) (hr : rows.length ≤ 1000) (hw : WfD rows f l k) (hn : l.length ≤ 1000) :
  R FF 256 [.agg [(AV.i .i64 fe),.l 1 (rows.map eRw),.l 3 es],.l 1 (l.map eX),.agg (eSp f c m ls)] = some (.tup [.l 1 ((l.filter fun j => goV (vQ c) m (cellD rows f j)).map eX),.l 1 ((l.filter fun j => !goV (vQ c) m (cellD rows f j)).map eX)]) := by
 have l0 := parted_l0 (fe := fe) (ls := ls) (m := m) (es := es) hk hc hr hw hn l.length 0 (by omega)
 rw [jk,zI] at l0
 simp only [List.filter_nil,zR,eSp] at l0 ⊢
 rw [R_go FF F256 c256.eq_1]
 simp only [RB,RL,un,St.none,za,zd,ze,zf,zb,zj,zk,zm,zn,zc,zg,zh,zi,↓reduceIte,reduceCtorEq,pack,pid,parN,lid,chkK,apartV,Heap.none,l0,n64]
theorem parted26_c {fe : Int} {f : Nat} {c ls : RQt} {m : Bool} {rows : List (List RC)} {es : List (List AV)} {l : List Nat} {k : Nat} (hk : k ≤ 1000000) (hc : SmQ c k) (hr : rows.length ≤ 1000) (hw : WfD rows f l k) (hn : l.length ≤ 1000) :
  R FF 282 [.agg [(AV.i .i64 fe),.l 1 (rows.map eRw),.l 3 es],.l 1 (l.map eX),.agg (eSp f c m ls)] = some (.tup [.l 1 ((l.filter fun j => goV (vQ c) m (cellD rows f j)).map eX),.l 1 ((l.filter fun j => !goV (vQ c) m (cellD rows f j)).map eX)]) := by
 have l0 := parted26_l0 (fe := fe) (ls := ls) (m := m) (es := es) hk hc hr hw hn l.length 0 (by omega)
 rw [jk,zI] at l0
 simp only [List.filter_nil,zR,eSp,eNd] at l0 ⊢
 rw [R_go FF F282 c282.eq_1]
 simp only [RB,RL,un,St.none,za,zd,ze,zf,zb,zj,zk,zm,zn,zc,zg,zh,zi,↓reduceIte,reduceCtorEq,pack,pid,parN,lid,chkK,apartV,Heap.none,l0,n64]
theorem gevery_l0 {n : Nat} (hn : n ≤ 1000) : ∀ (d i : Nat),i + d = n →
  LP FF [(3,1),(7,0),(8,0)] [(3,0)] b239_0 [.own true 1 ((zT i).map eX),(AV.i .i64 ((n : Int))),(AV.i .i64 ((i : Int)))] = some (.exit 0,[.l 1 ((zT n).map eX)]) := by
 intro d
 induction d with
 | zero =>
  intro i hi
  rw [show i = n by omega]
  have c1 : ¬ (n : Int) < (n : Int) := by omega
  rw [LP_go FF b239_0.eq_1]
  simp only [RB,RL,un,St.none,za,zd,ze,zf,zb,zj,zk,zm,zn,zc,zg,zh,zi,↓reduceIte,reduceCtorEq,pack,pid,parN,lid,chkK,apartV,Heap.none,c1,eX_rules,eX_row]
 | succ d ih =>
  intro i hi
  have h9 := ih (i + 1) (by omega)
  have c1 : (i : Int) < (n : Int) := by omega
  have e2 : IntKind.i64.wrap ((i : Int) + 1) = ((i + 1 : Nat) : Int) := w64succ (by omega)
  have b2 : (i + 1) * 8 ≤ 140737488355328 := by omega
  have m1 := range_X i
  have m2 : (zT i).length = i := List.length_range ..
  have m3 : zQ i (zT i) = zT i := zp (by rw [m2]; exact zz _)
  have m4 : (zT (i + 1)).length = i + 1 := List.length_range ..
  have m5 : zQ (i + 1) (zT (i + 1)) = zT (i + 1) := zp (by rw [m4]; exact zz _)
  rw [LP_go FF b239_0.eq_1]
  simp only [RB,RL,un,St.none,za,zd,ze,zf,zb,zj,zk,zm,zn,zc,zg,zh,zi,↓reduceIte,reduceCtorEq,pack,pid,parN,lid,chkK,apartV,Heap.none,c1,eX_rules,eX_row,zq,e2,b2,m1,m2,m3,m4,m5]
  exact h9
theorem gevery_c {d : RD} (hn : d.2.1.length ≤ 1000) : R FF 239 [.agg (eD d)] = some (.l 1 ((zT d.2.1.length).map eX)) := by
 obtain ⟨f,rows,vals⟩ := d
 have l0 := gevery_l0 (n := rows.length) hn rows.length 0 (by omega)
 rw [List.range_zero,zI] at l0
 simp only [zR,eD] at l0 ⊢
 rw [R_go FF F239 c239.eq_1]
 simp only [RB,RL,un,St.none,za,zd,ze,zf,zb,zj,zk,zm,zn,zc,zg,zh,zi,↓reduceIte,reduceCtorEq,pack,pid,parN,lid,chkK,apartV,Heap.none,l0,eRw_rules,eRw_row]
theorem every26_l0 {f : Int} {rows : List (List RC)} {es : List (List AV)} (hn : rows.length ≤ 1000) : ∀ (d i : Nat),i + d = rows.length →
  LP FF [(3,1),(1,0),(4,0)] [(3,0)] b273_0 [.own true 1 ((zT i).map eX),.tp [(AV.i .i64 f),.l 1 (rows.map eRw),.l 3 es] 0,(AV.i .i64 ((i : Int)))] = some (.exit 0,[.l 1 ((zT rows.length).map eX)]) := by
 intro d
 induction d with
 | zero =>
  intro i hi
  rw [show i = rows.length by omega]
  have c1 : ¬ (rows.length : Int) < (rows.length : Int) := by omega
  rw [LP_go FF b273_0.eq_1]
  simp only [RB,RL,un,St.none,za,zd,ze,zf,zb,zj,zk,zm,zn,zc,zg,zh,zi,↓reduceIte,reduceCtorEq,pack,pid,parN,lid,chkK,apartV,Heap.none,c1,eX_rules,eX_row]
 | succ d ih =>
  intro i hi
  have h9 := ih (i + 1) (by omega)
  have c1 : (i : Int) < (rows.length : Int) := by omega
  have e2 : IntKind.i64.wrap ((i : Int) + 1) = ((i + 1 : Nat) : Int) := w64succ (by omega)
  have b2 : (i + 1) * 8 ≤ 140737488355328 := by omega
  have m1 := range_X i
  have m2 : (zT i).length = i := List.length_range ..
  have m3 : zQ i (zT i) = zT i := zp (by rw [m2]; exact zz _)
  have m4 : (zT (i + 1)).length = i + 1 := List.length_range ..
  have m5 : zQ (i + 1) (zT (i + 1)) = zT (i + 1) := zp (by rw [m4]; exact zz _)
  rw [LP_go FF b273_0.eq_1]
  simp only [RB,RL,un,St.none,za,zd,ze,zf,zb,zj,zk,zm,zn,zc,zg,zh,zi,↓reduceIte,reduceCtorEq,pack,pid,parN,lid,chkK,apartV,Heap.none,c1,eX_rules,eX_row,zq,e2,b2,m1,m2,m3,m4,m5]
  exact h9
theorem every26_c {d : RD} (hn : d.2.1.length ≤ 1000) : R FF 273 [.agg (eD d)] = some (.l 1 ((zT d.2.1.length).map eX)) := by
 obtain ⟨f,rows,vals⟩ := d
 have l0 := every26_l0 (f := f) (rows := rows) (es := vals.map eQ) hn rows.length 0 (by omega)
 rw [List.range_zero,zI] at l0
 simp only [zR,eD] at l0 ⊢
 rw [R_go FF F273 c273.eq_1]
 simp only [RB,RL,un,St.none,za,zd,ze,zf,zb,zj,zk,zm,zn,zc,zg,zh,zi,↓reduceIte,reduceCtorEq,pack,pid,parN,lid,chkK,apartV,Heap.none,l0,eRw_rules,eRw_row]
def posV (v : Rat) : List Rat → Nat
 | [] => 0
 | x :: l => if x < v then posV v l + 1 else 0
theorem posV_le (v : Rat) : ∀ l,posV v l ≤ l.length
 | [] => zz _
 | x :: l => by
  have := posV_le v l
  show (if x < v then posV v l + 1 else 0) ≤ l.length + 1
  split <;> omega
theorem posV_drop {v : Rat} {l : List Rat} {i : Nat} (h : i < l.length) : posV v (l.drop i) = if l.getD i 0 < v then posV v (l.drop (i + 1)) + 1 else 0 := by
 rw [List.drop_eq_getElem_cons h,zo,zr h]; rfl
theorem getD_map_rQ (l : List Rat) (i : Nat) (h : i < l.length) : (l.map rQ).getD i dQ = rQ (l.getD i 0) := by
 rw [zo,zo,List.getElem?_map,zr h]; rfl
theorem cuts_l1 {f : Int} {dt : List AV} {x : RC} {L : List (List AV)} {n i : Int} {o : List Rat} {k : Nat} (hk : k ≤ 1000000) (h1k : 1 ≤ k) (hx : SmQ x.2 k) (ho : AllQ o k) (hl : o.length ≤ 1000) : ∀ (d j : Nat),j + d = o.length →
  LP FF [(7,1),(2,0),(3,0),(10,0),(11,0),(12,0),(13,0),(14,0)] [(7,1),(2,0),(3,0),(10,0),(11,0),(12,0),(13,0),(14,0)] b261_1 [.own true 3 ((o.map rQ).map eQ),(AV.i .i64 f),.tp dt 0,.tp (eC x) 0,(AV.i .i64 ((j : Int))),.l 1 L,(AV.i .i64 n),(AV.i .i64 i)] =
   some (.exit 2,[.own true 3 ((o.map rQ).map eQ),(AV.i .i64 f),.tp dt 0,.tp (eC x) 0,(AV.i .i64 (((j + posV (vQ x.2) (o.drop j) : Nat) : Int))),.l 1 L,(AV.i .i64 n),(AV.i .i64 i)]) := by
 intro d
 induction d with
 | zero =>
  intro j hj
  rw [zW (by omega),show posV (vQ x.2) [] = 0 from rfl,Nat.add_zero]
  have hlen : (o.map rQ).length = o.length := zC ..
  have mt : (o.map rQ).take o.length = o.map rQ := zp (by omega)
  have c1 : ¬ (j : Int) < (o.length : Int) := by omega
  rw [LP_go FF b261_1.eq_1]
  simp only [RB,RL,un,St.none,za,zd,ze,zf,zb,zj,zk,zm,zn,zc,zg,zh,zi,↓reduceIte,reduceCtorEq,pack,pid,parN,lid,chkK,apartV,Heap.none,c1,hlen,mt,eC_rules,eQ_rules,eQ_row]
 | succ d ih =>
  intro j hj
  have hlt : j < o.length := by omega
  have h9 := ih (j + 1) (by omega)
  rw [posV_drop hlt]
  have hlen : (o.map rQ).length = o.length := zC ..
  have mt : (o.map rQ).take o.length = o.map rQ := zp (by omega)
  have hg := getD_map_rQ o j hlt
  have f1 := vcmp_c (x := rQ (o.getD j 0)) (y := x.2) (k := k) (j := k) (sm_cq (ho _ (getD_mem' 0 hlt))) hx (by omega) (by omega)
  rw [vQ_rQ] at f1
  have c1 : (j : Int) < (o.length : Int) := by omega
  have e2 : IntKind.i64.wrap ((j : Int) + 1) = ((j + 1 : Nat) : Int) := w64succ (by omega)
  by_cases hv : o.getD j 0 < vQ x.2
  ·rw [if_pos hv]
   have c2 := qcmp_lt.2 hv
   rw [show j + (posV (vQ x.2) (o.drop (j + 1)) + 1) = j + 1 + posV (vQ x.2) (o.drop (j + 1)) by omega]
   rw [LP_go FF b261_1.eq_1]
   simp only [RB,RL,un,St.none,za,zd,ze,zf,zb,zj,zk,zm,zn,zc,zg,zh,zi,↓reduceIte,reduceCtorEq,pack,pid,parN,lid,chkK,apartV,Heap.none,c1,c2,hlen,mt,hlt,eC_rules,eQ_rules,eQ_row,hg,f1,e2,zq]
   exact h9
  ·rw [if_neg hv]
   have c2 : ¬ qcmp (o.getD j 0) (vQ x.2) < 0 := fun h => hv (qcmp_lt.1 h)
   rw [LP_go FF b261_1.eq_1]
   simp only [RB,RL,un,St.none,za,zd,ze,zf,zb,zj,zk,zm,zn,zc,zg,zh,zi,↓reduceIte,reduceCtorEq,pack,pid,parN,lid,chkK,apartV,Heap.none,c1,c2,hlen,mt,hlt,eC_rules,eQ_rules,eQ_row,hg,f1,e2,zq]
def insV (o : List Rat) (v : Rat) : List Rat := if posV v o < o.length ∧ o.getD (posV v o) 0 = v then o else o.take (posV v o) ++ v :: o.drop (posV v o)
theorem cuts_ins (es : List RQt) (p : Nat) (y : RQt) (hp : p ≤ es.length) :
  (((es ++ [dQ]).take (p + 1) ++ ((es ++ [dQ]).drop p).take (es.length - p) ++ (es ++ [dQ]).drop (p + 1 + (es.length - p))).set p y) = es.take p ++ y :: es.drop p := by
 have h1 : (es ++ [dQ]).drop (p + 1 + (es.length - p)) = [] := zW (by rw [zx]; simp; omega)
 have h2 : ((es ++ [dQ]).drop p).take (es.length - p) = es.drop p := by
  rw [List.drop_append_of_le_length hp,List.take_append_of_le_length (by rw [jd]; exact zz _),zp (by rw [jd]; exact zz _)]
 rw [h1,h2,List.append_nil]
 apply List.ext_getElem?
 intro i
 have h3 : ((es ++ [dQ]).take (p + 1)).length = p + 1 := by rw [zD,zx]; simp; omega
 have h4 : (es.take p).length = p := by rw [zD]; omega
 rw [List.getElem?_set]
 by_cases hi : p = i
 ·subst hi
  rw [if_pos rfl,if_pos (by rw [zx,h3]; omega),jc (by omega),h4,Nat.sub_self]
  rfl
 ·rw [if_neg hi]
  by_cases hi2 : i < p
  ·rw [List.getElem?_append_left (by omega),List.getElem?_append_left (by omega),List.getElem?_take_of_lt (by omega),List.getElem?_take_of_lt (by omega),List.getElem?_append_left (by omega)]
  ·rw [jc (by omega),jc (by omega),h3,h4,show i - p = (i - (p + 1)) + 1 by omega,List.getElem?_cons_succ]
theorem vsame_c {x y : RQt} {k j : Nat} (hx : SmQ x k) (hy : SmQ y j) (hk : k ≤ 100000000000) (hj : j ≤ 100000000000) : R FF 57 [(AV.agg [AV.b x.1,(AV.l 1 (List.map u x.2.1)),(AV.l 1 (List.map u x.2.2))]),(AV.agg [AV.b y.1,(AV.l 1 (List.map u y.2.1)),(AV.l 1 (List.map u y.2.2))])] = some (.b (decide (vQ x = vQ y))) := qsame_s hx hy hk hj
theorem vclean_c {x : RQt} {k : Nat} (hx : SmQ x k) (hk : k ≤ 100000000000) : R FF 63 [(AV.agg [AV.b x.1,(AV.l 1 (List.map u x.2.1)),(AV.l 1 (List.map u x.2.2))])] = some (AV.agg [AV.b (ng (zV ((vQ x)))),(AV.l 1 (List.map u (D (zM (zV ((vQ x))))))),(AV.l 1 (List.map u (D (Rat.den ((vQ x))))))]) := qclean_s hx hk
def cutF (rows : List (List RC)) (f : Nat) (o : List Rat) (j : Nat) : List Rat := if (cellD rows f j).1 then o else insV o (vQ (cellD rows f j).2)
theorem insV_len (o : List Rat) (v : Rat) : (insV o v).length ≤ o.length + 1 := by
 unfold insV
 split
 ·omega
 ·rw [zx,zD,zF,jd]
  have := posV_le v o
  omega
theorem insV_all {o : List Rat} {v : Rat} {k : Nat} (ho : AllQ o k) (hv : sq v ≤ k) : AllQ (insV o v) k := by
 unfold insV
 split
 ·exact ho
 ·intro x hx
  rcases List.mem_append.1 hx with hx | hx
  ·exact ho x (List.mem_of_mem_take hx)
  ·rcases List.mem_cons.1 hx with rfl | hx
   ·exact hv
   ·exact ho x (List.mem_of_mem_drop hx)
theorem drop_fold {rows : List (List RC)} {f : Nat} {l : List Nat} {i : Nat} (o : List Rat) (h : i < l.length) : (l.drop i).foldl (cutF rows f) o = (l.drop (i + 1)).foldl (cutF rows f) (cutF rows f o (l.getD i 0)) := by
 rw [List.drop_eq_getElem_cons h,List.foldl_cons,zo,zr h]; rfl
theorem cuts_l0 {fe : Int} {f : Nat} {rows : List (List RC)} {es : List (List AV)} {l : List Nat} {k : Nat} (hk : k ≤ 1000000) (h1k : 1 ≤ k) (hr : rows.length ≤ 1000) (hw : WfD rows f l k) (hn : l.length ≤ 900) : ∀ (d i : Nat) (o : List Rat),i + d = l.length → AllQ o k → o.length ≤ i →
  LP FF [(7,1),(2,0),(3,0),(12,0),(13,0),(14,0)] [(7,0)] b261_0 [.own true 3 ((o.map rQ).map eQ),(AV.i .i64 ((f : Int))),.tp [(AV.i .i64 fe),.l 1 (rows.map eRw),.l 3 es] 0,.l 1 (l.map eX),(AV.i .i64 ((l.length : Int))),(AV.i .i64 ((i : Int)))] =
   some (.exit 0,[.l 3 ((((l.drop i).foldl (cutF rows f) o).map rQ).map eQ)]) := by
 intro d
 induction d with
 | zero =>
  intro i o hi ha ho
  rw [zW (by omega)]
  have c1 : ¬ (i : Int) < (l.length : Int) := by omega
  have hlen : (o.map rQ).length = o.length := zC ..
  have mt : (o.map rQ).take o.length = o.map rQ := zp (by omega)
  rw [LP_go FF b261_0.eq_1]
  simp only [RB,RL,un,St.none,za,zd,ze,zf,zb,zj,zk,zm,zn,zc,zg,zh,zi,↓reduceIte,reduceCtorEq,pack,pid,parN,lid,chkK,apartV,Heap.none,c1,eQ_rules,eQ_row,hlen,mt]
  rfl
 | succ d ih =>
  intro i o hi ha ho
  have hlt : i < l.length := by omega
  obtain ⟨w1,w2,w3⟩ := hw _ (getD_mem' 0 hlt)
  have c1 : (i : Int) < (l.length : Int) := by omega
  have c2 : ((l.getD i 0 : Nat) : Int) < (rows.length : Int) := by omega
  have c3 : (f : Int) < ((rows.getD (l.getD i 0) []).length : Int) := by omega
  have e2 : IntKind.i64.wrap ((i : Int) + 1) = ((i + 1 : Nat) : Int) := w64succ (by omega)
  have hlen : (o.map rQ).length = o.length := zC ..
  have mt : (o.map rQ).take o.length = o.map rQ := zp (by omega)
  rw [drop_fold o hlt]
  have l1 := cuts_l1 (f := f) (dt := [(AV.i .i64 fe),.l 1 (rows.map eRw),.l 3 es]) (x := cellD rows f (l.getD i 0)) (L := l.map eX) (n := (l.length : Int)) (i := (i : Int)) hk h1k w3 ha (by omega) o.length 0 (by omega)
  rw [zI,List.drop_zero,zX] at l1
  have v1 : sq (vQ (cellD rows f (l.getD i 0)).2) ≤ k := vQ_sq w3 h1k
  by_cases hm : (cellD rows f (l.getD i 0)).1 = true
  ·have h9 := ih (i + 1) o (by omega) ha (by omega)
   have h9' : cutF rows f o (l.getD i 0) = o := by unfold cutF; rw [if_pos hm]
   rw [h9']
   unfold cellD at hm
   rw [LP_go FF b261_0.eq_1]
   simp only [RB,RL,un,St.none,za,zd,ze,zf,zb,zj,zk,zm,zn,zc,zg,zh,zi,↓reduceIte,reduceCtorEq,pack,pid,parN,lid,chkK,apartV,Heap.none,c1,c2,c3,hm,eX_rules,eX_row,eRw_rules,eRw_row,eC_rules,eC_row,eQ_rules,eQ_row,hlen,mt,zq,e2]
   exact h9
  ·have h9' : cutF rows f o (l.getD i 0) = insV o (vQ (cellD rows f (l.getD i 0)).2) := by unfold cutF; rw [if_neg hm]
   rw [h9']
   have hm0 : (cellD rows f (l.getD i 0)).1 = false := by simpa using hm
   have hp := posV_le (vQ (cellD rows f (l.getD i 0)).2) o
   by_cases hs : posV (vQ (cellD rows f (l.getD i 0)).2) o < o.length ∧ o.getD (posV (vQ (cellD rows f (l.getD i 0)).2) o) 0 = vQ (cellD rows f (l.getD i 0)).2
   ·have h9 := ih (i + 1) o (by omega) ha (by omega)
    have e3 : insV o (vQ (cellD rows f (l.getD i 0)).2) = o := by unfold insV; rw [if_pos hs]
    rw [e3]
    have f1 := vsame_c (x := rQ (o.getD (posV (vQ (cellD rows f (l.getD i 0)).2) o) 0)) (y := (cellD rows f (l.getD i 0)).2) (sm_cq (ha _ (getD_mem' 0 hs.1))) w3 (show k ≤ 100000000000 by omega) (show k ≤ 100000000000 by omega)
    rw [vQ_rQ,decide_eq_true hs.2] at f1
    have hg := getD_map_rQ o _ hs.1
    have hs1 := hs.1
    have c4 : ((posV (vQ (cellD rows f (l.getD i 0)).2) o : Nat) : Int) < (o.length : Int) := by omega
    clear h9' e3 hs
    unfold cellD at *
    generalize hP : posV (vQ ((rows.getD (l.getD i 0) []).getD f dC).2) o = P at *
    simp only [eC,hm0] at l1
    rw [LP_go FF b261_0.eq_1]
    simp only [RB,RL,un,St.none,za,zd,ze,zf,zb,zj,zk,zm,zn,zc,zg,zh,zi,↓reduceIte,reduceCtorEq,pack,pid,parN,lid,chkK,apartV,Heap.none,c1,c2,c3,hm0,l1,eX_rules,eX_row,eRw_rules,eRw_row,eC_rules,eC_row,eQ_rules,eQ_row,hlen,mt,zq,e2,c4,hs1,hg,f1]
    exact h9
   ·have h9 := ih (i + 1) _ (by omega) (insV_all ha v1) (zE (insV_len _ _) (by omega))
    have e3 : insV o (vQ (cellD rows f (l.getD i 0)).2) = o.take (posV (vQ (cellD rows f (l.getD i 0)).2) o) ++ vQ (cellD rows f (l.getD i 0)).2 :: o.drop (posV (vQ (cellD rows f (l.getD i 0)).2) o) := by unfold insV; rw [if_neg hs]
    rw [e3] at h9 ⊢
    have f2 := vclean_c (x := (cellD rows f (l.getD i 0)).2) w3 (show k ≤ 100000000000 by omega)
    have w4 := w3
    clear h9' e3
    unfold cellD at *
    have f1 : ∀ hP : posV (vQ ((rows.getD (l.getD i 0) []).getD f dC).2) o < o.length,R FF 57 [(AV.agg [AV.b ((rQ (o.getD (posV (vQ ((rows.getD (l.getD i 0) []).getD f dC).2) o) 0)).1),(AV.l 1 (List.map u (((rQ (o.getD (posV (vQ ((rows.getD (l.getD i 0) []).getD f dC).2) o) 0)).2.1)))),(AV.l 1 (List.map u (((rQ (o.getD (posV (vQ ((rows.getD (l.getD i 0) []).getD f dC).2) o) 0)).2.2))))]),(AV.agg [AV.b (((rows.getD (l.getD i 0) []).getD f dC).2.1),(AV.l 1 (List.map u ((((rows.getD (l.getD i 0) []).getD f dC).2.2.1)))),(AV.l 1 (List.map u ((((rows.getD (l.getD i 0) []).getD f dC).2.2.2))))])] = some (.b false) := fun hP => by
     have f1 := vsame_c (x := rQ (o.getD (posV (vQ ((rows.getD (l.getD i 0) []).getD f dC).2) o) 0)) (y := ((rows.getD (l.getD i 0) []).getD f dC).2) (sm_cq (ha _ (getD_mem' 0 hP))) w4 (show k ≤ 100000000000 by omega) (show k ≤ 100000000000 by omega)
     rw [vQ_rQ,decide_eq_false (fun h => hs ⟨hP,h⟩)] at f1
     exact f1
    have ci := cuts_ins (o.map rQ) (posV (vQ ((rows.getD (l.getD i 0) []).getD f dC).2) o) (rQ (vQ ((rows.getD (l.getD i 0) []).getD f dC).2)) (by omega)
    generalize hv : vQ ((rows.getD (l.getD i 0) []).getD f dC).2 = v at *
    generalize hP : posV v o = P at *
    simp only [eC,hm0] at l1
    have c5 : IntKind.i64.wrap ((P : Int) + 1) = ((P + 1 : Nat) : Int) := w64succ (by omega)
    have b2 : (o.length + 1) * 56 ≤ 140737488355328 := by omega
    have m1 : List.map eQ (List.map rQ o) ++ [[AV.b false,AV.l 1 [],AV.l 1 []]] = List.map eQ (List.map rQ o ++ [dQ]) := by rw [jb (f := eQ)]; rfl
    have hX : (List.map rQ o ++ [dQ]).length = o.length + 1 := by rw [zx,hlen]; rfl
    have mt2 : zQ (o.length + 1 - P) (List.drop P (List.map rQ o ++ [dQ])) = List.drop P (List.map rQ o ++ [dQ]) := zp (by rw [jd,hX]; exact zz _)
    have mt3 : zQ (o.length + 1) (List.map rQ o ++ [dQ]) = List.map rQ o ++ [dQ] := zp (by omega)
    have hm3 : Nat.min (o.length + 1 - P) (o.length + 1 - (P + 1)) = o.length - P := by show min _ _ = _; omega
    have hXd : (List.drop P (List.map rQ o ++ [dQ])).length = o.length + 1 - P := by rw [jd,hX]
    rw [hlen] at ci
    have hY : (zQ (P + 1) (List.map rQ o ++ [dQ]) ++ zQ (o.length - P) (List.drop P (List.map rQ o ++ [dQ])) ++ List.drop (P + 1 + (o.length - P)) (List.map rQ o ++ [dQ])).length = o.length + 1 := by
     rw [zx,zx,zD,zD,jd,jd,hX]; omega
    generalize hX2 : List.map rQ o ++ [dQ] = X at *
    generalize hY2 : zQ (P + 1) X ++ zQ (o.length - P) (List.drop P X) ++ List.drop (P + 1 + (o.length - P)) X = Y at *
    have q1 : P + 1 ≤ o.length + 1 := by omega
    have q2 : P ≤ o.length + 1 := by omega
    have q3 : P + 1 + (o.length + 1 - (P + 1)) ≤ o.length + 1 := by omega
    have q4 : P < o.length + 1 := by omega
    have q5 : ((P + 1 : Nat) : Int) ≤ ((o.length + 1 : Nat) : Int) := by omega
    have q6 : (P : Int) ≤ ((o.length + 1 : Nat) : Int) := by omega
    have q7 : (P : Int) < ((o.length + 1 : Nat) : Int) := by omega
    have hpc : putC 3 (List.map eQ Y) P 0 [AV.b (ng v.num),AV.l 1 (List.map u (D v.num.natAbs)),AV.l 1 (List.map u (D v.den))] = List.map eQ (List.map rQ (zQ P o ++ v :: List.drop P o)) := by
     rw [show [AV.b (ng v.num),AV.l 1 (List.map u (D v.num.natAbs)),AV.l 1 (List.map u (D v.den))] = eQ (rQ v) from rfl,eQ_row.2.2.2.1,ci,jb (f := rQ),List.map_cons (f := rQ),List.map_take (f := rQ),List.map_drop (f := rQ)]
    have hfin : zQ (o.length + 1) (List.map eQ (List.map rQ (zQ P o ++ v :: List.drop P o))) = List.map eQ (List.map rQ (zQ P o ++ v :: List.drop P o)) := zp (by
     rw [zC,zC,zx,zD,zF,jd]; omega)
    have hZ : (List.map rQ (zQ P o ++ v :: List.drop P o)).length = o.length + 1 := by
     rw [zC,zx,zD,zF,jd]; omega
    by_cases hlt2 : P < o.length
    ·have c4 : (P : Int) < (o.length : Int) := by omega
     have f1 := f1 hlt2
     have hg := getD_map_rQ o _ hlt2
     rw [LP_go FF b261_0.eq_1]
     simp only [RB,RL,un,St.none,za,zd,ze,zf,zb,zj,zk,zm,zn,zc,zg,zh,zi,↓reduceIte,reduceCtorEq,pack,pid,parN,lid,chkK,apartV,Heap.none,c1,c2,c3,hm0,l1,eX_rules,eX_row,eRw_rules,eRw_row,eC_rules,eC_row,eQ_rules,eQ_row,hlen,mt,zq,e2,c4,hlt2,hg,f1,f2,c5,b2,m1,hX,hX2,mt2,mt3,hm3,hXd,← jb,hY2,hY,q1,q2,q3,q4,q5,q6,q7,hpc,hfin,hZ,Int.le_refl]
     exact h9
    ·have c4 : ¬ (P : Int) < (o.length : Int) := by omega
     rw [LP_go FF b261_0.eq_1]
     simp only [RB,RL,un,St.none,za,zd,ze,zf,zb,zj,zk,zm,zn,zc,zg,zh,zi,↓reduceIte,reduceCtorEq,pack,pid,parN,lid,chkK,apartV,Heap.none,c1,c2,c3,hm0,l1,eX_rules,eX_row,eRw_rules,eRw_row,eC_rules,eC_row,eQ_rules,eQ_row,hlen,mt,zq,e2,c4,hlt2,f2,c5,b2,m1,hX,hX2,mt2,mt3,hm3,hXd,← jb,hY2,hY,q1,q2,q3,q4,q5,q6,q7,hpc,hfin,hZ,Int.le_refl]
     exact h9
def ctV (rows : List (List RC)) (f : Nat) (l : List Nat) : List Rat := (l.foldl (cutF rows f) []).drop 1
theorem cuts_c {fe : Int} {f : Nat} {rows : List (List RC)} {es : List (List AV)} {l : List Nat} {k : Nat} (hk : k ≤ 1000000) (h1k : 1 ≤ k) (hr : rows.length ≤ 1000) (hw : WfD rows f l k) (hn : l.length ≤ 900) :
  R FF 261 [.agg [(AV.i .i64 fe),.l 1 (rows.map eRw),.l 3 es],.l 1 (l.map eX),(AV.i .i64 ((f : Int)))] = some (AV.l 3 (List.map eQ (List.map rQ (ctV rows f l)))) := by
 have l0 := cuts_l0 (fe := fe) (es := es) hk h1k hr hw hn l.length 0 [] (by omega) (fun _ h => (zY h).elim) (zz _)
 rw [zI,List.drop_zero] at l0
 simp only [zR] at l0
 unfold ctV
 generalize List.foldl (cutF rows f) [] l = o at *
 have hlen : (o.map rQ).length = o.length := zC ..
 by_cases h0 : o.length = 0
 ·have : o = [] := List.length_eq_zero_iff.1 h0
  subst this
  simp only [zR] at l0
  rw [R_go FF F261 c261.eq_1]
  simp only [RB,RL,un,St.none,za,zd,ze,zf,zb,zj,zk,zm,zn,zc,zg,zh,zi,↓reduceIte,reduceCtorEq,pack,pid,parN,lid,chkK,apartV,Heap.none,l0,eX_rules,eX_row,zR,List.drop_nil]
 ·have c1 : 0 < (o.length : Int) := by omega
  have c2 : 1 ≤ (o.length : Int) := by omega
  have mt : zQ (o.length - 1) (List.drop 1 (List.map rQ o)) = List.drop 1 (List.map rQ o) := zp (by rw [jd,hlen]; exact zz _)
  rw [List.map_drop,List.map_drop]
  rw [R_go FF F261 c261.eq_1]
  simp only [RB,RL,un,St.none,za,zd,ze,zf,zb,zj,zk,zm,zn,zc,zg,zh,zi,↓reduceIte,reduceCtorEq,pack,pid,parN,lid,chkK,apartV,Heap.none,l0,eX_rules,eX_row,eQ_rules,eQ_row,hlen,c1,c2,Int.le_refl,mt]
abbrev Cand := Nat × Rat × Bool × Rat
def spO (o : Option Cand) : List AV := match o with
 | none => eSp 0 dQ false dQ
 | some r => eSp r.1 (rQ r.2.1) r.2.2.1 (rQ r.2.2.2)
theorem spO_form (o : Option Cand) : ∃ z oc om ol,spO o = eSp z oc om ol := by
 cases o with
 | none => exact ⟨_,_,_,_,rfl⟩
 | some r => exact ⟨_,_,_,_,rfl⟩
theorem spO_some (r : Cand) : spO (some r) = eSp r.1 (rQ r.2.1) r.2.2.1 (rQ r.2.2.2) := rfl
def lfL (rows : List (List RC)) (l : List Nat) (f : Nat) (c : Rat) (m : Bool) : List Nat := l.filter fun j => goV c m (cellD rows f j)
def rgL (rows : List (List RC)) (l : List Nat) (f : Nat) (c : Rat) (m : Bool) : List Nat := l.filter fun j => !goV c m (cellD rows f j)
def splV (V : List RQt) (rows : List (List RC)) (l : List Nat) (f : Nat) (c : Rat) (m : Bool) : Rat := lsV (vsL V (lfL rows l f c m)) + lsV (vsL V (rgL rows l f c m))
def few2 (rows : List (List RC)) (l : List Nat) (lst : Int) (f : Nat) (c : Rat) (m : Bool) : Bool := decide (((lfL rows l f c m).length : Int) < lst) || decide (((rgL rows l f c m).length : Int) < lst)
def tkP (x : Cand) : Option Cand → Option Cand
 | none => some x
 | some r => if x.2.2.2 < r.2.2.2 then some x else some r
def stepP (V : List RQt) (rows : List (List RC)) (l : List Nat) (lst : Int) (o : Option Cand) (f : Nat) (c : Rat) (m : Bool) : Option Cand :=
 if few2 rows l lst f c m then o else tkP (f,c,m,splV V rows l f c m) o
def OkO (o : Option Cand) : Prop := ∀ r,o = some r → sq r.2.2.2 ≤ 10000000
theorem filt_in {p : Nat → Bool} {l : List Nat} {n : Nat} (h : InX l n) : InX (l.filter p) n := fun x hx => h x (List.mem_filter.1 hx).1
theorem ls_part {V : List RQt} {l : List Nat} {k : Nat} {p : Nat → Bool} (hk : k ≤ 1000) (h1k : 1 ≤ k) (hV : SmL V k) (hl : InX l V.length) (hn : l.length ≤ 900) : sq (lsV (vsL V (l.filter p))) ≤ 4000000 := by
 have h1 := lsV_sq (vsL_all hV h1k (filt_in (p := p) hl)) (by rw [vsL_len]; have := List.length_filter_le p l; omega)
 rw [vsL_len] at h1
 have h0 : (l.filter p).length ≤ 900 := zE (List.length_filter_le _ _) hn
 have h2 := len_mul h0 (show 2 * k + 1 ≤ 2001 by omega)
 have h3 := len_mul h0 (show k + 1 ≤ 1001 by omega)
 omega
theorem splV_sq {V : List RQt} {rows : List (List RC)} {l : List Nat} {f : Nat} {c : Rat} {m : Bool} {k : Nat} (hk : k ≤ 1000) (h1k : 1 ≤ k) (hV : SmL V k) (hl : InX l V.length) (hn : l.length ≤ 900) : sq (splV V rows l f c m) ≤ 8000001 := by
 have h1 := ls_part (p := fun j => goV c m (cellD rows f j)) hk h1k hV hl hn
 have h2 := ls_part (p := fun j => !goV c m (cellD rows f j)) hk h1k hV hl hn
 have h3 := sq_add (lsV (vsL V (lfL rows l f c m))) (lsV (vsL V (rgL rows l f c m)))
 unfold splV
 unfold lfL rgL at *
 omega
theorem stepP_ok {V : List RQt} {rows : List (List RC)} {l : List Nat} {lst : Int} {o : Option Cand} {f : Nat} {c : Rat} {m : Bool} {k : Nat} (hk : k ≤ 1000) (h1k : 1 ≤ k) (hV : SmL V k) (hl : InX l V.length) (hn : l.length ≤ 900) (ho : OkO o) : OkO (stepP V rows l lst o f c m) := by
 have h1 := splV_sq (rows := rows) (f := f) (c := c) (m := m) hk h1k hV hl hn
 intro r hr
 unfold stepP at hr
 split at hr
 ·exact ho r hr
 ·cases o with
  | none => cases hr; exact zE h1 (by omega)
  | some r' =>
   have hr : (if splV V rows l f c m < r'.2.2.2 then some (f,c,m,splV V rows l f c m) else some r') = some r := hr
   split at hr
   ·cases hr; exact zE h1 (by omega)
   ·exact ho r hr
theorem best_r2 {V : List RQt} {rows : List (List RC)} {l : List Nat} {fe dep lst : Int} {o : Option Cand} {f : Nat} {c : Rat} {k i : Nat} {n t28 t29 : Int} {t27 : List (List AV)} (hk : k ≤ 1000) (h1k : 1 ≤ k) (hV : SmL V k) (hVl : V.length ≤ 900) (hl : InX l V.length) (hr : rows.length ≤ 1000) (hw : WfD rows f l k) (hn : l.length ≤ 900) (hc : sq c ≤ k) (ho : OkO o) (hi : i < 2) :
  LP FF [(6,1),(8,1),(1,0),(3,0),(5,0),(9,0),(10,0),(12,0),(20,0),(21,0),(27,0),(28,0),(29,0),(33,0),(34,0)] [(6,1),(8,1),(1,0),(3,0),(5,0),(9,0),(10,0),(20,0),(21,0),(27,0),(28,0),(29,0)] b255_2 [.ownp (eSp 0 dQ false dQ),.ownp (spO o),.l 1 (l.map eX),.tp [(AV.i .i64 fe),.l 1 (rows.map eRw),.l 3 (V.map eQ)] 0,.tp [(AV.i .i64 dep),(AV.i .i64 lst)] 0,.b o.isSome,(AV.i .i64 ((f : Int))),.tp (eQ (rQ c)) 0,(AV.i .i64 n),(AV.i .i64 ((f : Int))),.l 3 t27,(AV.i .i64 t28),(AV.i .i64 t29),.agg [.b true,.b false],(AV.i .i64 ((i : Int)))] =
  LP FF [(6,1),(8,1),(1,0),(3,0),(5,0),(9,0),(10,0),(12,0),(20,0),(21,0),(27,0),(28,0),(29,0),(33,0),(34,0)] [(6,1),(8,1),(1,0),(3,0),(5,0),(9,0),(10,0),(20,0),(21,0),(27,0),(28,0),(29,0)] b255_2 [.ownp (eSp 0 dQ false dQ),.ownp (spO (stepP V rows l lst o f c (decide (i = 0)))),.l 1 (l.map eX),.tp [(AV.i .i64 fe),.l 1 (rows.map eRw),.l 3 (V.map eQ)] 0,.tp [(AV.i .i64 dep),(AV.i .i64 lst)] 0,.b (stepP V rows l lst o f c (decide (i = 0))).isSome,(AV.i .i64 ((f : Int))),.tp (eQ (rQ c)) 0,(AV.i .i64 n),(AV.i .i64 ((f : Int))),.l 3 t27,(AV.i .i64 t28),(AV.i .i64 t29),.agg [.b true,.b false],(AV.i .i64 (((i + 1 : Nat) : Int)))] := by
 have hm : ∃ m : Bool,m = decide (i = 0) := ⟨_,rfl⟩
 obtain ⟨m,hm⟩ := hm
 rw [← hm]
 have p1 := parted_c (fe := fe) (f := f) (c := rQ c) (ls := dQ) (m := m) (es := V.map eQ) (k := k) (by omega) (sm_cq hc) hr hw (by omega)
 rw [vQ_rQ] at p1
 change R FF 256 _ = some (AV.tup [AV.l 1 ((lfL rows l f c m).map eX),AV.l 1 ((rgL rows l f c m).map eX)]) at p1
 have hA : InX (lfL rows l f c m) V.length := filt_in hl
 have hB : InX (rgL rows l f c m) V.length := filt_in hl
 have nA : (lfL rows l f c m).length ≤ 900 := zE (List.length_filter_le _ _) hn
 have nB : (rgL rows l f c m).length ≤ 900 := zE (List.length_filter_le _ _) hn
 have zA : sq (lsV (vsL V (lfL rows l f c m))) ≤ 4000000 := ls_part hk h1k hV hl hn
 have zB : sq (lsV (vsL V (rgL rows l f c m))) ≤ 4000000 := ls_part hk h1k hV hl hn
 have g1 := gof_c (f := fe) (rows := rows.map eRw) (k := k) (by omega) h1k hV (by omega) hA (by omega)
 have g2 := sloss_c (X := vsL V (lfL rows l f c m)) (k := k) (by omega) (vsL_all hV h1k hA) (by rw [vsL_len]; omega)
 have g3 := gof_c (f := fe) (rows := rows.map eRw) (k := k) (by omega) h1k hV (by omega) hB (by omega)
 have g4 := sloss_c (X := vsL V (rgL rows l f c m)) (k := k) (by omega) (vsL_all hV h1k hB) (by rw [vsL_len]; omega)
 rw [vsL_len] at g2 g4
 have g5 := qadd_cc zA zB (by omega) (by omega)
 have zS := splV_sq (rows := rows) (f := f) (c := c) (m := m) hk h1k hV hl hn
 have eS : splV V rows l f c m = lsV (vsL V (lfL rows l f c m)) + lsV (vsL V (rgL rows l f c m)) := rfl
 have hst : stepP V rows l lst o f c m = if few2 rows l lst f c m then o else tkP (f,c,m,splV V rows l f c m) o := rfl
 have hf2 : few2 rows l lst f c m = (decide (((lfL rows l f c m).length : Int) < lst) || decide (((rgL rows l f c m).length : Int) < lst)) := rfl
 rw [← eS] at g5
 rw [hf2] at hst
 generalize stepP V rows l lst o f c m = st at *
 generalize hS : splV V rows l f c m = S at *
 generalize sR (vsL V (lfL rows l f c m)) = sA at *
 generalize pR (vsL V (lfL rows l f c m)) = pA at *
 generalize lsV (vsL V (lfL rows l f c m)) = lA at *
 generalize sR (vsL V (rgL rows l f c m)) = sB at *
 generalize pR (vsL V (rgL rows l f c m)) = pB at *
 generalize lsV (vsL V (rgL rows l f c m)) = lB at *
 generalize lfL rows l f c m = A at *
 generalize rgL rows l f c m = B at *
 have e2 : IntKind.i64.wrap ((i : Int) + 1) = ((i + 1 : Nat) : Int) := w64succ (by omega)
 have c1 : (i : Int) < 2 := by omega
 have w1 : IntKind.i64.wrap 1 = 1 := by decide
 have w2 : IntKind.i64.wrap 2 = 2 := by decide
 have z0 : ((0 : Nat) : Int) = 0 := rfl
 have z1 : ((0 + 1 : Nat) : Int) = 1 := rfl
 have z2 : ((1 : Nat) : Int) = 1 := rfl
 have z3 : ((1 + 1 : Nat) : Int) = 2 := rfl
 have him : (i = 0 ∧ m = true) ∨ (i = 1 ∧ m = false) := by
  rcases (show i = 0 ∨ i = 1 by omega) with rfl | rfl
  ·exact .inl ⟨rfl,hm⟩
  ·exact .inr ⟨rfl,hm⟩
 clear hm
 obtain ⟨z,oc,om,ol,ez⟩ := spO_form o
 by_cases hcA : (A.length : Int) < lst
 ·rw [if_pos (by rw [decide_eq_true hcA]; rfl)] at hst
  subst hst
  rw [ez]
  rcases him with ⟨rfl,rfl⟩ | ⟨rfl,rfl⟩
  ·rw [z1,z0]
   simp only [eSp,eQ,rQ,zR] at p1 ⊢
   rw [LP_go FF b255_2.eq_1]
   simp only [RB,RL,un,St.none,za,zd,ze,zf,zb,zj,zk,zm,zn,zc,zg,zh,zi,↓reduceIte,reduceCtorEq,pack,pid,parN,lid,chkK,apartV,Heap.none,w1,w2,p1,hcA,eX_rules,eX_row,n64,e2]
  ·rw [z3,z2]
   simp only [eSp,eQ,rQ,zR] at p1 ⊢
   rw [LP_go FF b255_2.eq_1]
   simp only [RB,RL,un,St.none,za,zd,ze,zf,zb,zj,zk,zm,zn,zc,zg,zh,zi,↓reduceIte,reduceCtorEq,pack,pid,parN,lid,chkK,apartV,Heap.none,w1,w2,p1,hcA,eX_rules,eX_row,n64,e2]
 by_cases hcB : (B.length : Int) < lst
 ·rw [if_pos (by rw [decide_eq_true hcB,Bool.or_true])] at hst
  subst hst
  rw [ez]
  rcases him with ⟨rfl,rfl⟩ | ⟨rfl,rfl⟩
  ·rw [z1,z0]
   simp only [eSp,eQ,rQ,zR] at p1 ⊢
   rw [LP_go FF b255_2.eq_1]
   simp only [RB,RL,un,St.none,za,zd,ze,zf,zb,zj,zk,zm,zn,zc,zg,zh,zi,↓reduceIte,reduceCtorEq,pack,pid,parN,lid,chkK,apartV,Heap.none,w1,w2,p1,hcA,hcB,eX_rules,eX_row,n64,e2]
  ·rw [z3,z2]
   simp only [eSp,eQ,rQ,zR] at p1 ⊢
   rw [LP_go FF b255_2.eq_1]
   simp only [RB,RL,un,St.none,za,zd,ze,zf,zb,zj,zk,zm,zn,zc,zg,zh,zi,↓reduceIte,reduceCtorEq,pack,pid,parN,lid,chkK,apartV,Heap.none,w1,w2,p1,hcA,hcB,eX_rules,eX_row,n64,e2]
 rw [if_neg (by rw [decide_eq_false hcA,decide_eq_false hcB]; decide)] at hst
 cases o with
 | none =>
  subst hst
  rw [show tkP (f,c,m,S) none = some (f,c,m,S) from rfl,spO_some,show spO none = eSp 0 dQ false dQ from rfl]
  rcases him with ⟨rfl,rfl⟩ | ⟨rfl,rfl⟩
  ·rw [z1,z0]
   simp only [eSp,eQ,rQ,zR,Option.isSome] at p1 ⊢
   rw [LP_go FF b255_2.eq_1]
   simp only [RB,RL,un,St.none,za,zd,ze,zf,zb,zj,zk,zm,zn,zc,zg,zh,zi,↓reduceIte,reduceCtorEq,pack,pid,parN,lid,chkK,apartV,Heap.none,w1,w2,p1,hcA,hcB,eX_rules,eX_row,n64,e2,g1,g2,g3,g4,g5]
  ·rw [z3,z2]
   simp only [eSp,eQ,rQ,zR,Option.isSome] at p1 ⊢
   rw [LP_go FF b255_2.eq_1]
   simp only [RB,RL,un,St.none,za,zd,ze,zf,zb,zj,zk,zm,zn,zc,zg,zh,zi,↓reduceIte,reduceCtorEq,pack,pid,parN,lid,chkK,apartV,Heap.none,w1,w2,p1,hcA,hcB,eX_rules,eX_row,n64,e2,g1,g2,g3,g4,g5]
 | some r =>
  obtain ⟨rf,rc,rm,rl⟩ := r
  have g6 := vcmp_c (x := rQ S) (y := rQ rl) (k := 8000001) (j := 10000000) (sm_cq zS) (sm_cq (ho _ rfl)) (by omega) (by omega)
  rw [vQ_rQ,vQ_rQ] at g6
  simp only [rQ] at g6
  by_cases hlt : S < rl
  ·have c6 := qcmp_lt.2 hlt
   rw [show tkP (f,c,m,S) (some (rf,rc,rm,rl)) = some (f,c,m,S) from if_pos hlt] at hst
   subst hst
   rw [spO_some,spO_some]
   rcases him with ⟨rfl,rfl⟩ | ⟨rfl,rfl⟩
   ·rw [z1,z0]
    simp only [eSp,eQ,rQ,zR,Option.isSome] at p1 ⊢
    rw [LP_go FF b255_2.eq_1]
    simp only [RB,RL,un,St.none,za,zd,ze,zf,zb,zj,zk,zm,zn,zc,zg,zh,zi,↓reduceIte,reduceCtorEq,pack,pid,parN,lid,chkK,apartV,Heap.none,w1,w2,p1,hcA,hcB,eX_rules,eX_row,n64,e2,g1,g2,g3,g4,g5,g6,c6]
   ·rw [z3,z2]
    simp only [eSp,eQ,rQ,zR,Option.isSome] at p1 ⊢
    rw [LP_go FF b255_2.eq_1]
    simp only [RB,RL,un,St.none,za,zd,ze,zf,zb,zj,zk,zm,zn,zc,zg,zh,zi,↓reduceIte,reduceCtorEq,pack,pid,parN,lid,chkK,apartV,Heap.none,w1,w2,p1,hcA,hcB,eX_rules,eX_row,n64,e2,g1,g2,g3,g4,g5,g6,c6]
  ·have c6 : ¬ qcmp S rl < 0 := fun h => hlt (qcmp_lt.1 h)
   rw [show tkP (f,c,m,S) (some (rf,rc,rm,rl)) = some (rf,rc,rm,rl) from if_neg hlt] at hst
   subst hst
   rw [spO_some]
   rcases him with ⟨rfl,rfl⟩ | ⟨rfl,rfl⟩
   ·rw [z1,z0]
    simp only [eSp,eQ,rQ,zR,Option.isSome] at p1 ⊢
    rw [LP_go FF b255_2.eq_1]
    simp only [RB,RL,un,St.none,za,zd,ze,zf,zb,zj,zk,zm,zn,zc,zg,zh,zi,↓reduceIte,reduceCtorEq,pack,pid,parN,lid,chkK,apartV,Heap.none,w1,w2,p1,hcA,hcB,eX_rules,eX_row,n64,e2,g1,g2,g3,g4,g5,g6,c6]
   ·rw [z3,z2]
    simp only [eSp,eQ,rQ,zR,Option.isSome] at p1 ⊢
    rw [LP_go FF b255_2.eq_1]
    simp only [RB,RL,un,St.none,za,zd,ze,zf,zb,zj,zk,zm,zn,zc,zg,zh,zi,↓reduceIte,reduceCtorEq,pack,pid,parN,lid,chkK,apartV,Heap.none,w1,w2,p1,hcA,hcB,eX_rules,eX_row,n64,e2,g1,g2,g3,g4,g5,g6,c6]
def cutP (V : List RQt) (rows : List (List RC)) (l : List Nat) (lst : Int) (f : Nat) (o : Option Cand) (c : Rat) : Option Cand := stepP V rows l lst (stepP V rows l lst o f c true) f c false
def featP (V : List RQt) (rows : List (List RC)) (l : List Nat) (lst : Int) (o : Option Cand) (f : Nat) : Option Cand := (ctV rows f l).foldl (cutP V rows l lst f) o
def bestP (V : List RQt) (rows : List (List RC)) (l : List Nat) (lst : Int) (n : Nat) : Option Cand := (zT n).foldl (featP V rows l lst) none
theorem best_l2 {V : List RQt} {rows : List (List RC)} {l : List Nat} {fe dep lst : Int} {o : Option Cand} {f : Nat} {c : Rat} {k : Nat} {n t28 t29 : Int} {t27 : List (List AV)} (hk : k ≤ 1000) (h1k : 1 ≤ k) (hV : SmL V k) (hVl : V.length ≤ 900) (hl : InX l V.length) (hr : rows.length ≤ 1000) (hw : WfD rows f l k) (hn : l.length ≤ 900) (hc : sq c ≤ k) (ho : OkO o) :
  LP FF [(6,1),(8,1),(1,0),(3,0),(5,0),(9,0),(10,0),(12,0),(20,0),(21,0),(27,0),(28,0),(29,0),(33,0),(34,0)] [(6,1),(8,1),(1,0),(3,0),(5,0),(9,0),(10,0),(20,0),(21,0),(27,0),(28,0),(29,0)] b255_2 [.ownp (eSp 0 dQ false dQ),.ownp (spO o),.l 1 (l.map eX),.tp [(AV.i .i64 fe),.l 1 (rows.map eRw),.l 3 (V.map eQ)] 0,.tp [(AV.i .i64 dep),(AV.i .i64 lst)] 0,.b o.isSome,(AV.i .i64 ((f : Int))),.tp (eQ (rQ c)) 0,(AV.i .i64 n),(AV.i .i64 ((f : Int))),.l 3 t27,(AV.i .i64 t28),(AV.i .i64 t29),.agg [.b true,.b false],(AV.i .i64 0)] =
  some (.exit 4,[.ownp (eSp 0 dQ false dQ),.ownp (spO (cutP V rows l lst f o c)),.l 1 (l.map eX),.tp [(AV.i .i64 fe),.l 1 (rows.map eRw),.l 3 (V.map eQ)] 0,.tp [(AV.i .i64 dep),(AV.i .i64 lst)] 0,.b (cutP V rows l lst f o c).isSome,(AV.i .i64 ((f : Int))),(AV.i .i64 n),(AV.i .i64 ((f : Int))),.l 3 t27,(AV.i .i64 t28),(AV.i .i64 t29)]) := by
 have h1 := best_r2 (fe := fe) (dep := dep) (lst := lst) (o := o) (f := f) (c := c) (i := 0) (n := n) (t27 := t27) (t28 := t28) (t29 := t29) hk h1k hV hVl hl hr hw hn hc ho (by omega)
 have h2 := best_r2 (fe := fe) (dep := dep) (lst := lst) (o := stepP V rows l lst o f c true) (f := f) (c := c) (i := 1) (n := n) (t27 := t27) (t28 := t28) (t29 := t29) hk h1k hV hVl hl hr hw hn hc (stepP_ok hk h1k hV hl hn ho) (by omega)
 have e : stepP V rows l lst (stepP V rows l lst o f c true) f c false = cutP V rows l lst f o c := rfl
 rw [show (decide (0 = 0)) = true from rfl,zI] at h1
 rw [show (decide (1 = 0)) = false from rfl,e] at h2
 rw [h1,h2]
 generalize cutP V rows l lst f o c = o' at *
 obtain ⟨z,oc,om,ol,ez⟩ := spO_form o'
 rw [ez,show ((1 + 1 : Nat) : Int) = 2 from rfl]
 simp only [eSp,eQ,rQ,zR]
 rw [LP_go FF b255_2.eq_1]
 simp only [RB,RL,un,St.none,za,zd,ze,zf,zb,zj,zk,zm,zn,zc,zg,zh,zi,↓reduceIte,reduceCtorEq,pack,pid,parN,lid,chkK,apartV,Heap.none,eX_rules,eX_row]
theorem foldP_ok {V : List RQt} {rows : List (List RC)} {l : List Nat} {lst : Int} {f k : Nat} (hk : k ≤ 1000) (h1k : 1 ≤ k) (hV : SmL V k) (hl : InX l V.length) (hn : l.length ≤ 900) : ∀ (cs : List Rat) (o : Option Cand),OkO o → OkO (cs.foldl (cutP V rows l lst f) o) := by
 intro cs
 induction cs with
 | nil => intro o ho; exact ho
 | cons c cs ih => intro o ho; exact ih _ (stepP_ok hk h1k hV hl hn (stepP_ok hk h1k hV hl hn ho))
theorem drop_foldR {β : Type} {g : β → Rat → β} {l : List Rat} {i : Nat} (o : β) (h : i < l.length) : (l.drop i).foldl g o = (l.drop (i + 1)).foldl g (g o (l.getD i 0)) := by
 rw [List.drop_eq_getElem_cons h,List.foldl_cons,zo,zr h]; rfl
theorem best_l1 {V : List RQt} {rows : List (List RC)} {l : List Nat} {fe dep lst : Int} {f : Nat} {k : Nat} {n : Int} {cs : List Rat} (hk : k ≤ 1000) (h1k : 1 ≤ k) (hV : SmL V k) (hVl : V.length ≤ 900) (hl : InX l V.length) (hr : rows.length ≤ 1000) (hw : WfD rows f l k) (hn : l.length ≤ 900) (hc : AllQ cs k) (hcl : cs.length ≤ 1000) : ∀ (d j : Nat) (o : Option Cand),j + d = cs.length → OkO o →
  LP FF [(6,1),(8,1),(1,0),(3,0),(5,0),(9,0),(10,0),(20,0),(21,0),(27,0),(28,0),(29,0)] [(6,1),(8,1),(1,0),(3,0),(5,0),(9,0),(20,0),(21,0)] b255_1 [.ownp (eSp 0 dQ false dQ),.ownp (spO o),.l 1 (l.map eX),.tp [(AV.i .i64 fe),.l 1 (rows.map eRw),.l 3 (V.map eQ)] 0,.tp [(AV.i .i64 dep),(AV.i .i64 lst)] 0,.b o.isSome,(AV.i .i64 ((f : Int))),(AV.i .i64 n),(AV.i .i64 ((f : Int))),(AV.l 3 (List.map eQ (List.map rQ cs))),(AV.i .i64 ((cs.length : Int))),(AV.i .i64 ((j : Int)))] =
  some (.exit 2,[.ownp (eSp 0 dQ false dQ),.ownp (spO ((cs.drop j).foldl (cutP V rows l lst f) o)),.l 1 (l.map eX),.tp [(AV.i .i64 fe),.l 1 (rows.map eRw),.l 3 (V.map eQ)] 0,.tp [(AV.i .i64 dep),(AV.i .i64 lst)] 0,.b ((cs.drop j).foldl (cutP V rows l lst f) o).isSome,(AV.i .i64 n),(AV.i .i64 ((f : Int)))]) := by
 intro d
 induction d with
 | zero =>
  intro j o hj ho
  rw [zW (by omega)]
  obtain ⟨z,oc,om,ol,ez⟩ := spO_form o
  rw [List.foldl_nil,ez]
  have c1 : ¬ (j : Int) < (cs.length : Int) := by omega
  simp only [eSp,zR]
  rw [LP_go FF b255_1.eq_1]
  simp only [RB,RL,un,St.none,za,zd,ze,zf,zb,zj,zk,zm,zn,zc,zg,zh,zi,↓reduceIte,reduceCtorEq,pack,pid,parN,lid,chkK,apartV,Heap.none,c1,eX_rules,eX_row,eQ_rules,eQ_row]
 | succ d ih =>
  intro j o hj ho
  have hlt : j < cs.length := by omega
  rw [drop_foldR o hlt]
  have hcj : sq (cs.getD j 0) ≤ k := hc _ (getD_mem' 0 hlt)
  have h9 := ih (j + 1) (cutP V rows l lst f o (cs.getD j 0)) (by omega) (stepP_ok hk h1k hV hl hn (stepP_ok hk h1k hV hl hn ho))
  have l2 := best_l2 (fe := fe) (dep := dep) (lst := lst) (o := o) (f := f) (c := cs.getD j 0) (n := n) (t27 := (cs.map rQ).map eQ) (t28 := (cs.length : Int)) (t29 := (j : Int)) hk h1k hV hVl hl hr hw hn hcj ho
  generalize (cs.drop (j + 1)).foldl (cutP V rows l lst f) (cutP V rows l lst f o (cs.getD j 0)) = res at *
  generalize cutP V rows l lst f o (cs.getD j 0) = o' at *
  obtain ⟨z,oc,om,ol,ez⟩ := spO_form o
  obtain ⟨z',oc',om',ol',ez'⟩ := spO_form o'
  rw [ez] at l2 ⊢
  rw [ez'] at l2 h9
  have c1 : (j : Int) < (cs.length : Int) := by omega
  have hlen : (cs.map rQ).length = cs.length := zC ..
  have hg := getD_map_rQ cs j hlt
  have e2 : IntKind.i64.wrap ((j : Int) + 1) = ((j + 1 : Nat) : Int) := w64succ (by omega)
  simp only [eSp,eQ,rQ,zR] at l2 h9 ⊢
  rw [LP_go FF b255_1.eq_1]
  simp only [RB,RL,un,St.none,za,zd,ze,zf,zb,zj,zk,zm,zn,zc,zg,zh,zi,↓reduceIte,reduceCtorEq,pack,pid,parN,lid,chkK,apartV,Heap.none,c1,hlen,hg,rQ,eX_rules,eX_row,eQ_rules,eQ_row,zq,e2,l2]
  exact h9
theorem cutF_fold {rows : List (List RC)} {f : Nat} {k : Nat} (h1k : 1 ≤ k) : ∀ (l : List Nat) (o : List Rat),WfD rows f l k → AllQ o k → AllQ (l.foldl (cutF rows f) o) k ∧ (l.foldl (cutF rows f) o).length ≤ o.length + l.length := by
 intro l
 induction l with
 | nil => intro o _ ho; exact ⟨ho,zz _⟩
 | cons i l ih =>
  intro o hw ho
  have hi := hw i (zG ..)
  have h1 : AllQ (cutF rows f o i) k := by
   unfold cutF
   split
   ·exact ho
   ·exact insV_all ho (vQ_sq hi.2.2 h1k)
  have h2 : (cutF rows f o i).length ≤ o.length + 1 := by
   unfold cutF
   split
   ·omega
   ·exact insV_len _ _
  have h3 := ih (cutF rows f o i) (fun j hj => hw j (zH _ hj)) h1
  refine ⟨h3.1,zE h3.2 ?_⟩
  rw [zF]; omega
theorem ctV_ok {rows : List (List RC)} {f : Nat} {l : List Nat} {k : Nat} (h1k : 1 ≤ k) (hw : WfD rows f l k) : AllQ (ctV rows f l) k ∧ (ctV rows f l).length ≤ l.length := by
 have h := cutF_fold h1k l [] hw (fun _ h => (zY h).elim)
 refine ⟨fun x hx => h.1 x (List.mem_of_mem_drop hx),?_⟩
 unfold ctV
 rw [jd]
 have := h.2
 rw [List.length_nil] at this
 omega
theorem featP_ok {V : List RQt} {rows : List (List RC)} {l : List Nat} {lst : Int} {k : Nat} (hk : k ≤ 1000) (h1k : 1 ≤ k) (hV : SmL V k) (hl : InX l V.length) (hn : l.length ≤ 900) {o : Option Cand} {f : Nat} (ho : OkO o) : OkO (featP V rows l lst o f) := foldP_ok hk h1k hV hl hn _ o ho
theorem range_snoc_fold {β : Type} {g : β → Nat → β} {b : β} (n : Nat) : (zT (n + 1)).foldl g b = g ((zT n).foldl g b) n := by rw [List.range_succ,List.foldl_append]; rfl
theorem best_l0 {V : List RQt} {rows : List (List RC)} {l : List Nat} {fe dep lst : Int} {k n : Nat} (hk : k ≤ 1000) (h1k : 1 ≤ k) (hV : SmL V k) (hVl : V.length ≤ 900) (hl : InX l V.length) (hr : rows.length ≤ 1000) (hw : ∀ f,f < n → WfD rows f l k) (hn : l.length ≤ 900) (hn64 : n ≤ 1000) : ∀ (d f : Nat),f + d = n → OkO ((zT f).foldl (featP V rows l lst) none) →
  LP FF [(6,1),(8,1),(1,0),(3,0),(5,0),(9,0),(20,0),(21,0)] [(6,1),(8,0),(9,0)] b255_0 [.ownp (eSp 0 dQ false dQ),.ownp (spO ((zT f).foldl (featP V rows l lst) none)),.l 1 (l.map eX),.tp [(AV.i .i64 fe),.l 1 (rows.map eRw),.l 3 (V.map eQ)] 0,.tp [(AV.i .i64 dep),(AV.i .i64 lst)] 0,.b ((zT f).foldl (featP V rows l lst) none).isSome,(AV.i .i64 ((n : Int))),(AV.i .i64 ((f : Int)))] =
  some (.exit 0,[.ownp (eSp 0 dQ false dQ),.tp (spO (bestP V rows l lst n)) 0,.b (bestP V rows l lst n).isSome]) := by
 intro d
 induction d with
 | zero =>
  intro f hf ho
  have hf' : f = n := by omega
  subst hf'
  have c1 : ¬ (f : Int) < (f : Int) := by omega
  unfold bestP
  generalize (zT f).foldl (featP V rows l lst) none = o at *
  obtain ⟨z,oc,om,ol,ez⟩ := spO_form o
  rw [ez]
  simp only [eSp,zR]
  rw [LP_go FF b255_0.eq_1]
  simp only [RB,RL,un,St.none,za,zd,ze,zf,zb,zj,zk,zm,zn,zc,zg,zh,zi,↓reduceIte,reduceCtorEq,pack,pid,parN,lid,chkK,apartV,Heap.none,c1,eX_rules,eX_row]
 | succ d ih =>
  intro f hf ho
  have hlt : f < n := by omega
  have hwf := hw f hlt
  have h8 := featP_ok (V := V) (rows := rows) (l := l) (lst := lst) (f := f) hk h1k hV hl hn ho
  have h9 := ih (f + 1) (by omega) (by rw [range_snoc_fold]; exact h8)
  rw [range_snoc_fold] at h9
  have ct := ctV_ok h1k hwf
  have f1 := cuts_c (fe := fe) (es := V.map eQ) (k := k) (by omega) h1k hr hwf hn
  have l1 := best_l1 (fe := fe) (dep := dep) (lst := lst) (n := (n : Int)) (f := f) hk h1k hV hVl hl hr hwf hn ct.1 (by omega) (ctV rows f l).length 0 _ (by omega) ho
  rw [zI,List.drop_zero] at l1
  change LP FF [(6,1),(8,1),(1,0),(3,0),(5,0),(9,0),(10,0),(20,0),(21,0),(27,0),(28,0),(29,0)] [(6,1),(8,1),(1,0),(3,0),(5,0),(9,0),(20,0),(21,0)] b255_1 _ = some (Ex.exit 2,[_,AV.ownp (spO (featP V rows l lst ((zT f).foldl (featP V rows l lst) none) f)),_,_,_,AV.b (featP V rows l lst ((zT f).foldl (featP V rows l lst) none) f).isSome,_,_]) at l1
  generalize featP V rows l lst ((zT f).foldl (featP V rows l lst) none) f = o' at *
  generalize (zT f).foldl (featP V rows l lst) none = o at *
  generalize bestP V rows l lst n = res at *
  have hlen : ((ctV rows f l).map rQ).length = (ctV rows f l).length := zC ..
  generalize ctV rows f l = cs at *
  obtain ⟨z,oc,om,ol,ez⟩ := spO_form o
  obtain ⟨z',oc',om',ol',ez'⟩ := spO_form o'
  rw [ez] at l1 ⊢
  rw [ez'] at l1 h9
  have c1 : (f : Int) < (n : Int) := by omega
  have e2 : IntKind.i64.wrap ((f : Int) + 1) = ((f + 1 : Nat) : Int) := w64succ (by omega)
  simp only [eSp,zR] at l1 h9 ⊢
  rw [LP_go FF b255_0.eq_1]
  simp only [RB,RL,un,St.none,za,zd,ze,zf,zb,zj,zk,zm,zn,zc,zg,zh,zi,↓reduceIte,reduceCtorEq,pack,pid,parN,lid,chkK,apartV,Heap.none,c1,hlen,eX_rules,eX_row,eQ_rules,eQ_row,zq,e2,f1,l1]
  exact h9
theorem best_c {V : List RQt} {rows : List (List RC)} {l : List Nat} {dep lst : Int} {k n : Nat} (hk : k ≤ 1000) (h1k : 1 ≤ k) (hV : SmL V k) (hVl : V.length ≤ 900) (hl : InX l V.length) (hr : rows.length ≤ 1000) (hw : ∀ f,f < n → WfD rows f l k) (hn : l.length ≤ 900) (hn64 : n ≤ 1000) :
  R FF 255 [.agg [(AV.i .i64 ((n : Int))),.l 1 (rows.map eRw),.l 3 (V.map eQ)],.l 1 (l.map eX),.agg [(AV.i .i64 dep),(AV.i .i64 lst)]] = some (.tup [.agg (spO (bestP V rows l lst n)),.b (bestP V rows l lst n).isSome]) := by
 have l0 := best_l0 (fe := (n : Int)) (dep := dep) (lst := lst) hk h1k hV hVl hl hr hw hn hn64 n 0 (by omega) (fun r h => by cases h)
 rw [List.range_zero,List.foldl_nil,show spO none = eSp 0 dQ false dQ from rfl,zI] at l0
 generalize bestP V rows l lst n = res at *
 obtain ⟨z,oc,om,ol,ez⟩ := spO_form res
 rw [ez] at l0 ⊢
 simp only [eSp,zR,Option.isSome] at l0 ⊢
 rw [R_go FF F255 c255.eq_1]
 simp only [RB,RL,un,St.none,za,zd,ze,zf,zb,zj,zk,zm,zn,zc,zg,zh,zi,↓reduceIte,reduceCtorEq,pack,pid,parN,lid,chkK,apartV,Heap.none,l0,n64,eX_rules,eX_row]
theorem qcmp_zero {x y : Rat} : qcmp x y = 0 ↔ x = y := by
 have h1 := qcmp_lt (x := x) (y := y)
 have h2 := qcmp_gt (x := x) (y := y)
 constructor
 ·intro h
  have a : ¬ x < y := fun k => by have := h1.2 k; omega
  have b : ¬ y < x := fun k => by have := h2.2 k; omega
  grind
 ·intro h
  have a : ¬ qcmp x y < 0 := fun k => by have := h1.1 k; grind
  have b : ¬ 0 < qcmp x y := fun k => by have := h2.1 k; grind
  omega
def isA (rows : List (List RC)) (f : Nat) (c : Rat) (j : Nat) : Bool := !(cellD rows f j).1 && decide (vQ (cellD rows f j).2 = c)
def ltA (rows : List (List RC)) (f : Nat) (c : Rat) (j : Nat) : Bool := !(cellD rows f j).1 && decide (vQ (cellD rows f j).2 < c)
def alV (rows : List (List RC)) (l : List Nat) (lst : Int) (f : Nat) (c : Rat) (m : Bool) : Bool := l.any (isA rows f c) && l.any (ltA rows f c) && !few2 rows l lst f c m
theorem allowed_l0 {fe lst : Int} {f : Nat} {c ls : RQt} {m : Bool} {rows : List (List RC)} {es : List (List AV)} {l : List Nat} {k : Nat} (hk : k ≤ 1000000) (hc : SmQ c k) (hr : rows.length ≤ 1000) (hw : WfD rows f l k) (hn : l.length ≤ 1000) : ∀ (d i : Nat) (a b : Bool),i + d = l.length →
  LP FF [(1,0),(3,0),(4,0),(6,0),(9,0),(10,0),(11,0)] [(1,0),(3,0),(4,0),(6,0),(9,0),(10,0)] b281_0 [.l 1 (l.map eX),(AV.i .i64 lst),.tp [(AV.i .i64 fe),.l 1 (rows.map eRw),.l 3 es] 0,.tp (eSp f c m ls) 0,.b a,.b b,(AV.i .i64 ((i : Int)))] =
   some (.exit 0,[.l 1 (l.map eX),(AV.i .i64 lst),.tp [(AV.i .i64 fe),.l 1 (rows.map eRw),.l 3 es] 0,.tp (eSp f c m ls) 0,.b (a || (l.drop i).any (isA rows f (vQ c))),.b (b || (l.drop i).any (ltA rows f (vQ c)))]) := by
 intro d
 induction d with
 | zero =>
  intro i a b hi
  rw [zW (by omega)]
  have c1 : ¬ (i : Int) < (l.length : Int) := by omega
  rw [List.any_nil,List.any_nil,Bool.or_false,Bool.or_false]
  simp only [eSp]
  rw [LP_go FF b281_0.eq_1]
  simp only [RB,RL,un,St.none,za,zd,ze,zf,zb,zj,zk,zm,zn,zc,zg,zh,zi,↓reduceIte,reduceCtorEq,pack,pid,parN,lid,chkK,apartV,Heap.none,c1,eX_rules,eX_row]
 | succ d ih =>
  intro i a b hi
  have hlt : i < l.length := by omega
  obtain ⟨w1,w2,w3⟩ := hw _ (getD_mem' 0 hlt)
  rw [any_drop 0 hlt,any_drop 0 hlt,← Bool.or_assoc,← Bool.or_assoc]
  have f1 := vcmp_c (x := (cellD rows f (l.getD i 0)).2) (y := c) (k := k) (j := k) w3 hc (by omega) (by omega)
  have h9 := ih (i + 1) (a || isA rows f (vQ c) (l.getD i 0)) (b || ltA rows f (vQ c) (l.getD i 0)) (by omega)
  have c1 : (i : Int) < (l.length : Int) := by omega
  have c2 : ((l.getD i 0 : Nat) : Int) < (rows.length : Int) := by omega
  have c3 : (f : Int) < ((rows.getD (l.getD i 0) []).length : Int) := by omega
  have e2 : IntKind.i64.wrap ((i : Int) + 1) = ((i + 1 : Nat) : Int) := w64succ (by omega)
  have ea : isA rows f (vQ c) (l.getD i 0) = (!(cellD rows f (l.getD i 0)).1 && decide (vQ (cellD rows f (l.getD i 0)).2 = vQ c)) := rfl
  have eb : ltA rows f (vQ c) (l.getD i 0) = (!(cellD rows f (l.getD i 0)).1 && decide (vQ (cellD rows f (l.getD i 0)).2 < vQ c)) := rfl
  rw [ea,eb] at h9 ⊢
  by_cases hm : (cellD rows f (l.getD i 0)).1 = true
  ·simp only [hm,Bool.not_true,Bool.false_and,Bool.or_false] at h9 ⊢
   unfold cellD at hm
   simp only [eSp] at h9 ⊢
   rw [LP_go FF b281_0.eq_1]
   simp only [RB,RL,un,St.none,za,zd,ze,zf,zb,zj,zk,zm,zn,zc,zg,zh,zi,↓reduceIte,reduceCtorEq,pack,pid,parN,lid,chkK,apartV,Heap.none,c1,c2,c3,hm,eX_rules,eX_row,eRw_rules,eRw_row,eC_rules,eC_row,zq,e2,n64]
   exact h9
  ·have hm0 : (cellD rows f (l.getD i 0)).1 = false := by simpa using hm
   simp only [hm0,Bool.not_false,Bool.true_and] at h9 ⊢
   generalize hz : qcmp (vQ (cellD rows f (l.getD i 0)).2) (vQ c) = z at *
   have hz1 : decide (vQ (cellD rows f (l.getD i 0)).2 = vQ c) = decide (z = 0) := decide_eq_decide.2 (by rw [← hz]; exact qcmp_zero.symm)
   have hz2 : decide (vQ (cellD rows f (l.getD i 0)).2 < vQ c) = decide (z < 0) := decide_eq_decide.2 (by rw [← hz]; exact qcmp_lt.symm)
   rw [hz1,hz2] at h9 ⊢
   clear hz1 hz2 hz
   unfold cellD at hm0 f1
   simp only [eSp] at h9 ⊢
   cases a <;> cases b <;>
   (rw [LP_go FF b281_0.eq_1]
    simp only [RB,RL,un,St.none,za,zd,ze,zf,zb,zj,zk,zm,zn,zc,zg,zh,zi,↓reduceIte,reduceCtorEq,pack,pid,parN,lid,chkK,apartV,Heap.none,c1,c2,c3,hm0,eX_rules,eX_row,eRw_rules,eRw_row,eC_rules,eC_row,zq,e2,n64,f1]
    exact h9)
theorem allowed_c {fe lst : Int} {f : Nat} {c ls : RQt} {m : Bool} {rows : List (List RC)} {es : List (List AV)} {l : List Nat} {k : Nat} (hk : k ≤ 1000000) (hc : SmQ c k) (hr : rows.length ≤ 1000) (hw : WfD rows f l k) (hn : l.length ≤ 1000) :
  R FF 281 [.agg [(AV.i .i64 fe),.l 1 (rows.map eRw),.l 3 es],.l 1 (l.map eX),.agg (eSp f c m ls),(AV.i .i64 lst)] = some (.b (alV rows l lst f (vQ c) m)) := by
 have l0 := allowed_l0 (fe := fe) (lst := lst) (ls := ls) (m := m) (es := es) hk hc hr hw hn l.length 0 false false (by omega)
 rw [zI,List.drop_zero,Bool.false_or,Bool.false_or] at l0
 have p1 := parted26_c (fe := fe) (f := f) (c := c) (ls := ls) (m := m) (es := es) hk hc hr hw hn
 change R FF 282 _ = some (AV.tup [AV.l 1 ((lfL rows l f (vQ c) m).map eX),AV.l 1 ((rgL rows l f (vQ c) m).map eX)]) at p1
 have e : alV rows l lst f (vQ c) m = (l.any (isA rows f (vQ c)) && l.any (ltA rows f (vQ c)) && !(decide (((lfL rows l f (vQ c) m).length : Int) < lst) || decide (((rgL rows l f (vQ c) m).length : Int) < lst))) := rfl
 rw [e]
 generalize lfL rows l f (vQ c) m = A at *
 generalize rgL rows l f (vQ c) m = B at *
 generalize l.any (isA rows f (vQ c)) = x at *
 generalize l.any (ltA rows f (vQ c)) = y at *
 have hA : decide (lst ≤ (A.length : Int)) = !decide ((A.length : Int) < lst) := by by_cases h : (A.length : Int) < lst <;> simp [h] <;> omega
 have hB : decide (lst ≤ (B.length : Int)) = !decide ((B.length : Int) < lst) := by by_cases h : (B.length : Int) < lst <;> simp [h] <;> omega
 simp only [eSp] at l0 p1 ⊢
 cases x
 ·rw [R_go FF F281 c281.eq_1]
  simp only [RB,RL,un,St.none,za,zd,ze,zf,zb,zj,zk,zm,zn,zc,zg,zh,zi,↓reduceIte,reduceCtorEq,pack,pid,parN,lid,chkK,apartV,Heap.none,l0,p1,eX_rules,eX_row,n64]
 cases y
 ·rw [R_go FF F281 c281.eq_1]
  simp only [RB,RL,un,St.none,za,zd,ze,zf,zb,zj,zk,zm,zn,zc,zg,zh,zi,↓reduceIte,reduceCtorEq,pack,pid,parN,lid,chkK,apartV,Heap.none,l0,p1,eX_rules,eX_row,n64]
 by_cases h1 : (A.length : Int) < lst
 ·have h1' : ¬ lst ≤ (A.length : Int) := by omega
  rw [R_go FF F281 c281.eq_1]
  simp only [RB,RL,un,St.none,za,zd,ze,zf,zb,zj,zk,zm,zn,zc,zg,zh,zi,↓reduceIte,reduceCtorEq,pack,pid,parN,lid,chkK,apartV,Heap.none,l0,p1,eX_rules,eX_row,n64,h1,h1']
 ·have h1' : lst ≤ (A.length : Int) := by omega
  by_cases h2 : (B.length : Int) < lst
  ·have h2' : ¬ lst ≤ (B.length : Int) := by omega
   rw [R_go FF F281 c281.eq_1]
   simp only [RB,RL,un,St.none,za,zd,ze,zf,zb,zj,zk,zm,zn,zc,zg,zh,zi,↓reduceIte,reduceCtorEq,pack,pid,parN,lid,chkK,apartV,Heap.none,l0,p1,eX_rules,eX_row,n64,h1,h1',h2,h2']
  ·have h2' : lst ≤ (B.length : Int) := by omega
   rw [R_go FF F281 c281.eq_1]
   simp only [RB,RL,un,St.none,za,zd,ze,zf,zb,zj,zk,zm,zn,zc,zg,zh,zi,↓reduceIte,reduceCtorEq,pack,pid,parN,lid,chkK,apartV,Heap.none,l0,p1,eX_rules,eX_row,n64,h1,h1',h2,h2']
def ahV (f : Nat) (c : Rat) (m : Bool) (f' : Nat) (c' : Rat) (m' : Bool) : Bool := if f = f' then decide (c < c') || (decide (c = c') && m && !m') else decide (f < f')
theorem ahead_c {f f' : Nat} {c c' ls ls' : RQt} {m m' : Bool} {k j : Nat} (hc : SmQ c k) (hc' : SmQ c' j) (hk : k ≤ 100000000000) (hj : j ≤ 100000000000) :
  R FF 283 [.agg (eSp f c m ls),.agg (eSp f' c' m' ls')] = some (.b (ahV f (vQ c) m f' (vQ c') m')) := by
 have f1 := vcmp_c hc hc' hk hj
 have hz1 := qcmp_zero (x := vQ c) (y := vQ c')
 have hz2 := qcmp_lt (x := vQ c) (y := vQ c')
 generalize qcmp (vQ c) (vQ c') = z at *
 simp only [eSp]
 by_cases hf : f = f'
 ·subst hf
  unfold ahV
  rw [if_pos rfl]
  by_cases h1 : z < 0
  ·rw [decide_eq_true (hz2.1 h1),Bool.true_or]
   rw [R_go FF F283 c283.eq_1]
   simp only [RB,RL,un,St.none,za,zd,ze,zf,zb,zj,zk,zm,zn,zc,zg,zh,zi,↓reduceIte,reduceCtorEq,pack,pid,parN,lid,chkK,apartV,Heap.none,f1,h1,n64]
  ·rw [decide_eq_false (fun h => h1 (hz2.2 h)),Bool.false_or]
   by_cases h2 : z = 0
   ·rw [decide_eq_true (hz1.1 h2),Bool.true_and]
    cases m <;> cases m' <;>
    (rw [R_go FF F283 c283.eq_1]
     simp only [RB,RL,un,St.none,za,zd,ze,zf,zb,zj,zk,zm,zn,zc,zg,zh,zi,↓reduceIte,reduceCtorEq,pack,pid,parN,lid,chkK,apartV,Heap.none,f1,h1,h2,n64]
     try rfl)
   ·rw [decide_eq_false (fun h => h2 (hz1.2 h)),Bool.false_and,Bool.false_and]
    rw [R_go FF F283 c283.eq_1]
    simp only [RB,RL,un,St.none,za,zd,ze,zf,zb,zj,zk,zm,zn,zc,zg,zh,zi,↓reduceIte,reduceCtorEq,pack,pid,parN,lid,chkK,apartV,Heap.none,f1,h1,h2,n64]
 ·unfold ahV
  rw [if_neg hf]
  have c1 : ¬ (f : Int) = (f' : Int) := by omega
  have c2 : decide ((f : Int) < (f' : Int)) = decide (f < f') := decide_eq_decide.2 (by omega)
  rw [R_go FF F283 c283.eq_1]
  simp only [RB,RL,un,St.none,za,zd,ze,zf,zb,zj,zk,zm,zn,zc,zg,zh,zi,↓reduceIte,reduceCtorEq,pack,pid,parN,lid,chkK,apartV,Heap.none,f1,c1,c2,n64]
end Go.Pe
