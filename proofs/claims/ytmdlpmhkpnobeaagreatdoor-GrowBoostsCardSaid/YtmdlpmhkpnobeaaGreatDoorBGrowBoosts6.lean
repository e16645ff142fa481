/- Part 6 of the texts of GrowBoosts: words, the machine's side of functions (written by a program), plain lemmas. -/
import Derived.Test.YtmdlpmhkpnobeaaGreatDoorBGrowBoosts5
set_option linter.unusedVariables false
set_option linter.unusedSimpArgs false
open Nat renaming reduceEqDiff → za, reduceLeDiff → zb, reduceAdd → zd, reduceMul → ze, reduceMod → zf, reduceLT → zj, le_refl → zz, le_trans → zE, mul_le_mul_right → zK, zero_add → zX, add_mul → zZ, lt_of_lt_of_le → je, min_eq_left → jh, lt_or_ge → jl
open Int renaming reduceToNat → zc, reduceSub → zg, reduceNeg → zh, reduceAdd → zi, reduceLT → zk, reduceLE → zm, reduceEq → zn, natCast_nonneg → zq, ofNat_zero → zI, mul_le_mul_of_nonneg_right → zJ, natAbs → zM
open List renaming getD_eq_getElem?_getD → zo, take_of_length_le → zp, getElem?_eq_getElem → zr, take_length → zt, length_append → zx, length_map → zC, length_take → zD, length_cons → zF, mem_cons_self → zG, mem_cons_of_mem → zH, replicate → zL, length_replicate → zP, take → zQ, map_nil → zR, range → zT, length_set → zU, drop_of_length_le → zW, not_mem_nil → zY, mem_singleton → ja, map_append → jb, getElem?_append_right → jc, length_drop → jd, getElem?_eq_none → jf, length_singleton → jg, take_zero → jk
open Bool renaming and_eq_true → zu, false_eq_true → ji
open Option renaming map_eq_some_iff → zw, bind_eq_some_iff → zy, bind_some → zN, map_some → jj
open Rat renaming num → zV
open Go
namespace Go.Pe
abbrev LCand := Nat × RQt × Bool × Rat
def spL (o : Option LCand) : List AV := match o with
 | none => eSp 0 dQ false dQ
 | some r => eSp r.1 r.2.1 r.2.2.1 (rQ r.2.2.2)
theorem spL_form (o : Option LCand) : ∃ z oc om ol,spL o = eSp z oc om ol := by
 cases o with
 | none => exact ⟨_,_,_,_,rfl⟩
 | some r => exact ⟨_,_,_,_,rfl⟩
theorem spL_some (r : LCand) : spL (some r) = eSp r.1 r.2.1 r.2.2.1 (rQ r.2.2.2) := rfl
def ltL (x r : LCand) : Bool := decide (x.2.2.2 < r.2.2.2) || (decide (x.2.2.2 = r.2.2.2) && ahV x.1 (vQ x.2.1) x.2.2.1 r.1 (vQ r.2.1) r.2.2.1)
def tkL (x : LCand) : Option LCand → Option LCand
 | none => some x
 | some r => if ltL x r then some x else some r
def stepL (V : List RQt) (rows : List (List RC)) (l : List Nat) (lst : Int) (o : Option LCand) (f j : Nat) (m : Bool) : Option LCand :=
 if (cellD rows f j).1 || !alV rows l lst f (vQ (cellD rows f j).2) m then o else tkL (f,(cellD rows f j).2,m,splV V rows l f (vQ (cellD rows f j).2) m) o
def OkL (k : Nat) (o : Option LCand) : Prop := ∀ r,o = some r → sq r.2.2.2 ≤ 10000000 ∧ SmQ r.2.1 k
theorem stepL_ok {V : List RQt} {rows : List (List RC)} {l : List Nat} {lst : Int} {o : Option LCand} {f j : Nat} {m : Bool} {k : Nat} (hk : k ≤ 1000) (h1k : 1 ≤ k) (hV : SmL V k) (hl : InX l V.length) (hn : l.length ≤ 900) (hj : SmQ (cellD rows f j).2 k) (ho : OkL k o) : OkL k (stepL V rows l lst o f j m) := by
 have h1 := splV_sq (rows := rows) (f := f) (c := vQ (cellD rows f j).2) (m := m) hk h1k hV hl hn
 intro r hr
 unfold stepL at hr
 split at hr
 ·exact ho r hr
 ·cases o with
  | none => cases hr; exact ⟨zE h1 (by omega),hj⟩
  | some r' =>
   have hr : (if ltL (f,(cellD rows f j).2,m,splV V rows l f (vQ (cellD rows f j).2) m) r' = true then some (f,(cellD rows f j).2,m,splV V rows l f (vQ (cellD rows f j).2) m) else some r') = some r := hr
   split at hr
   ·cases hr; exact ⟨zE h1 (by omega),hj⟩
   ·exact ho r hr
theorem best26_r2 {V : List RQt} {rows : List (List RC)} {l : List Nat} {fe lst : Int} {o : Option LCand} {f k i p : Nat} (hk : k ≤ 1000) (h1k : 1 ≤ k) (hV : SmL V k) (hVl : V.length ≤ 900) (hl : InX l V.length) (hr : rows.length ≤ 1000) (hw : WfD rows f l k) (hn : l.length ≤ 900) (ho : OkL k o) (hp : p < l.length) (hi : i < 2) :
  LP FF [(6,1),(8,1),(1,0),(2,0),(3,0),(9,0),(10,0),(11,0),(12,0)] [(6,1),(8,1),(1,0),(2,0),(3,0),(9,0),(10,0),(11,0)] b272_2 [.ownp (eSp 0 dQ false dQ),.ownp (spL o),.l 1 (l.map eX),(AV.i .i64 lst),.tp [(AV.i .i64 fe),.l 1 (rows.map eRw),.l 3 (V.map eQ)] 0,.b o.isSome,(AV.i .i64 ((f : Int))),(AV.i .i64 ((p : Int))),(AV.i .i64 ((i : Int)))] =
  LP FF [(6,1),(8,1),(1,0),(2,0),(3,0),(9,0),(10,0),(11,0),(12,0)] [(6,1),(8,1),(1,0),(2,0),(3,0),(9,0),(10,0),(11,0)] b272_2 [.ownp (eSp 0 dQ false dQ),.ownp (spL (stepL V rows l lst o f (l.getD p 0) (decide (i = 0)))),.l 1 (l.map eX),(AV.i .i64 lst),.tp [(AV.i .i64 fe),.l 1 (rows.map eRw),.l 3 (V.map eQ)] 0,.b (stepL V rows l lst o f (l.getD p 0) (decide (i = 0))).isSome,(AV.i .i64 ((f : Int))),(AV.i .i64 ((p : Int))),(AV.i .i64 (((i + 1 : Nat) : Int)))] := by
 obtain ⟨m,hm⟩ : ∃ m : Bool,m = decide (i = 0) := ⟨_,rfl⟩
 rw [← hm]
 obtain ⟨y1,y2,y3⟩ := hw _ (getD_mem' 0 hp)
 obtain ⟨c,hc⟩ : ∃ c : RC,c = cellD rows f (l.getD p 0) := ⟨_,rfl⟩
 rw [← hc] at y3
 have p1 := parted26_c (fe := fe) (f := f) (c := c.2) (ls := dQ) (m := m) (es := V.map eQ) (k := k) (by omega) y3 hr hw (by omega)
 change R FF 282 _ = some (AV.tup [AV.l 1 ((lfL rows l f (vQ c.2) m).map eX),AV.l 1 ((rgL rows l f (vQ c.2) m).map eX)]) at p1
 have a1 := allowed_c (fe := fe) (lst := lst) (f := f) (c := c.2) (ls := dQ) (m := m) (es := V.map eQ) (k := k) (by omega) y3 hr hw (by omega)
 have hA : InX (lfL rows l f (vQ c.2) m) V.length := filt_in hl
 have hB : InX (rgL rows l f (vQ c.2) m) V.length := filt_in hl
 have nA : (lfL rows l f (vQ c.2) m).length ≤ 900 := zE (List.length_filter_le _ _) hn
 have nB : (rgL rows l f (vQ c.2) m).length ≤ 900 := zE (List.length_filter_le _ _) hn
 have zA : sq (lsV (vsL V (lfL rows l f (vQ c.2) m))) ≤ 4000000 := ls_part hk h1k hV hl hn
 have zB : sq (lsV (vsL V (rgL rows l f (vQ c.2) m))) ≤ 4000000 := ls_part hk h1k hV hl hn
 have g1 := loss26_c (f := fe) (rows := rows.map eRw) hk h1k hV (by omega) hA (by omega)
 have g2 := loss26_c (f := fe) (rows := rows.map eRw) hk h1k hV (by omega) hB (by omega)
 have g5 := qadd_cc zA zB (by omega) (by omega)
 have zS := splV_sq (rows := rows) (f := f) (c := vQ c.2) (m := m) hk h1k hV hl hn
 have eS : splV V rows l f (vQ c.2) m = lsV (vsL V (lfL rows l f (vQ c.2) m)) + lsV (vsL V (rgL rows l f (vQ c.2) m)) := rfl
 have hst : stepL V rows l lst o f (l.getD p 0) m = if (cellD rows f (l.getD p 0)).1 || !alV rows l lst f (vQ (cellD rows f (l.getD p 0)).2) m then o else tkL (f,(cellD rows f (l.getD p 0)).2,m,splV V rows l f (vQ (cellD rows f (l.getD p 0)).2) m) o := rfl
 rw [← hc] at hst
 rw [← eS] at g5
 generalize stepL V rows l lst o f (l.getD p 0) m = st at *
 generalize hS : splV V rows l f (vQ c.2) m = S at *
 generalize lsV (vsL V (lfL rows l f (vQ c.2) m)) = lA at *
 generalize lsV (vsL V (rgL rows l f (vQ c.2) m)) = lB at *
 generalize lfL rows l f (vQ c.2) m = A at *
 generalize rgL rows l f (vQ c.2) m = B at *
 generalize alV rows l lst f (vQ c.2) m = al at *
 have w1 : IntKind.i64.wrap 1 = 1 := by decide
 have w2 : IntKind.i64.wrap 2 = 2 := by decide
 have z0 : ((0 : Nat) : Int) = 0 := rfl
 have z1 : ((0 + 1 : Nat) : Int) = 1 := rfl
 have z2 : ((1 : Nat) : Int) = 1 := rfl
 have z3 : ((1 + 1 : Nat) : Int) = 2 := rfl
 have c1 : (p : Int) < (l.length : Int) := by omega
 have c2 : ((l.getD p 0 : Nat) : Int) < (rows.length : Int) := by omega
 have c3 : (f : Int) < ((rows.getD (l.getD p 0) []).length : Int) := by omega
 unfold cellD at hc
 have him : (i = 0 ∧ m = true) ∨ (i = 1 ∧ m = false) := by
  rcases (show i = 0 ∨ i = 1 by omega) with rfl | rfl
  ·exact .inl ⟨rfl,hm⟩
  ·exact .inr ⟨rfl,hm⟩
 clear hm
 obtain ⟨cm,cq,cl,cd⟩ := c
 have hc' := hc.symm
 obtain ⟨z,oc,om,ol,ez⟩ := spL_form o
 cases cm with
 | true =>
  replace hst : st = o := hst
  subst hst
  rw [ez]
  rcases him with ⟨rfl,rfl⟩ | ⟨rfl,rfl⟩
  ·rw [z1,z0]
   simp only [eSp,eQ,rQ,zR] at p1 a1 ⊢
   rw [LP_go FF b272_2.eq_1]
   simp only [RB,RL,un,St.none,za,zd,ze,zf,zb,zj,zk,zm,zn,zc,zg,zh,zi,↓reduceIte,reduceCtorEq,pack,pid,parN,lid,chkK,apartV,Heap.none,w1,w2,c1,c2,c3,hc',eX_rules,eX_row,eRw_rules,eRw_row,eC_rules,eC_row,zq,n64]
  ·rw [z3,z2]
   simp only [eSp,eQ,rQ,zR] at p1 a1 ⊢
   rw [LP_go FF b272_2.eq_1]
   simp only [RB,RL,un,St.none,za,zd,ze,zf,zb,zj,zk,zm,zn,zc,zg,zh,zi,↓reduceIte,reduceCtorEq,pack,pid,parN,lid,chkK,apartV,Heap.none,w1,w2,c1,c2,c3,hc',eX_rules,eX_row,eRw_rules,eRw_row,eC_rules,eC_row,zq,n64]
 | false =>
  cases al with
  | false =>
   replace hst : st = o := hst
   subst hst
   rw [ez]
   rcases him with ⟨rfl,rfl⟩ | ⟨rfl,rfl⟩
   ·rw [z1,z0]
    simp only [eSp,eQ,rQ,zR] at p1 a1 ⊢
    rw [LP_go FF b272_2.eq_1]
    simp only [RB,RL,un,St.none,za,zd,ze,zf,zb,zj,zk,zm,zn,zc,zg,zh,zi,↓reduceIte,reduceCtorEq,pack,pid,parN,lid,chkK,apartV,Heap.none,w1,w2,c1,c2,c3,hc',eX_rules,eX_row,eRw_rules,eRw_row,eC_rules,eC_row,zq,n64,a1]
   ·rw [z3,z2]
    simp only [eSp,eQ,rQ,zR] at p1 a1 ⊢
    rw [LP_go FF b272_2.eq_1]
    simp only [RB,RL,un,St.none,za,zd,ze,zf,zb,zj,zk,zm,zn,zc,zg,zh,zi,↓reduceIte,reduceCtorEq,pack,pid,parN,lid,chkK,apartV,Heap.none,w1,w2,c1,c2,c3,hc',eX_rules,eX_row,eRw_rules,eRw_row,eC_rules,eC_row,zq,n64,a1]
  | true =>
   replace hst : st = tkL (f,(cq,cl,cd),m,S) o := hst
   cases o with
   | none =>
    rw [show ∀ x : LCand,tkL x none = some x from fun _ => rfl] at hst
    subst hst
    rw [spL_some,show spL none = eSp 0 dQ false dQ from rfl]
    rcases him with ⟨rfl,rfl⟩ | ⟨rfl,rfl⟩
    ·rw [z1,z0]
     simp only [eSp,eQ,rQ,zR,Option.isSome] at p1 a1 ⊢
     rw [LP_go FF b272_2.eq_1]
     simp only [RB,RL,un,St.none,za,zd,ze,zf,zb,zj,zk,zm,zn,zc,zg,zh,zi,↓reduceIte,reduceCtorEq,pack,pid,parN,lid,chkK,apartV,Heap.none,w1,w2,c1,c2,c3,hc',eX_rules,eX_row,eRw_rules,eRw_row,eC_rules,eC_row,zq,n64,a1,p1,g1,g2,g5]
    ·rw [z3,z2]
     simp only [eSp,eQ,rQ,zR,Option.isSome] at p1 a1 ⊢
     rw [LP_go FF b272_2.eq_1]
     simp only [RB,RL,un,St.none,za,zd,ze,zf,zb,zj,zk,zm,zn,zc,zg,zh,zi,↓reduceIte,reduceCtorEq,pack,pid,parN,lid,chkK,apartV,Heap.none,w1,w2,c1,c2,c3,hc',eX_rules,eX_row,eRw_rules,eRw_row,eC_rules,eC_row,zq,n64,a1,p1,g1,g2,g5]
   | some r =>
    obtain ⟨rf,rc,rm,rl⟩ := r
    have g6 := vcmp_c (x := rQ S) (y := rQ rl) (k := 8000001) (j := 10000000) (sm_cq zS) (sm_cq (ho _ rfl).1) (by omega) (by omega)
    rw [vQ_rQ,vQ_rQ] at g6
    simp only [rQ] at g6
    have ah := ahead_c (f := f) (f' := rf) (c := (cq,cl,cd)) (c' := rc) (ls := rQ S) (ls' := rQ rl) (m := m) (m' := rm) y3 (ho _ rfl).2 (by omega) (by omega)
    replace hst : st = if (decide (S < rl) || (decide (S = rl) && ahV f (vQ (cq,cl,cd)) m rf (vQ rc) rm)) = true then some (f,(cq,cl,cd),m,S) else some (rf,rc,rm,rl) := hst
    generalize ahV f (vQ (cq,cl,cd)) m rf (vQ rc) rm = av at *
    have q1 := qcmp_lt (x := S) (y := rl)
    have q2 := qcmp_zero (x := S) (y := rl)
    generalize qcmp S rl = q at *
    by_cases h1 : q < 0
    ·rw [decide_eq_true (q1.1 h1),Bool.true_or,if_pos rfl] at hst
     subst hst
     rw [spL_some,spL_some]
     rcases him with ⟨rfl,rfl⟩ | ⟨rfl,rfl⟩
     ·rw [z1,z0]
      simp only [eSp,eQ,rQ,zR,Option.isSome] at p1 a1 ah ⊢
      rw [LP_go FF b272_2.eq_1]
      simp only [RB,RL,un,St.none,za,zd,ze,zf,zb,zj,zk,zm,zn,zc,zg,zh,zi,↓reduceIte,reduceCtorEq,pack,pid,parN,lid,chkK,apartV,Heap.none,w1,w2,c1,c2,c3,hc',eX_rules,eX_row,eRw_rules,eRw_row,eC_rules,eC_row,zq,n64,a1,p1,g1,g2,g5,g6,h1]
     ·rw [z3,z2]
      simp only [eSp,eQ,rQ,zR,Option.isSome] at p1 a1 ah ⊢
      rw [LP_go FF b272_2.eq_1]
      simp only [RB,RL,un,St.none,za,zd,ze,zf,zb,zj,zk,zm,zn,zc,zg,zh,zi,↓reduceIte,reduceCtorEq,pack,pid,parN,lid,chkK,apartV,Heap.none,w1,w2,c1,c2,c3,hc',eX_rules,eX_row,eRw_rules,eRw_row,eC_rules,eC_row,zq,n64,a1,p1,g1,g2,g5,g6,h1]
    ·rw [decide_eq_false (fun h => h1 (q1.2 h)),Bool.false_or] at hst
     by_cases h2 : q = 0
     ·rw [decide_eq_true (q2.1 h2),Bool.true_and] at hst
      cases av with
      | true =>
       rw [if_pos rfl] at hst
       subst hst
       rw [spL_some,spL_some]
       rcases him with ⟨rfl,rfl⟩ | ⟨rfl,rfl⟩
       ·rw [z1,z0]
        simp only [eSp,eQ,rQ,zR,Option.isSome] at p1 a1 ah ⊢
        rw [LP_go FF b272_2.eq_1]
        simp only [RB,RL,un,St.none,za,zd,ze,zf,zb,zj,zk,zm,zn,zc,zg,zh,zi,↓reduceIte,reduceCtorEq,pack,pid,parN,lid,chkK,apartV,Heap.none,w1,w2,c1,c2,c3,hc',eX_rules,eX_row,eRw_rules,eRw_row,eC_rules,eC_row,zq,n64,a1,p1,g1,g2,g5,g6,h1,h2,ah]
       ·rw [z3,z2]
        simp only [eSp,eQ,rQ,zR,Option.isSome] at p1 a1 ah ⊢
        rw [LP_go FF b272_2.eq_1]
        simp only [RB,RL,un,St.none,za,zd,ze,zf,zb,zj,zk,zm,zn,zc,zg,zh,zi,↓reduceIte,reduceCtorEq,pack,pid,parN,lid,chkK,apartV,Heap.none,w1,w2,c1,c2,c3,hc',eX_rules,eX_row,eRw_rules,eRw_row,eC_rules,eC_row,zq,n64,a1,p1,g1,g2,g5,g6,h1,h2,ah]
      | false =>
       rw [if_neg (by decide)] at hst
       subst hst
       rw [spL_some]
       rcases him with ⟨rfl,rfl⟩ | ⟨rfl,rfl⟩
       ·rw [z1,z0]
        simp only [eSp,eQ,rQ,zR,Option.isSome] at p1 a1 ah ⊢
        rw [LP_go FF b272_2.eq_1]
        simp only [RB,RL,un,St.none,za,zd,ze,zf,zb,zj,zk,zm,zn,zc,zg,zh,zi,↓reduceIte,reduceCtorEq,pack,pid,parN,lid,chkK,apartV,Heap.none,w1,w2,c1,c2,c3,hc',eX_rules,eX_row,eRw_rules,eRw_row,eC_rules,eC_row,zq,n64,a1,p1,g1,g2,g5,g6,h1,h2,ah]
       ·rw [z3,z2]
        simp only [eSp,eQ,rQ,zR,Option.isSome] at p1 a1 ah ⊢
        rw [LP_go FF b272_2.eq_1]
        simp only [RB,RL,un,St.none,za,zd,ze,zf,zb,zj,zk,zm,zn,zc,zg,zh,zi,↓reduceIte,reduceCtorEq,pack,pid,parN,lid,chkK,apartV,Heap.none,w1,w2,c1,c2,c3,hc',eX_rules,eX_row,eRw_rules,eRw_row,eC_rules,eC_row,zq,n64,a1,p1,g1,g2,g5,g6,h1,h2,ah]
     ·rw [decide_eq_false (fun h => h2 (q2.2 h)),Bool.false_and,if_neg (by decide)] at hst
      subst hst
      rw [spL_some]
      rcases him with ⟨rfl,rfl⟩ | ⟨rfl,rfl⟩
      ·rw [z1,z0]
       simp only [eSp,eQ,rQ,zR,Option.isSome] at p1 a1 ah ⊢
       rw [LP_go FF b272_2.eq_1]
       simp only [RB,RL,un,St.none,za,zd,ze,zf,zb,zj,zk,zm,zn,zc,zg,zh,zi,↓reduceIte,reduceCtorEq,pack,pid,parN,lid,chkK,apartV,Heap.none,w1,w2,c1,c2,c3,hc',eX_rules,eX_row,eRw_rules,eRw_row,eC_rules,eC_row,zq,n64,a1,p1,g1,g2,g5,g6,h1,h2,ah]
      ·rw [z3,z2]
       simp only [eSp,eQ,rQ,zR,Option.isSome] at p1 a1 ah ⊢
       rw [LP_go FF b272_2.eq_1]
       simp only [RB,RL,un,St.none,za,zd,ze,zf,zb,zj,zk,zm,zn,zc,zg,zh,zi,↓reduceIte,reduceCtorEq,pack,pid,parN,lid,chkK,apartV,Heap.none,w1,w2,c1,c2,c3,hc',eX_rules,eX_row,eRw_rules,eRw_row,eC_rules,eC_row,zq,n64,a1,p1,g1,g2,g5,g6,h1,h2,ah]
def rowL (V : List RQt) (rows : List (List RC)) (l : List Nat) (lst : Int) (f : Nat) (o : Option LCand) (j : Nat) : Option LCand := stepL V rows l lst (stepL V rows l lst o f j true) f j false
def featL (V : List RQt) (rows : List (List RC)) (l : List Nat) (lst : Int) (o : Option LCand) (f : Nat) : Option LCand := l.foldl (rowL V rows l lst f) o
def bestL (V : List RQt) (rows : List (List RC)) (l : List Nat) (lst : Int) (n : Nat) : Option LCand := (zT n).foldl (featL V rows l lst) none
theorem best26_l2 {V : List RQt} {rows : List (List RC)} {l : List Nat} {fe lst : Int} {o : Option LCand} {f k p : Nat} (hk : k ≤ 1000) (h1k : 1 ≤ k) (hV : SmL V k) (hVl : V.length ≤ 900) (hl : InX l V.length) (hr : rows.length ≤ 1000) (hw : WfD rows f l k) (hn : l.length ≤ 900) (ho : OkL k o) (hp : p < l.length) :
  LP FF [(6,1),(8,1),(1,0),(2,0),(3,0),(9,0),(10,0),(11,0),(12,0)] [(6,1),(8,1),(1,0),(2,0),(3,0),(9,0),(10,0),(11,0)] b272_2 [.ownp (eSp 0 dQ false dQ),.ownp (spL o),.l 1 (l.map eX),(AV.i .i64 lst),.tp [(AV.i .i64 fe),.l 1 (rows.map eRw),.l 3 (V.map eQ)] 0,.b o.isSome,(AV.i .i64 ((f : Int))),(AV.i .i64 ((p : Int))),(AV.i .i64 0)] =
  some (.exit 4,[.ownp (eSp 0 dQ false dQ),.ownp (spL (rowL V rows l lst f o (l.getD p 0))),.l 1 (l.map eX),(AV.i .i64 lst),.tp [(AV.i .i64 fe),.l 1 (rows.map eRw),.l 3 (V.map eQ)] 0,.b (rowL V rows l lst f o (l.getD p 0)).isSome,(AV.i .i64 ((f : Int))),(AV.i .i64 ((p : Int)))]) := by
 have y3 := (hw _ (getD_mem' 0 hp)).2.2
 have h1 := best26_r2 (fe := fe) (lst := lst) (o := o) (f := f) (i := 0) hk h1k hV hVl hl hr hw hn ho hp (by omega)
 have h2 := best26_r2 (fe := fe) (lst := lst) (o := stepL V rows l lst o f (l.getD p 0) true) (f := f) (i := 1) hk h1k hV hVl hl hr hw hn (stepL_ok hk h1k hV hl hn y3 ho) hp (by omega)
 have e : stepL V rows l lst (stepL V rows l lst o f (l.getD p 0) true) f (l.getD p 0) false = rowL V rows l lst f o (l.getD p 0) := rfl
 rw [show (decide (0 = 0)) = true from rfl,zI] at h1
 rw [show (decide (1 = 0)) = false from rfl,e] at h2
 rw [h1,h2]
 generalize rowL V rows l lst f o (l.getD p 0) = o' at *
 obtain ⟨z,oc,om,ol,ez⟩ := spL_form o'
 rw [ez,show ((1 + 1 : Nat) : Int) = 2 from rfl]
 simp only [eSp,eQ,rQ,zR]
 rw [LP_go FF b272_2.eq_1]
 simp only [RB,RL,un,St.none,za,zd,ze,zf,zb,zj,zk,zm,zn,zc,zg,zh,zi,↓reduceIte,reduceCtorEq,pack,pid,parN,lid,chkK,apartV,Heap.none,eX_rules,eX_row]
theorem rowL_ok {V : List RQt} {rows : List (List RC)} {l : List Nat} {lst : Int} {o : Option LCand} {f j : Nat} {k : Nat} (hk : k ≤ 1000) (h1k : 1 ≤ k) (hV : SmL V k) (hl : InX l V.length) (hn : l.length ≤ 900) (hj : SmQ (cellD rows f j).2 k) (ho : OkL k o) : OkL k (rowL V rows l lst f o j) :=
 stepL_ok hk h1k hV hl hn hj (stepL_ok hk h1k hV hl hn hj ho)
theorem foldL_ok {V : List RQt} {rows : List (List RC)} {l : List Nat} {lst : Int} {f k : Nat} (hk : k ≤ 1000) (h1k : 1 ≤ k) (hV : SmL V k) (hl : InX l V.length) (hn : l.length ≤ 900) : ∀ (cs : List Nat) (o : Option LCand),WfD rows f cs k → OkL k o → OkL k (cs.foldl (rowL V rows l lst f) o) := by
 intro cs
 induction cs with
 | nil => intro o _ ho; exact ho
 | cons c cs ih => intro o hw ho; exact ih _ (fun j hj => hw j (zH _ hj)) (rowL_ok hk h1k hV hl hn (hw c (zG ..)).2.2 ho)
theorem drop_foldN {β : Type} {g : β → Nat → β} {l : List Nat} {i : Nat} (o : β) (h : i < l.length) : (l.drop i).foldl g o = (l.drop (i + 1)).foldl g (g o (l.getD i 0)) := by
 rw [List.drop_eq_getElem_cons h,List.foldl_cons,zo,zr h]; rfl
theorem best26_l1 {V : List RQt} {rows : List (List RC)} {l : List Nat} {fe lst : Int} {f k : Nat} (hk : k ≤ 1000) (h1k : 1 ≤ k) (hV : SmL V k) (hVl : V.length ≤ 900) (hl : InX l V.length) (hr : rows.length ≤ 1000) (hw : WfD rows f l k) (hn : l.length ≤ 900) : ∀ (d p : Nat) (o : Option LCand),p + d = l.length → OkL k o →
  LP FF [(6,1),(8,1),(1,0),(2,0),(3,0),(9,0),(10,0),(11,0)] [(6,1),(8,1),(1,0),(2,0),(3,0),(9,0),(10,0)] b272_1 [.ownp (eSp 0 dQ false dQ),.ownp (spL o),.l 1 (l.map eX),(AV.i .i64 lst),.tp [(AV.i .i64 fe),.l 1 (rows.map eRw),.l 3 (V.map eQ)] 0,.b o.isSome,(AV.i .i64 ((f : Int))),(AV.i .i64 ((p : Int)))] =
  some (.exit 2,[.ownp (eSp 0 dQ false dQ),.ownp (spL ((l.drop p).foldl (rowL V rows l lst f) o)),.l 1 (l.map eX),(AV.i .i64 lst),.tp [(AV.i .i64 fe),.l 1 (rows.map eRw),.l 3 (V.map eQ)] 0,.b ((l.drop p).foldl (rowL V rows l lst f) o).isSome,(AV.i .i64 ((f : Int)))]) := by
 intro d
 induction d with
 | zero =>
  intro p o hp ho
  rw [zW (by omega)]
  obtain ⟨z,oc,om,ol,ez⟩ := spL_form o
  rw [List.foldl_nil,ez]
  have c1 : ¬ (p : Int) < (l.length : Int) := by omega
  simp only [eSp,zR]
  rw [LP_go FF b272_1.eq_1]
  simp only [RB,RL,un,St.none,za,zd,ze,zf,zb,zj,zk,zm,zn,zc,zg,zh,zi,↓reduceIte,reduceCtorEq,pack,pid,parN,lid,chkK,apartV,Heap.none,c1,eX_rules,eX_row,eQ_rules,eQ_row]
 | succ d ih =>
  intro p o hp ho
  have hlt : p < l.length := by omega
  have y3 := (hw _ (getD_mem' 0 hlt)).2.2
  rw [drop_foldN o hlt]
  have h9 := ih (p + 1) (rowL V rows l lst f o (l.getD p 0)) (by omega) (rowL_ok hk h1k hV hl hn y3 ho)
  have l2 := best26_l2 (fe := fe) (lst := lst) (o := o) (f := f) hk h1k hV hVl hl hr hw hn ho hlt
  generalize (l.drop (p + 1)).foldl (rowL V rows l lst f) (rowL V rows l lst f o (l.getD p 0)) = res at *
  generalize rowL V rows l lst f o (l.getD p 0) = o' at *
  obtain ⟨z,oc,om,ol,ez⟩ := spL_form o
  obtain ⟨z',oc',om',ol',ez'⟩ := spL_form o'
  rw [ez] at l2 ⊢
  rw [ez'] at l2 h9
  have c1 : (p : Int) < (l.length : Int) := by omega
  have e2 : IntKind.i64.wrap ((p : Int) + 1) = ((p + 1 : Nat) : Int) := w64succ (by omega)
  simp only [eSp,eQ,rQ,zR] at l2 h9 ⊢
  rw [LP_go FF b272_1.eq_1]
  simp only [RB,RL,un,St.none,za,zd,ze,zf,zb,zj,zk,zm,zn,zc,zg,zh,zi,↓reduceIte,reduceCtorEq,pack,pid,parN,lid,chkK,apartV,Heap.none,c1,eX_rules,eX_row,eQ_rules,eQ_row,zq,e2,l2]
  exact h9
theorem best26_l0 {V : List RQt} {rows : List (List RC)} {l : List Nat} {lst : Int} {k n : Nat} (hk : k ≤ 1000) (h1k : 1 ≤ k) (hV : SmL V k) (hVl : V.length ≤ 900) (hl : InX l V.length) (hr : rows.length ≤ 1000) (hw : ∀ f,f < n → WfD rows f l k) (hn : l.length ≤ 900) (hn64 : n ≤ 1000) : ∀ (d f : Nat),f + d = n → OkL k ((zT f).foldl (featL V rows l lst) none) →
  LP FF [(6,1),(8,1),(1,0),(2,0),(3,0),(9,0),(10,0)] [(6,1),(8,0),(9,0)] b272_0 [.ownp (eSp 0 dQ false dQ),.ownp (spL ((zT f).foldl (featL V rows l lst) none)),.l 1 (l.map eX),(AV.i .i64 lst),.tp [(AV.i .i64 ((n : Int))),.l 1 (rows.map eRw),.l 3 (V.map eQ)] 0,.b ((zT f).foldl (featL V rows l lst) none).isSome,(AV.i .i64 ((f : Int)))] =
  some (.exit 0,[.ownp (eSp 0 dQ false dQ),.tp (spL (bestL V rows l lst n)) 0,.b (bestL V rows l lst n).isSome]) := by
 intro d
 induction d with
 | zero =>
  intro f hf ho
  have hf' : f = n := by omega
  subst hf'
  have c1 : ¬ (f : Int) < (f : Int) := by omega
  unfold bestL
  generalize (zT f).foldl (featL V rows l lst) none = o at *
  obtain ⟨z,oc,om,ol,ez⟩ := spL_form o
  rw [ez]
  simp only [eSp,zR]
  rw [LP_go FF b272_0.eq_1]
  simp only [RB,RL,un,St.none,za,zd,ze,zf,zb,zj,zk,zm,zn,zc,zg,zh,zi,↓reduceIte,reduceCtorEq,pack,pid,parN,lid,chkK,apartV,Heap.none,c1,eX_rules,eX_row]
 | succ d ih =>
  intro f hf ho
  have hlt : f < n := by omega
  have hwf := hw f hlt
  have h8 : OkL k (featL V rows l lst ((zT f).foldl (featL V rows l lst) none) f) := foldL_ok hk h1k hV hl hn _ _ hwf ho
  have h9 := ih (f + 1) (by omega) (by rw [range_snoc_fold]; exact h8)
  rw [range_snoc_fold] at h9
  have l1 := best26_l1 (fe := (n : Int)) (lst := lst) (f := f) hk h1k hV hVl hl hr hwf hn l.length 0 _ (by omega) ho
  rw [zI,List.drop_zero] at l1
  change LP FF [(6,1),(8,1),(1,0),(2,0),(3,0),(9,0),(10,0),(11,0)] [(6,1),(8,1),(1,0),(2,0),(3,0),(9,0),(10,0)] b272_1 _ = some (Ex.exit 2,[_,AV.ownp (spL (featL V rows l lst ((zT f).foldl (featL V rows l lst) none) f)),_,_,_,AV.b (featL V rows l lst ((zT f).foldl (featL V rows l lst) none) f).isSome,_]) at l1
  generalize featL V rows l lst ((zT f).foldl (featL V rows l lst) none) f = o' at *
  generalize (zT f).foldl (featL V rows l lst) none = o at *
  generalize bestL V rows l lst n = res at *
  obtain ⟨z,oc,om,ol,ez⟩ := spL_form o
  obtain ⟨z',oc',om',ol',ez'⟩ := spL_form o'
  rw [ez] at l1 ⊢
  rw [ez'] at l1 h9
  have c1 : (f : Int) < (n : Int) := by omega
  have e2 : IntKind.i64.wrap ((f : Int) + 1) = ((f + 1 : Nat) : Int) := w64succ (by omega)
  simp only [eSp,zR] at l1 h9 ⊢
  rw [LP_go FF b272_0.eq_1]
  simp only [RB,RL,un,St.none,za,zd,ze,zf,zb,zj,zk,zm,zn,zc,zg,zh,zi,↓reduceIte,reduceCtorEq,pack,pid,parN,lid,chkK,apartV,Heap.none,c1,eX_rules,eX_row,eQ_rules,eQ_row,zq,e2,l1]
  exact h9
theorem best26_c {V : List RQt} {rows : List (List RC)} {l : List Nat} {lst : Int} {k n : Nat} (hk : k ≤ 1000) (h1k : 1 ≤ k) (hV : SmL V k) (hVl : V.length ≤ 900) (hl : InX l V.length) (hr : rows.length ≤ 1000) (hw : ∀ f,f < n → WfD rows f l k) (hn : l.length ≤ 900) (hn64 : n ≤ 1000) :
  R FF 272 [.agg [(AV.i .i64 ((n : Int))),.l 1 (rows.map eRw),.l 3 (V.map eQ)],.l 1 (l.map eX),(AV.i .i64 lst)] = some (.tup [.agg (spL (bestL V rows l lst n)),.b (bestL V rows l lst n).isSome]) := by
 have l0 := best26_l0 (lst := lst) hk h1k hV hVl hl hr hw hn hn64 n 0 (by omega) (fun r h => by cases h)
 rw [List.range_zero,List.foldl_nil,show spL none = eSp 0 dQ false dQ from rfl,zI] at l0
 generalize bestL V rows l lst n = res at *
 obtain ⟨z,oc,om,ol,ez⟩ := spL_form res
 rw [ez] at l0 ⊢
 simp only [eSp,zR,Option.isSome] at l0 ⊢
 rw [R_go FF F272 c272.eq_1]
 simp only [RB,RL,un,St.none,za,zd,ze,zf,zb,zj,zk,zm,zn,zc,zg,zh,zi,↓reduceIte,reduceCtorEq,pack,pid,parN,lid,chkK,apartV,Heap.none,l0,n64,eX_rules,eX_row]
abbrev Srt (o : List Rat) : Prop := o.Pairwise (· < ·)
theorem posV_split {v : Rat} : ∀ (o : List Rat),Srt o → (∀ x ∈ o.take (posV v o),x < v) ∧ (∀ x ∈ o.drop (posV v o),¬ x < v) := by
 intro o
 induction o with
 | nil => intro _; exact ⟨fun x h => (zY h).elim,fun x h => (zY h).elim⟩
 | cons y o ih =>
  intro hs
  have hs' := List.pairwise_cons.1 hs
  by_cases h : y < v
  ·rw [show posV v (y :: o) = posV v o + 1 from if_pos h,List.take_succ_cons,List.drop_succ_cons]
   obtain ⟨i1,i2⟩ := ih hs'.2
   exact ⟨fun x hx => by rcases List.mem_cons.1 hx with rfl | hx; exact h; exact i1 x hx,i2⟩
  ·rw [show posV v (y :: o) = 0 from if_neg h]
   refine ⟨fun x hx => (zY hx).elim,fun x hx => ?_⟩
   rcases List.mem_cons.1 hx with rfl | hx
   ·exact h
   ·have := hs'.1 x hx; grind
theorem getD_dropR {o : List Rat} {p : Nat} (h : p < o.length) : o.drop p = o.getD p 0 :: o.drop (p + 1) := by
 rw [List.drop_eq_getElem_cons h,zo,zr h]; rfl
theorem insV_srt {o : List Rat} {v : Rat} (hs : Srt o) : Srt (insV o v) := by
 unfold insV
 split
 ·exact hs
 ·rename_i hne
  obtain ⟨h1,h2⟩ := posV_split (v := v) o hs
  have hs2 : Srt (o.take (posV v o) ++ o.drop (posV v o)) := by rw [List.take_append_drop]; exact hs
  obtain ⟨s1,s2,s3⟩ := List.pairwise_append.1 hs2
  refine List.pairwise_append.2 ⟨s1,List.pairwise_cons.2 ⟨fun x hx => ?_,s2⟩,fun x hx y hy => ?_⟩
  ·have hp : posV v o < o.length := by
    rcases jl (posV v o) o.length with h | h
    ·exact h
    ·rw [zW h] at hx; exact (zY hx).elim
   have hd := getD_dropR hp
   have g0 : ¬ o.getD (posV v o) 0 < v := h2 _ (by rw [hd]; exact zG ..)
   have g1 : o.getD (posV v o) 0 ≠ v := fun e => hne ⟨hp,e⟩
   have g2 : v < o.getD (posV v o) 0 := by grind
   rw [hd] at hx s2
   rcases List.mem_cons.1 hx with rfl | hx
   ·exact g2
   ·have := (List.pairwise_cons.1 s2).1 x hx; grind
  ·rcases List.mem_cons.1 hy with rfl | hy
   ·exact h1 x hx
   ·exact s3 x hx y hy
theorem insV_mem {o : List Rat} {v x : Rat} : x ∈ insV o v ↔ x = v ∨ x ∈ o := by
 unfold insV
 split
 ·rename_i h
  constructor
  ·exact .inr
  ·rintro (e | hx)
   ·have h3 := getD_mem' 0 h.1
    rw [h.2] at h3
    rw [e]; exact h3
   ·exact hx
 ·rw [List.mem_append,List.mem_cons]
  conv => rhs; rhs; rw [← List.take_append_drop (posV v o) o,List.mem_append]
  grind
theorem cutF_srt {rows : List (List RC)} {f : Nat} : ∀ (l : List Nat) (o : List Rat),Srt o → Srt (l.foldl (cutF rows f) o) ∧ ∀ x,x ∈ l.foldl (cutF rows f) o ↔ x ∈ o ∨ ∃ j ∈ l,(cellD rows f j).1 = false ∧ vQ (cellD rows f j).2 = x := by
 intro l
 induction l with
 | nil => intro o ho; exact ⟨ho,fun x => ⟨.inl,fun h => h.elim id (fun ⟨j,hj,_⟩ => (zY hj).elim)⟩⟩
 | cons i l ih =>
  intro o ho
  have hs : Srt (cutF rows f o i) := by
   unfold cutF
   split
   ·exact ho
   ·exact insV_srt ho
  obtain ⟨h1,h2⟩ := ih _ hs
  refine ⟨h1,fun x => ?_⟩
  rw [List.foldl_cons,h2]
  have hm : x ∈ cutF rows f o i ↔ x ∈ o ∨ ((cellD rows f i).1 = false ∧ vQ (cellD rows f i).2 = x) := by
   unfold cutF
   split
   ·rename_i h
    exact ⟨.inl,fun k => k.elim id fun k => by rw [h] at k; cases k.1⟩
   ·rename_i h
    rw [insV_mem]
    have h' : (cellD rows f i).1 = false := by simpa using h
    constructor
    ·rintro (rfl | h)
     ·exact .inr ⟨h',rfl⟩
     ·exact .inl h
    ·rintro (h | ⟨_,rfl⟩)
     ·exact .inr h
     ·exact .inl rfl
  rw [hm]
  constructor
  ·rintro ((h | h) | ⟨j,hj,h⟩)
   ·exact .inl h
   ·exact .inr ⟨i,zG ..,h⟩
   ·exact .inr ⟨j,zH _ hj,h⟩
  ·rintro (h | ⟨j,hj,h⟩)
   ·exact .inl (.inl h)
   ·rcases List.mem_cons.1 hj with rfl | hj
    ·exact .inl (.inr h)
    ·exact .inr ⟨j,hj,h⟩
theorem drop1_mem {o : List Rat} (hs : Srt o) {x : Rat} : x ∈ o.drop 1 ↔ x ∈ o ∧ ∃ y ∈ o,y < x := by
 cases o with
 | nil => exact ⟨fun h => (zY h).elim,fun h => (zY h.1).elim⟩
 | cons a t =>
  obtain ⟨h1,h2⟩ := List.pairwise_cons.1 hs
  show x ∈ t ↔ _
  constructor
  ·intro h
   exact ⟨zH _ h,a,zG ..,h1 x h⟩
  ·rintro ⟨hx,y,hy,hlt⟩
   rcases List.mem_cons.1 hx with rfl | hx
   ·rcases List.mem_cons.1 hy with rfl | hy
    ·grind
    ·have := h1 y hy; grind
   ·exact hx
theorem ctV_srt (rows : List (List RC)) (f : Nat) (l : List Nat) : Srt (ctV rows f l) := List.Pairwise.sublist (List.drop_sublist 1 _) (cutF_srt l [] List.Pairwise.nil).1
theorem ctV_mem {rows : List (List RC)} {f : Nat} {l : List Nat} {x : Rat} : x ∈ ctV rows f l ↔ (∃ j ∈ l,(cellD rows f j).1 = false ∧ vQ (cellD rows f j).2 = x) ∧ ∃ j ∈ l,(cellD rows f j).1 = false ∧ vQ (cellD rows f j).2 < x := by
 obtain ⟨h1,h2⟩ := cutF_srt (rows := rows) (f := f) l [] List.Pairwise.nil
 unfold ctV
 rw [drop1_mem h1,h2]
 constructor
 ·rintro ⟨ha,y,hy,hlt⟩
  refine ⟨ha.elim (fun h => (zY h).elim) id,?_⟩
  obtain ⟨j,hj,hm,rfl⟩ := ((h2 y).1 hy).elim (fun h => (zY h).elim) id
  exact ⟨j,hj,hm,hlt⟩
 ·rintro ⟨ha,j,hj,hm,hlt⟩
  exact ⟨.inr ha,_,(h2 _).2 (.inr ⟨j,hj,hm,rfl⟩),hlt⟩
def ltC (x r : Cand) : Bool := decide (x.2.2.2 < r.2.2.2) || (decide (x.2.2.2 = r.2.2.2) && ahV x.1 x.2.1 x.2.2.1 r.1 r.2.1 r.2.2.1)
def aheadC (x r : Cand) : Prop := ahV x.1 x.2.1 x.2.2.1 r.1 r.2.1 r.2.2.1 = true
def tkC (o : Option Cand) (x : Cand) : Option Cand := match o with
 | none => some x
 | some r => if ltC x r then some x else some r
theorem ahV_irr (f : Nat) (c : Rat) (m : Bool) : ahV f c m f c m = false := by
 unfold ahV; rw [if_pos rfl]; cases m <;> simp <;> grind
theorem ahV_tr {f f' f2 : Nat} {c c' c2 : Rat} {m m' m2 : Bool} (h1 : ahV f c m f' c' m' = true) (h2 : ahV f' c' m' f2 c2 m2 = true) : ahV f c m f2 c2 m2 = true := by
 unfold ahV at *
 split at h1 <;> split at h2 <;> split <;> simp only [Bool.or_eq_true,decide_eq_true_eq,zu,Bool.not_eq_true'] at * <;> grind
theorem ahV_tot {f f' : Nat} {c c' : Rat} {m m' : Bool} (h1 : ahV f c m f' c' m' = false) (h2 : ahV f' c' m' f c m = false) : f = f' ∧ c = c' ∧ m = m' := by
 unfold ahV at *
 by_cases hf : f = f'
 ·rw [if_pos hf] at h1
  rw [if_pos hf.symm] at h2
  cases m <;> cases m' <;> simp only [Bool.or_eq_false_iff,decide_eq_false_iff_not,Bool.and_eq_false_iff,Bool.not_eq_false'] at * <;> grind
 ·rw [if_neg hf] at h1
  rw [if_neg (fun h => hf h.symm)] at h2
  simp only [decide_eq_false_iff_not] at *
  omega
theorem ltC_iff {x r : Cand} : ltC x r = true ↔ x.2.2.2 < r.2.2.2 ∨ (x.2.2.2 = r.2.2.2 ∧ aheadC x r) := by
 unfold ltC aheadC
 simp only [Bool.or_eq_true,decide_eq_true_eq,zu]
theorem ltC_irr (x : Cand) : ¬ ltC x x = true := by
 rw [ltC_iff]
 rintro (h | ⟨_,h⟩)
 ·grind
 ·unfold aheadC at h; rw [ahV_irr] at h; cases h
theorem ltC_tr {x y z : Cand} (h1 : ltC x y = true) (h2 : ltC y z = true) : ltC x z = true := by
 rw [ltC_iff] at *
 rcases h1 with h1 | ⟨e1,h1⟩ <;> rcases h2 with h2 | ⟨e2,h2⟩
 ·exact .inl (by grind)
 ·exact .inl (by grind)
 ·exact .inl (by grind)
 ·exact .inr ⟨by grind,ahV_tr h1 h2⟩
theorem ltC_tot {x y : Cand} (h1 : ¬ ltC x y = true) (h2 : ¬ ltC y x = true) : x = y := by
 rw [ltC_iff] at *
 have e : x.2.2.2 = y.2.2.2 := by grind
 have a1 : ahV x.1 x.2.1 x.2.2.1 y.1 y.2.1 y.2.2.1 = false := by
  cases h : ahV x.1 x.2.1 x.2.2.1 y.1 y.2.1 y.2.2.1 with
  | false => rfl
  | true => exact (h1 (.inr ⟨e,h⟩)).elim
 have a2 : ahV y.1 y.2.1 y.2.2.1 x.1 x.2.1 x.2.2.1 = false := by
  cases h : ahV y.1 y.2.1 y.2.2.1 x.1 x.2.1 x.2.2.1 with
  | false => rfl
  | true => exact (h2 (.inr ⟨e.symm,h⟩)).elim
 obtain ⟨b1,b2,b3⟩ := ahV_tot a1 a2
 exact Prod.ext b1 (Prod.ext b2 (Prod.ext b3 e))
def IsMin (S : Cand → Prop) (o : Option Cand) : Prop := match o with
 | none => ∀ x,¬ S x
 | some r => S r ∧ ∀ y,S y → ¬ ltC y r = true
theorem IsMin.unique {S T : Cand → Prop} {o o' : Option Cand} (hST : ∀ x,S x ↔ T x) (h : IsMin S o) (h' : IsMin T o') : o = o' := by
 cases o with
 | none =>
  cases o' with
  | none => rfl
  | some r => exact (h r ((hST r).2 h'.1)).elim
 | some r =>
  cases o' with
  | none => exact (h' r ((hST r).1 h.1)).elim
  | some r' => rw [ltC_tot (h'.2 r ((hST r).1 h.1)) (h.2 r' ((hST r').2 h'.1))]
theorem fold_min : ∀ (K : List Cand) (S : Cand → Prop) (o : Option Cand),IsMin S o → IsMin (fun x => S x ∨ x ∈ K) (K.foldl tkC o) := by
 intro K
 induction K with
 | nil =>
  intro S o h
  have e : (fun x => S x ∨ x ∈ ([] : List Cand)) = S := funext fun x => propext ⟨fun h => h.elim id (fun h => (zY h).elim),.inl⟩
  rw [e]; exact h
 | cons a K ih =>
  intro S o h
  have h1 : IsMin (fun x => S x ∨ x = a) (tkC o a) := by
   cases o with
   | none => exact ⟨.inr rfl,fun y hy => hy.elim (fun k => (h y k).elim) (fun k => by rw [k]; exact ltC_irr a)⟩
   | some r =>
    show IsMin _ (if ltC a r then some a else some r)
    by_cases hl : ltC a r = true
    ·rw [if_pos hl]
     refine ⟨.inr rfl,fun y hy => hy.elim (fun k hya => h.2 y k (ltC_tr hya hl)) (fun k => by rw [k]; exact ltC_irr a)⟩
    ·rw [if_neg hl]
     exact ⟨.inl h.1,fun y hy => hy.elim (h.2 y) (fun k => by rw [k]; exact hl)⟩
  have h2 := ih _ _ h1
  have e : (fun x => (S x ∨ x = a) ∨ x ∈ K) = (fun x => S x ∨ x ∈ a :: K) := funext fun x => propext (by rw [List.mem_cons]; exact or_assoc)
  rw [e] at h2
  exact h2
theorem fold_min0 (K : List Cand) : IsMin (fun x => x ∈ K) (K.foldl tkC none) := by
 have h := fold_min K (fun _ => False) none (fun _ h => h)
 have e : (fun x => False ∨ x ∈ K) = (fun x => x ∈ K) := funext fun x => propext ⟨fun h => h.elim False.elim id,.inr⟩
 rw [e] at h
 exact h
theorem fold_sorted : ∀ (K : List Cand) (o : Option Cand),K.Pairwise aheadC → (∀ r,o = some r → ∀ x ∈ K,aheadC r x) → K.foldl (fun o x => tkP x o) o = K.foldl tkC o := by
 intro K
 induction K with
 | nil => intro o _ _; rfl
 | cons a K ih =>
  intro o hp ho
  obtain ⟨h1,h2⟩ := List.pairwise_cons.1 hp
  have e : tkP a o = tkC o a := by
   cases o with
   | none => rfl
   | some r =>
    show (if a.2.2.2 < r.2.2.2 then some a else some r) = if ltC a r then some a else some r
    have hr := ho r rfl a (zG ..)
    by_cases hl : a.2.2.2 < r.2.2.2
    ·rw [if_pos hl,if_pos (ltC_iff.2 (.inl hl))]
    ·rw [if_neg hl,if_neg (fun h => (ltC_iff.1 h).elim hl fun h => by
      have := ahV_tr h.2 hr; rw [ahV_irr] at this; cases this)]
  rw [List.foldl_cons,List.foldl_cons,e]
  refine ih _ h2 fun r hr x hx => ?_
  have hc : r = a ∨ o = some r := by
   cases o with
   | none => exact .inl (Option.some.inj hr).symm
   | some r' =>
    have hr : (if ltC a r' then some a else some r') = some r := hr
    split at hr
    ·exact .inl (Option.some.inj hr).symm
    ·exact .inr hr
  rcases hc with rfl | hc
  ·exact h1 x hx
  ·exact ho r hc x (zH _ hx)
def opt (b : Bool) (x : Cand) : List Cand := if b then [x] else []
def cand2 (V : List RQt) (rows : List (List RC)) (l : List Nat) (lst : Int) (f : Nat) (c : Rat) : List Cand :=
 opt (!few2 rows l lst f c true) (f,c,true,splV V rows l f c true) ++ opt (!few2 rows l lst f c false) (f,c,false,splV V rows l f c false)
def candL (V : List RQt) (rows : List (List RC)) (l : List Nat) (lst : Int) (f j : Nat) : List Cand :=
 opt (!(cellD rows f j).1 && alV rows l lst f (vQ (cellD rows f j).2) true) (f,vQ (cellD rows f j).2,true,splV V rows l f (vQ (cellD rows f j).2) true) ++
 opt (!(cellD rows f j).1 && alV rows l lst f (vQ (cellD rows f j).2) false) (f,vQ (cellD rows f j).2,false,splV V rows l f (vQ (cellD rows f j).2) false)
def KP (V : List RQt) (rows : List (List RC)) (l : List Nat) (lst : Int) (n : Nat) : List Cand := (zT n).flatMap fun f => (ctV rows f l).flatMap (cand2 V rows l lst f)
def KL (V : List RQt) (rows : List (List RC)) (l : List Nat) (lst : Int) (n : Nat) : List Cand := (zT n).flatMap fun f => l.flatMap (candL V rows l lst f)
theorem mem_opt {b : Bool} {x y : Cand} : y ∈ opt b x ↔ b = true ∧ y = x := by
 unfold opt
 cases b
 ·exact ⟨fun h => (zY h).elim,fun h => by cases h.1⟩
 ·exact ⟨fun h => ⟨rfl,List.mem_singleton.1 h⟩,fun h => List.mem_singleton.2 h.2⟩
theorem bestP_fold (V : List RQt) (rows : List (List RC)) (l : List Nat) (lst : Int) (n : Nat) : bestP V rows l lst n = (KP V rows l lst n).foldl (fun o x => tkP x o) none := by
 unfold bestP KP
 rw [List.foldl_flatMap]
 congr 1
 funext o f
 unfold featP
 rw [List.foldl_flatMap]
 congr 1
 funext o c
 unfold cutP cand2
 rw [List.foldl_append]
 have h : ∀ (o : Option Cand) (m : Bool),(opt (!few2 rows l lst f c m) (f,c,m,splV V rows l f c m)).foldl (fun o x => tkP x o) o = stepP V rows l lst o f c m := by
  intro o m
  unfold stepP opt
  cases few2 rows l lst f c m <;> rfl
 rw [h,h]
def valC (x : LCand) : Cand := (x.1,vQ x.2.1,x.2.2.1,x.2.2.2)
theorem tkL_val (x : LCand) (o : Option LCand) : (tkL x o).map valC = tkC (o.map valC) (valC x) := by
 cases o with
 | none => rfl
 | some r =>
  show Option.map valC (if ltL x r then some x else some r) = if ltC (valC x) (valC r) then some (valC x) else some (valC r)
  have e : ltL x r = ltC (valC x) (valC r) := rfl
  rw [e]
  split <;> rfl
theorem bestL_fold (V : List RQt) (rows : List (List RC)) (l : List Nat) (lst : Int) (n : Nat) : (bestL V rows l lst n).map valC = (KL V rows l lst n).foldl tkC none := by
 unfold bestL KL
 rw [List.foldl_flatMap]
 refine (List.foldl_hom (init := (none : Option LCand)) (Option.map valC) (g₁ := featL V rows l lst) (g₂ := fun acc x => List.foldl tkC acc (List.flatMap (candL V rows l lst x) l)) fun o f => ?_).symm
 unfold featL
 show List.foldl tkC (o.map valC) (List.flatMap (candL V rows l lst f) l) = _
 rw [List.foldl_flatMap]
 refine List.foldl_hom (Option.map valC) (g₁ := rowL V rows l lst f) (g₂ := fun acc x => List.foldl tkC acc (candL V rows l lst f x)) fun o j => ?_
 unfold rowL candL
 show List.foldl tkC (o.map valC) (_ ++ _) = _
 rw [List.foldl_append]
 have h : ∀ (o : Option LCand) (m : Bool),(opt (!(cellD rows f j).1 && alV rows l lst f (vQ (cellD rows f j).2) m) (f,vQ (cellD rows f j).2,m,splV V rows l f (vQ (cellD rows f j).2) m)).foldl tkC (o.map valC) = (stepL V rows l lst o f j m).map valC := by
  intro o m
  unfold stepL opt
  cases (cellD rows f j).1
  ·cases alV rows l lst f (vQ (cellD rows f j).2) m
   ·rfl
   ·exact (tkL_val (f,(cellD rows f j).2,m,splV V rows l f (vQ (cellD rows f j).2) m) o).symm
  ·rfl
 rw [h,h]
theorem cand2_pw (V : List RQt) (rows : List (List RC)) (l : List Nat) (lst : Int) (f : Nat) (c : Rat) : (cand2 V rows l lst f c).Pairwise aheadC := by
 unfold cand2
 refine List.pairwise_append.2 ⟨?_,?_,fun x hx y hy => ?_⟩
 ·unfold opt; split
  ·exact List.pairwise_singleton _ _
  ·exact List.Pairwise.nil
 ·unfold opt; split
  ·exact List.pairwise_singleton _ _
  ·exact List.Pairwise.nil
 ·rw [(mem_opt.1 hx).2,(mem_opt.1 hy).2]
  unfold aheadC ahV
  simp
theorem mem_cand2 {V : List RQt} {rows : List (List RC)} {l : List Nat} {lst : Int} {f : Nat} {c : Rat} {x : Cand} : x ∈ cand2 V rows l lst f c ↔ ∃ m,few2 rows l lst f c m = false ∧ x = (f,c,m,splV V rows l f c m) := by
 unfold cand2
 rw [List.mem_append,mem_opt,mem_opt]
 simp only [Bool.not_eq_true']
 constructor
 ·rintro (⟨h1,h2⟩ | ⟨h1,h2⟩)
  ·exact ⟨true,h1,h2⟩
  ·exact ⟨false,h1,h2⟩
 ·rintro ⟨m,h1,h2⟩
  cases m
  ·exact .inr ⟨h1,h2⟩
  ·exact .inl ⟨h1,h2⟩
theorem mem_candL {V : List RQt} {rows : List (List RC)} {l : List Nat} {lst : Int} {f j : Nat} {x : Cand} : x ∈ candL V rows l lst f j ↔ (cellD rows f j).1 = false ∧ ∃ m,alV rows l lst f (vQ (cellD rows f j).2) m = true ∧ x = (f,vQ (cellD rows f j).2,m,splV V rows l f (vQ (cellD rows f j).2) m) := by
 unfold candL
 rw [List.mem_append,mem_opt,mem_opt]
 simp only [zu,Bool.not_eq_true']
 constructor
 ·rintro (⟨⟨h0,h1⟩,h2⟩ | ⟨⟨h0,h1⟩,h2⟩)
  ·exact ⟨h0,true,h1,h2⟩
  ·exact ⟨h0,false,h1,h2⟩
 ·rintro ⟨h0,m,h1,h2⟩
  cases m
  ·exact .inr ⟨⟨h0,h1⟩,h2⟩
  ·exact .inl ⟨⟨h0,h1⟩,h2⟩
theorem KP_pw (V : List RQt) (rows : List (List RC)) (l : List Nat) (lst : Int) (n : Nat) : (KP V rows l lst n).Pairwise aheadC := by
 unfold KP
 refine List.pairwise_flatMap.2 ⟨fun f _ => List.pairwise_flatMap.2 ⟨fun c _ => cand2_pw ..,?_⟩,?_⟩
 ·refine (ctV_srt rows f l).imp fun {c c'} hc x hx y hy => ?_
  obtain ⟨m,_,rfl⟩ := mem_cand2.1 hx
  obtain ⟨m',_,rfl⟩ := mem_cand2.1 hy
  unfold aheadC ahV
  rw [if_pos rfl,decide_eq_true hc,Bool.true_or]
 ·refine List.pairwise_lt_range.imp fun {f f'} hf x hx y hy => ?_
  obtain ⟨c,_,hx⟩ := List.mem_flatMap.1 hx
  obtain ⟨c',_,hy⟩ := List.mem_flatMap.1 hy
  obtain ⟨m,_,rfl⟩ := mem_cand2.1 hx
  obtain ⟨m',_,rfl⟩ := mem_cand2.1 hy
  unfold aheadC ahV
  show (if f = f' then _ else decide (f < f')) = true
  rw [if_neg (by omega),decide_eq_true hf]
theorem alV_iff {rows : List (List RC)} {l : List Nat} {lst : Int} {f : Nat} {c : Rat} {m : Bool} : alV rows l lst f c m = true ↔ c ∈ ctV rows f l ∧ few2 rows l lst f c m = false := by
 unfold alV
 rw [ctV_mem,zu,zu,List.any_eq_true,List.any_eq_true,Bool.not_eq_true']
 unfold isA ltA
 simp only [zu,Bool.not_eq_true',decide_eq_true_eq]
theorem K_mem (V : List RQt) (rows : List (List RC)) (l : List Nat) (lst : Int) (n : Nat) (x : Cand) : x ∈ KL V rows l lst n ↔ x ∈ KP V rows l lst n := by
 unfold KL KP
 rw [List.mem_flatMap,List.mem_flatMap]
 refine exists_congr fun f => and_congr_right fun _ => ?_
 rw [List.mem_flatMap,List.mem_flatMap]
 constructor
 ·rintro ⟨j,hj,hx⟩
  obtain ⟨h0,m,h1,rfl⟩ := mem_candL.1 hx
  obtain ⟨h2,h3⟩ := alV_iff.1 h1
  exact ⟨_,h2,mem_cand2.2 ⟨m,h3,rfl⟩⟩
 ·rintro ⟨c,hc,hx⟩
  obtain ⟨m,h3,rfl⟩ := mem_cand2.1 hx
  obtain ⟨⟨j,hj,h0,rfl⟩,_⟩ := ctV_mem.1 hc
  exact ⟨j,hj,mem_candL.2 ⟨h0,m,alV_iff.2 ⟨hc,h3⟩,rfl⟩⟩
theorem best_same (V : List RQt) (rows : List (List RC)) (l : List Nat) (lst : Int) (n : Nat) : (bestL V rows l lst n).map valC = bestP V rows l lst n := by
 rw [bestL_fold,bestP_fold,fold_sorted _ _ (KP_pw ..) (fun r h => by cases h)]
 exact (fold_min0 _).unique (K_mem V rows l lst n) (fold_min0 _)
theorem fD_len (d : RD) : (fD d).2.1.length ≤ 6 := by
 show ((d.2.1.take 6).map (fw 4)).length ≤ 6
 rw [zC]; exact List.length_take_le _ _
theorem rtV_ok {d : RD} {r : RR} (h : rtV d r = 0) : (0 ≤ d.1 ∧ d.1 ≤ 64 ∧ 0 ≤ r.1 ∧ r.1 ≤ 7 ∧ 1 ≤ r.2) ∧ d.2.1.length = d.2.2.length ∧ d.2.1.length ≠ 0 ∧ ∀ x ∈ d.2.1,(x.length : Int) = d.1 := by
 unfold rtV at h
 split at h
 ·omega
 ·split at h
  ·omega
  ·split at h
   ·omega
   ·split at h
    ·omega
    ·rename_i h1 h2 h3 h4
     refine ⟨by omega,by omega,h3,fun x hx => ?_⟩
     rcases Decidable.em ((x.length : Int) = d.1) with e | e
     ·exact e
     ·exact (h4 (List.any_eq_true.2 ⟨x,hx,by unfold badL; exact decide_eq_true e⟩)).elim
theorem fD_cells {d : RD} (h : OkD d) {f i : Nat} (hi : i < (fD d).2.1.length) (hf : f < ((fD d).2.1.getD i []).length) : SmQ (cellD (fD d).2.1 f i).2 3 := by
 have hr : (fD d).2.1.getD i [] ∈ (fD d).2.1 := getD_mem' [] hi
 obtain ⟨row,hrow,e⟩ := List.mem_map.1 (show (fD d).2.1.getD i [] ∈ (d.2.1.take 6).map (fw 4) from hr)
 have hc : cellD (fD d).2.1 f i ∈ (fD d).2.1.getD i [] := getD_mem' dC hf
 rw [← e] at hc
 obtain ⟨c,hc,e2⟩ := List.mem_map.1 (show cellD (fD d).2.1 f i ∈ (row.take 4).map t3 from hc)
 rw [← e2]
 have := (h.2.1.2 row (List.mem_of_mem_take hrow)).2 c (List.mem_of_mem_take hc)
 exact Sm.take (k := maxL) this 3
theorem fD_wf {d : RD} (h : OkD d) {r : RR} (hr : rtV (fD d) r = 0) : ∀ f,f < (fD d).1.toNat → WfD (fD d).2.1 f (zT (fD d).2.1.length) 3 := by
 intro f hf i hi
 obtain ⟨h1,h2,h3,h4⟩ := rtV_ok hr
 have hi := List.mem_range.1 hi
 have hl := h4 _ (getD_mem' [] hi)
 have hf2 : f < ((fD d).2.1.getD i []).length := by omega
 exact ⟨hi,hf2,fD_cells h hi hf2⟩
theorem bestL_ok {V : List RQt} {rows : List (List RC)} {l : List Nat} {lst : Int} {k n : Nat} (hk : k ≤ 1000) (h1k : 1 ≤ k) (hV : SmL V k) (hl : InX l V.length) (hw : ∀ f,f < n → WfD rows f l k) (hn : l.length ≤ 900) : OkL k (bestL V rows l lst n) := by
 have h : ∀ f,f ≤ n → OkL k ((zT f).foldl (featL V rows l lst) none) := by
  intro f
  induction f with
  | zero => intro _ r h; cases h
  | succ f ih => intro hf; rw [range_snoc_fold]; exact foldL_ok hk h1k hV hl hn _ _ (hw f (by omega)) (ih (by omega))
 exact h n (zz _)
def lfN (V : List RQt) (l : List Nat) : RNd := ⟨true,0,dQ,0,0,false,rQ (mnV (vsL V l)),rQ (((l.length : Nat) : Int) : Rat)⟩
def inN (l : List Nat) (f : Nat) (c : RQt) (m : Bool) (a b : Nat) : RNd := ⟨false,f,c,a,b,m,dQ,rQ (((l.length : Nat) : Int) : Rat)⟩
def treeP (V : List RQt) (rows : List (List RC)) (lst : Int) (n : Nat) : Nat → List Nat → Nat → List RNd
 | 0,l,_ => [lfN V l]
 | d + 1,l,p => match bestP V rows l lst n with
  | none => [lfN V l]
  | some b => if lsV (vsL V l) ≤ b.2.2.2 then [lfN V l] else
   inN l b.1 (rQ b.2.1) b.2.2.1 (p + 1) (p + 1 + (treeP V rows lst n d (lfL rows l b.1 b.2.1 b.2.2.1) (p + 1)).length) ::
    (treeP V rows lst n d (lfL rows l b.1 b.2.1 b.2.2.1) (p + 1) ++ treeP V rows lst n d (rgL rows l b.1 b.2.1 b.2.2.1) (p + 1 + (treeP V rows lst n d (lfL rows l b.1 b.2.1 b.2.2.1) (p + 1)).length))
def treeL (V : List RQt) (rows : List (List RC)) (lst : Int) (n : Nat) : Nat → List Nat → Nat → List RNd
 | 0,l,_ => [lfN V l]
 | d + 1,l,p => match bestL V rows l lst n with
  | none => [lfN V l]
  | some b => if lsV (vsL V l) ≤ b.2.2.2 then [lfN V l] else
   inN l b.1 b.2.1 b.2.2.1 (p + 1) (p + 1 + (treeL V rows lst n d (lfL rows l b.1 (vQ b.2.1) b.2.2.1) (p + 1)).length) ::
    (treeL V rows lst n d (lfL rows l b.1 (vQ b.2.1) b.2.2.1) (p + 1) ++ treeL V rows lst n d (rgL rows l b.1 (vQ b.2.1) b.2.2.1) (p + 1 + (treeL V rows lst n d (lfL rows l b.1 (vQ b.2.1) b.2.2.1) (p + 1)).length))
theorem bestP_mem {V : List RQt} {rows : List (List RC)} {l : List Nat} {lst : Int} {n : Nat} {b : Cand} (h : bestP V rows l lst n = some b) :
  b.1 < n ∧ b.2.1 ∈ ctV rows b.1 l ∧ few2 rows l lst b.1 b.2.1 b.2.2.1 = false ∧ b.2.2.2 = splV V rows l b.1 b.2.1 b.2.2.1 := by
 have h1 := fold_min0 (KP V rows l lst n)
 rw [← fold_sorted _ _ (KP_pw ..) (fun r h => by cases h),← bestP_fold,h] at h1
 obtain ⟨f,hf,hx⟩ := List.mem_flatMap.1 (show b ∈ (zT n).flatMap fun f => (ctV rows f l).flatMap (cand2 V rows l lst f) from h1.1)
 obtain ⟨c,hc,hx⟩ := List.mem_flatMap.1 hx
 obtain ⟨m,hm,rfl⟩ := mem_cand2.1 hx
 exact ⟨List.mem_range.1 hf,hc,hm,rfl⟩
theorem part_len (p : Nat → Bool) (l : List Nat) : (l.filter p).length + (l.filter fun j => !p j).length = l.length := by
 induction l with
 | nil => rfl
 | cons a l ih =>
  rw [List.filter_cons,List.filter_cons]
  cases p a <;> simp <;> omega
theorem part_ok {rows : List (List RC)} {l : List Nat} {lst : Int} {f : Nat} {c : Rat} {m : Bool} (hlst : 1 ≤ lst) (h : few2 rows l lst f c m = false) : 1 ≤ (lfL rows l f c m).length ∧ 1 ≤ (rgL rows l f c m).length ∧ (lfL rows l f c m).length + (rgL rows l f c m).length = l.length := by
 have h1 := part_len (fun j => goV c m (cellD rows f j)) l
 unfold few2 at h
 rw [Bool.or_eq_false_iff,decide_eq_false_iff_not,decide_eq_false_iff_not] at h
 refine ⟨by omega,by omega,h1⟩
theorem treeP_len {V : List RQt} {rows : List (List RC)} {lst : Int} {n : Nat} (hlst : 1 ≤ lst) : ∀ (d : Nat) (l : List Nat) (p : Nat),1 ≤ l.length → (treeP V rows lst n d l p).length + 1 ≤ 2 * l.length := by
 intro d
 induction d with
 | zero => intro l p hl; show 1 + 1 ≤ _; omega
 | succ d ih =>
  intro l p hl
  unfold treeP
  split
  ·show 1 + 1 ≤ _; omega
  ·rename_i b hb
   split
   ·show 1 + 1 ≤ _; omega
   ·obtain ⟨h1,h2,h3⟩ := part_ok hlst (bestP_mem hb).2.2.1
    have i1 := ih (lfL rows l b.1 b.2.1 b.2.2.1) (p + 1) h1
    have i2 := ih (rgL rows l b.1 b.2.1 b.2.2.1) (p + 1 + (treeP V rows lst n d (lfL rows l b.1 b.2.1 b.2.2.1) (p + 1)).length) h2
    rw [zF,zx]
    omega
theorem wf_part {rows : List (List RC)} {n k : Nat} {l : List Nat} (p : Nat → Bool) (h : ∀ f,f < n → WfD rows f l k) : ∀ f,f < n → WfD rows f (l.filter p) k := fun f hf i hi => h f hf i (List.mem_filter.1 hi).1
theorem smean_c {X : List Rat} {k : Nat} (hk : k ≤ 1000000) (h : AllQ X k) (hn : X.length ≤ 1000) (h1 : 1 ≤ X.length) :
  R FF 254 [.agg [(AV.i .i64 ((X.length : Int))),.b (ng (sR X).num),(AV.l 1 (List.map u (D (sR X).num.natAbs))),(AV.l 1 (List.map u (D (sR X).den))),.b (ng (pR X).num),(AV.l 1 (List.map u (D (pR X).num.natAbs))),(AV.l 1 (List.map u (D (pR X).den)))]] = some (AV.agg [AV.b (ng (zV (mnV X))),(AV.l 1 (List.map u (D (zM (zV (mnV X)))))),(AV.l 1 (List.map u (D (Rat.den (mnV X)))))]) := by
 have s1 := sR_sq h
 have s3 := len_mul hn (show k + 1 ≤ 1000001 by omega)
 have s6 := ivn_sq (n := X.length) (by omega)
 have f2 := qfracn_c (n := X.length) (by omega)
 have f3 := qmul_cc (s := sR X) (t := ivn X.length) (k := 1000001001) (j := 2) (by omega) (by omega) (by omega) (by omega)
 have e1 : ¬ (X.length : Int) < 1 := by omega
 have e2 : max (X.length : Int) 1 = (X.length : Int) := by omega
 unfold mnV
 generalize pR X = p at *
 generalize sR X = s at *
 generalize s * ivn X.length = y at *
 rw [R_go FF F254 c254.eq_1]
 simp only [RB,RL,un,St.none,za,zd,ze,zf,zb,zj,zk,zm,zn,zc,zg,zh,zi,↓reduceIte,reduceCtorEq,pack,pid,parN,lid,chkK,apartV,Heap.none,f2,f3,n64,e1,e2]
theorem bestL_mem {V : List RQt} {rows : List (List RC)} {l : List Nat} {lst : Int} {n : Nat} {bf : Nat} {bc : RQt} {bm : Bool} {bl : Rat} (h : bestL V rows l lst n = some (bf,bc,bm,bl)) :
  bf < n ∧ vQ bc ∈ ctV rows bf l ∧ few2 rows l lst bf (vQ bc) bm = false ∧ bl = splV V rows l bf (vQ bc) bm := by
 have h1 : bestP V rows l lst n = some (bf,vQ bc,bm,bl) := by rw [← best_same,h]; rfl
 exact bestP_mem h1
theorem treeL_len {V : List RQt} {rows : List (List RC)} {lst : Int} {n : Nat} (hlst : 1 ≤ lst) : ∀ (d : Nat) (l : List Nat) (p : Nat),1 ≤ l.length → (treeL V rows lst n d l p).length + 1 ≤ 2 * l.length := by
 intro d
 induction d with
 | zero => intro l p hl; show 1 + 1 ≤ _; omega
 | succ d ih =>
  intro l p hl
  unfold treeL
  split
  ·show 1 + 1 ≤ _; omega
  ·rename_i b hb
   split
   ·show 1 + 1 ≤ _; omega
   ·obtain ⟨bf,bc,bm,bl⟩ := b
    obtain ⟨h1,h2,h3⟩ := part_ok hlst (bestL_mem hb).2.2.1
    have i1 := ih (lfL rows l bf (vQ bc) bm) (p + 1) h1
    have i2 := ih (rgL rows l bf (vQ bc) bm) (p + 1 + (treeL V rows lst n d (lfL rows l bf (vQ bc) bm) (p + 1)).length) h2
    rw [zF,zx]
    show (treeL V rows lst n d (lfL rows l bf (vQ bc) bm) (p + 1)).length + (treeL V rows lst n d (rgL rows l bf (vQ bc) bm) (p + 1 + (treeL V rows lst n d (lfL rows l bf (vQ bc) bm) (p + 1)).length)).length + 1 + 1 ≤ _
    omega
def trP (d : RD) (r : RR) : List RNd := treeP d.2.2 d.2.1 r.2 d.1.toNat r.1.toNat (zT d.2.1.length) 0
def trL (d : RD) (r : RR) : List RNd := treeL d.2.2 d.2.1 r.2 d.1.toNat r.1.toNat (zT d.2.1.length) 0
theorem snocNd9 (out : List RNd) (x : RNd) : (out ++ [x]).take (out.length + 1) = out ++ [x] := zp (by rw [zx]; exact zz _)
theorem node9_0 {k : Nat} (hk : k ≤ 300) (h3k : 3 ≤ k) {V : List RQt} {rows : List (List RC)} {l : List Nat} {dep lst : Int} {n : Nat} {out : List RNd} (hV : SmL V k) (hVl : V.length ≤ 900) (hl : InX l V.length) (hr : rows.length ≤ 1000) (hn : l.length ≤ 900) (h1 : 1 ≤ l.length) (ho : out.length + 2 * l.length ≤ 200) :
  R FF 238 [.ownp [(AV.i .i64 ((n : Int))),.l 1 (rows.map eRw),.l 3 (V.map eQ),(AV.i .i64 dep),(AV.i .i64 lst),.own true 14 (out.map eNd)],.l 1 (l.map eX),(AV.i .i64 0)] = some (.back (AV.i .i64 ((out.length : Int))) [.ownp [(AV.i .i64 ((n : Int))),.l 1 (rows.map eRw),.l 3 (V.map eQ),(AV.i .i64 dep),(AV.i .i64 lst),.own true 14 ((out ++ treeP V rows lst n 0 l out.length).map eNd)]]) := by
 have ha := vsL_all hV (by omega) hl
 have f1 := gof_c (f := (n : Int)) (rows := rows.map eRw) (k := k) (by omega) (by omega) hV (by omega) hl (by omega)
 have f2 := smean_c (X := vsL V l) (k := k) (by omega) ha (by rw [vsL_len]; omega) (by rw [vsL_len]; omega)
 rw [vsL_len] at f2
 have f3 := qof_c (n := (l.length : Int)) (by omega) (by omega)
 have e1 : treeP V rows lst n 0 l out.length = [lfN V l] := rfl
 rw [e1]
 have e2 : lfN V l = ⟨true,0,dQ,0,0,false,rQ (mnV (vsL V l)),rQ (((l.length : Nat) : Int) : Rat)⟩ := rfl
 rw [e2]
 have m1 : ∀ x y : Rat,List.map eNd out ++ [[AV.b true,.i .i64 0,.b false,.l 1 [],.l 1 [],.i .i64 0,.i .i64 0,.b false,.b (ng x.num),(AV.l 1 (List.map u (D x.num.natAbs))),(AV.l 1 (List.map u (D x.den))),.b (ng y.num),(AV.l 1 (List.map u (D y.num.natAbs))),(AV.l 1 (List.map u (D y.den)))]] = List.map eNd (out ++ [⟨true,0,dQ,0,0,false,rQ x,rQ y⟩]) := by
  intro x y; rw [jb]; rfl
 generalize sR (vsL V l) = s at *
 generalize pR (vsL V l) = p at *
 generalize mnV (vsL V l) = y at *
 generalize ((l.length : Int) : Rat) = w at *
 have b2 : (out.length + 1) * 208 ≤ 140737488355328 := by omega
 have m5 := snocNd9 out ⟨true,0,dQ,0,0,false,rQ y,rQ w⟩
 have c1 : ¬ 255 < ((out.length + 1 : Nat) : Int) + 2 := by omega
 rw [R_go FF F238 c238.eq_1]
 simp only [RB,RL,un,St.none,za,zd,ze,zf,zb,zj,zk,zm,zn,zc,zg,zh,zi,↓reduceIte,reduceCtorEq,pack,pid,parN,lid,chkK,apartV,Heap.none,f1,f2,f3,n64,eX_rules,eX_row,eNd_rules,eNd_row,nJ,nK,Row.freeze,m1,m5,b2,c1,zt]
theorem set_here9 (out : List RNd) (x y : RNd) (A B : List RNd) : (out ++ [x] ++ A ++ B).set out.length y = out ++ y :: (A ++ B) := by
 rw [List.append_assoc,List.append_assoc,List.set_append_right _ _ (zz _),Nat.sub_self]; rfl
theorem node9_c {k : Nat} (hk : k ≤ 300) (h3k : 3 ≤ k) {V : List RQt} {rows : List (List RC)} {dep lst : Int} {n : Nat} (hlst : 1 ≤ lst) (hV : SmL V k) (hVl : V.length ≤ 900) (hr : rows.length ≤ 1000) (hn64 : n ≤ 1000) : ∀ (d : Nat) (l : List Nat) (out : List RNd),d ≤ 1000 → InX l V.length → (∀ f,f < n → WfD rows f l k) → l.length ≤ 90 → 1 ≤ l.length → out.length + 2 * l.length ≤ 200 →
  R FF 238 [.ownp [(AV.i .i64 ((n : Int))),.l 1 (rows.map eRw),.l 3 (V.map eQ),(AV.i .i64 dep),(AV.i .i64 lst),.own true 14 (out.map eNd)],.l 1 (l.map eX),(AV.i .i64 ((d : Int)))] = some (.back (AV.i .i64 ((out.length : Int))) [.ownp [(AV.i .i64 ((n : Int))),.l 1 (rows.map eRw),.l 3 (V.map eQ),(AV.i .i64 dep),(AV.i .i64 lst),.own true 14 ((out ++ treeP V rows lst n d l out.length).map eNd)]]) := by
 intro d
 induction d with
 | zero => intro l out _ hl hw hn h1 ho; exact node9_0 hk h3k hV hVl hl hr (by omega) h1 ho
 | succ d ih =>
  intro l out hd hl hw hn h1 ho
  have ha := vsL_all hV (by omega) hl
  have f1 := gof_c (f := (n : Int)) (rows := rows.map eRw) (k := k) (by omega) (by omega) hV (by omega) hl (by omega)
  have f2 := smean_c (X := vsL V l) (k := k) (by omega) ha (by rw [vsL_len]; omega) (by rw [vsL_len]; omega)
  have f4 := sloss_c (X := vsL V l) (k := k) (by omega) ha (by rw [vsL_len]; omega)
  rw [vsL_len] at f2 f4
  have zl := lsV_sq ha (by rw [vsL_len]; omega)
  rw [vsL_len] at zl
  have zz1 : l.length * (2 * k + 1) ≤ 90 * 601 := Nat.mul_le_mul hn (by omega)
  have zz2 : l.length * (k + 1) ≤ 90 * 301 := Nat.mul_le_mul hn (by omega)
  have f3 := qof_c (n := (l.length : Int)) (by omega) (by omega)
  have f5 := best_c (dep := dep) (lst := lst) (k := k) (by omega) (by omega) hV hVl hl hr hw (by omega) hn64
  have m1 : ∀ x y : Rat,List.map eNd out ++ [[AV.b true,.i .i64 0,.b false,.l 1 [],.l 1 [],.i .i64 0,.i .i64 0,.b false,.b (ng x.num),(AV.l 1 (List.map u (D x.num.natAbs))),(AV.l 1 (List.map u (D x.den))),.b (ng y.num),(AV.l 1 (List.map u (D y.num.natAbs))),(AV.l 1 (List.map u (D y.den)))]] = List.map eNd (out ++ [⟨true,0,dQ,0,0,false,rQ x,rQ y⟩]) := by
   intro x y; rw [jb]; rfl
  have b2 : (out.length + 1) * 208 ≤ 140737488355328 := by omega
  have m5 : ∀ x : RNd,(out ++ [x]).take (out.length + 1) = out ++ [x] := snocNd9 out
  have e3 : IntKind.i64.wrap (((out.length + 1 : Nat) : Int) + 2) = ((out.length + 3 : Nat) : Int) := by rw [w64 (by omega) (by omega)]; omega
  have c1 : ¬ 255 < ((out.length + 3 : Nat) : Int) := by omega
  have c0 : ¬ ((d + 1 : Nat) : Int) = 0 := by omega
  have e4 : IntKind.i64.wrap (((d + 1 : Nat) : Int) - 1) = (d : Int) := by rw [w64 (by omega) (by omega)]; omega
  have hlf : ∀ T : List RNd,T = [lfN V l] → T = [⟨true,0,dQ,0,0,false,rQ (mnV (vsL V l)),rQ (((l.length : Nat) : Int) : Rat)⟩] := fun T h => h
  cases hb : bestP V rows l lst n with
  | none =>
   have e1 : treeP V rows lst n (d + 1) l out.length = [⟨true,0,dQ,0,0,false,rQ (mnV (vsL V l)),rQ (((l.length : Nat) : Int) : Rat)⟩] := by
    rw [treeP,hb]; rfl
   rw [e1]
   rw [hb,show spO none = eSp 0 dQ false dQ from rfl] at f5
   simp only [eSp,Option.isSome,zR] at f5
   generalize sR (vsL V l) = s at *
   generalize pR (vsL V l) = p at *
   generalize mnV (vsL V l) = y at *
   generalize lsV (vsL V l) = z at *
   generalize ((l.length : Int) : Rat) = w at *
   rw [R_go FF F238 c238.eq_1]
   simp only [RB,RL,un,St.none,za,zd,ze,zf,zb,zj,zk,zm,zn,zc,zg,zh,zi,↓reduceIte,reduceCtorEq,pack,pid,parN,lid,chkK,apartV,Heap.none,f1,f2,f3,f4,f5,n64,eX_rules,eX_row,eNd_rules,eNd_row,nJ,nK,Row.freeze,m1,m5,b2,c1,c0,e3,e4,zt]
  | some b =>
   obtain ⟨bf,bc,bm,bl⟩ := b
   have kk : bf < n ∧ bc ∈ ctV rows bf l ∧ few2 rows l lst bf bc bm = false ∧ bl = splV V rows l bf bc bm := bestP_mem hb
   obtain ⟨k1,k2,k3,k4⟩ := kk
   have k5 : sq bc ≤ k := (ctV_ok (by omega) (hw bf k1)).1 _ k2
   have k6 : sq bl ≤ 8000001 := by rw [show bl = splV V rows l bf bc bm from k4]; exact splV_sq (by omega) (by omega) hV hl (by omega)
   have g6 := vcmp_c (x := rQ bl) (y := rQ (lsV (vsL V l))) (k := 8000001) (j := 8000001) (sm_cq k6) (sm_cq (zE zl (by omega))) (by omega) (by omega)
   rw [vQ_rQ,vQ_rQ] at g6
   rw [hb,spO_some] at f5
   have q1 := qcmp_ge (x := bl) (y := lsV (vsL V l))
   by_cases hle : lsV (vsL V l) ≤ bl
   ·have e1 : treeP V rows lst n (d + 1) l out.length = [⟨true,0,dQ,0,0,false,rQ (mnV (vsL V l)),rQ (((l.length : Nat) : Int) : Rat)⟩] := by
     rw [treeP,hb]; exact if_pos hle
    rw [e1]
    have c6 := q1.2 hle
    simp only [eSp,Option.isSome,rQ] at f5 g6
    generalize sR (vsL V l) = s at *
    generalize pR (vsL V l) = p at *
    generalize mnV (vsL V l) = y at *
    generalize lsV (vsL V l) = z at *
    generalize ((l.length : Int) : Rat) = w at *
    rw [R_go FF F238 c238.eq_1]
    simp only [RB,RL,un,St.none,za,zd,ze,zf,zb,zj,zk,zm,zn,zc,zg,zh,zi,↓reduceIte,reduceCtorEq,pack,pid,parN,lid,chkK,apartV,Heap.none,f1,f2,f3,f4,f5,g6,c6,n64,eX_rules,eX_row,eNd_rules,eNd_row,nJ,nK,Row.freeze,m1,m5,b2,c1,c0,e3,e4,zt]
   ·obtain ⟨h2,h3,h4⟩ := part_ok hlst k3
    have hA : InX (lfL rows l bf bc bm) V.length := filt_in hl
    have hB : InX (rgL rows l bf bc bm) V.length := filt_in hl
    have wA : ∀ f,f < n → WfD rows f (lfL rows l bf bc bm) k := wf_part _ hw
    have wB : ∀ f,f < n → WfD rows f (rgL rows l bf bc bm) k := wf_part _ hw
    have p1 := parted_c (fe := (n : Int)) (f := bf) (c := rQ bc) (ls := rQ bl) (m := bm) (es := V.map eQ) (k := k) (by omega) (sm_cq k5) hr (hw bf k1) (by omega)
    rw [vQ_rQ] at p1
    change R FF 256 _ = some (AV.tup [AV.l 1 ((lfL rows l bf bc bm).map eX),AV.l 1 ((rgL rows l bf bc bm).map eX)]) at p1
    have tA := treeP_len (V := V) (rows := rows) (n := n) hlst d (lfL rows l bf bc bm) (out.length + 1) h2
    have i1 := ih (lfL rows l bf bc bm) (out ++ [lfN V l]) (by omega) hA wA (by omega) h2 (by rw [zx,jg]; omega)
    rw [show (out ++ [lfN V l]).length = out.length + 1 by rw [zx,jg]] at i1
    have i2 := ih (rgL rows l bf bc bm) (out ++ [lfN V l] ++ treeP V rows lst n d (lfL rows l bf bc bm) (out.length + 1)) (by omega) hB wB (by omega) h3 (by rw [zx,zx,jg]; omega)
    have hlen2 : (out ++ [lfN V l] ++ treeP V rows lst n d (lfL rows l bf bc bm) (out.length + 1)).length = out.length + 1 + (treeP V rows lst n d (lfL rows l bf bc bm) (out.length + 1)).length := by rw [zx,zx,jg]
    rw [hlen2] at i2
    have e1 : treeP V rows lst n (d + 1) l out.length = inN l bf (rQ bc) bm (out.length + 1) (out.length + 1 + (treeP V rows lst n d (lfL rows l bf bc bm) (out.length + 1)).length) :: (treeP V rows lst n d (lfL rows l bf bc bm) (out.length + 1) ++ treeP V rows lst n d (rgL rows l bf bc bm) (out.length + 1 + (treeP V rows lst n d (lfL rows l bf bc bm) (out.length + 1)).length)) := by
     rw [treeP,hb]; exact if_neg hle
    rw [e1]
    have c6 : ¬ 0 ≤ qcmp bl (lsV (vsL V l)) := fun h => hle (q1.1 h)
    have hlfN : lfN V l = ⟨true,0,dQ,0,0,false,rQ (mnV (vsL V l)),rQ (((l.length : Nat) : Int) : Rat)⟩ := rfl
    have hs := set_here9 out (lfN V l) (inN l bf (rQ bc) bm (out.length + 1) (out.length + 1 + (treeP V rows lst n d (lfL rows l bf bc bm) (out.length + 1)).length)) (treeP V rows lst n d (lfL rows l bf bc bm) (out.length + 1)) (treeP V rows lst n d (rgL rows l bf bc bm) (out.length + 1 + (treeP V rows lst n d (lfL rows l bf bc bm) (out.length + 1)).length))
    rw [hlfN] at i1 i2 hs hlen2
    generalize treeP V rows lst n d (rgL rows l bf bc bm) (out.length + 1 + (treeP V rows lst n d (lfL rows l bf bc bm) (out.length + 1)).length) = TB at *
    generalize treeP V rows lst n d (lfL rows l bf bc bm) (out.length + 1) = TA at *
    generalize hq : out.length + 1 + TA.length = q at *
    have hpc := eNd_row.2.2.2.1 (out ++ [(⟨true,0,dQ,0,0,false,rQ (mnV (vsL V l)),rQ (((l.length : Nat) : Int) : Rat)⟩ : RNd)] ++ TA ++ TB) out.length (inN l bf (rQ bc) bm (out.length + 1) q)
    rw [hs] at hpc
    have hl4 : (out ++ [(⟨true,0,dQ,0,0,false,rQ (mnV (vsL V l)),rQ (((l.length : Nat) : Int) : Rat)⟩ : RNd)] ++ TA ++ TB).length = q + TB.length := by rw [zx,hlen2]
    have hl5 : (out ++ inN l bf (rQ bc) bm (out.length + 1) q :: (TA ++ TB)).length = q + TB.length := by
     rw [zx,zF,zx]; omega
    have mq := zp (Nat.le_of_eq hlen2)
    have mq2 := zp (Nat.le_of_eq hl4)
    have hidx : (out.length : Int) < ((q + TB.length : Nat) : Int) := by omega
    have hidx2 : out.length < q + TB.length := by omega
    generalize hO : out ++ inN l bf (rQ bc) bm (out.length + 1) q :: (TA ++ TB) = O at *
    change putC 14 _ out.length 0 [AV.b false,AV.i .i64 (bf : Int),AV.b (ng bc.num),(AV.l 1 (List.map u (D bc.num.natAbs))),(AV.l 1 (List.map u (D bc.den))),AV.i .i64 ((out.length + 1 : Nat) : Int),AV.i .i64 (q : Int),AV.b bm,AV.b false,AV.l 1 [],AV.l 1 [],AV.b (ng (((l.length : Nat) : Int) : Rat).num),(AV.l 1 (List.map u (D (((l.length : Nat) : Int) : Rat).num.natAbs))),(AV.l 1 (List.map u (D (((l.length : Nat) : Int) : Rat).den)))] = _ at hpc
    simp only [eSp,Option.isSome,rQ] at f5 g6 p1
    have hlr : (out ++ [(⟨true,0,dQ,0,0,false,rQ (mnV (vsL V l)),rQ (((l.length : Nat) : Int) : Rat)⟩ : RNd)]).length = out.length + 1 := by rw [zx,jg]
    generalize sR (vsL V l) = s at *
    generalize pR (vsL V l) = p at *
    generalize mnV (vsL V l) = y at *
    generalize lsV (vsL V l) = z at *
    generalize ((l.length : Int) : Rat) = w at *
    generalize lfL rows l bf bc bm = A at *
    generalize rgL rows l bf bc bm = B at *
    have mtO : zQ (q + TB.length) (List.map eNd O) = List.map eNd O := zp (by rw [zC]; omega)
    rw [R_go FF F238 c238.eq_1]
    simp only [RB,RL,un,St.none,za,zd,ze,zf,zb,zj,zk,zm,zn,zc,zg,zh,zi,↓reduceIte,reduceCtorEq,pack,pid,parN,lid,chkK,apartV,Heap.none,f1,f2,f3,f4,f5,g6,c6,p1,n64,eX_rules,eX_row,eNd_rules,eNd_row,nJ,nK,Row.freeze,m1,m5,b2,c1,c0,e3,e4,zt,i1,i2,hlen2,hl4,hidx,hidx2,hpc,hlr,mtO,mq,mq2,zq]
theorem grown9_c {k : Nat} (hk : k ≤ 300) (h3k : 3 ≤ k) {V : List RQt} {rows : List (List RC)} {lst : Int} {n : Nat} (hlst : 1 ≤ lst) (hV : SmL V k) (hVl : V.length ≤ 900) (hr : rows.length ≤ 1000) (hn64 : n ≤ 1000) : ∀ (d : Nat) (l : List Nat) (p : Nat),d ≤ 1000 → InX l V.length → (∀ f,f < n → WfD rows f l k) → l.length ≤ 90 → 1 ≤ l.length → p + 2 * l.length ≤ 200 →
  R FF 331 [.agg [(AV.i .i64 ((n : Int))),.l 1 (rows.map eRw),.l 3 (V.map eQ)],.l 1 (l.map eX),(AV.i .i64 ((d : Int))),(AV.i .i64 lst),(AV.i .i64 ((p : Int)))] = some (.own true 14 ((treeL V rows lst n d l p).map eNd)) := by
 intro d
 induction d with
 | zero =>
  intro l p hd hl hw hn h1 hp
  have f1 := mean26_c (f := (n : Int)) (rows := rows.map eRw) (k := k) (by omega) (by omega) hV (by omega) hl (by omega)
  have f3 := qof_c (n := (l.length : Int)) (by omega) (by omega)
  have f5 := best26_c (lst := lst) (k := k) (by omega) (by omega) hV hVl hl hr hw (by omega) hn64
  have e1 : (treeL V rows lst n 0 l p).map eNd = [[AV.b true,.i .i64 0,.b false,.l 1 [],.l 1 [],.i .i64 0,.i .i64 0,.b false,.b (ng (mnV (vsL V l)).num),(AV.l 1 (List.map u (D (mnV (vsL V l)).num.natAbs))),(AV.l 1 (List.map u (D (mnV (vsL V l)).den))),.b (ng (((l.length : Nat) : Int) : Rat).num),(AV.l 1 (List.map u (D (((l.length : Nat) : Int) : Rat).num.natAbs))),(AV.l 1 (List.map u (D (((l.length : Nat) : Int) : Rat).den)))]] := rfl
  rw [e1]
  generalize bestL V rows l lst n = res at *
  obtain ⟨z,oc,om,ol,ez⟩ := spL_form res
  rw [ez] at f5
  simp only [eSp] at f5
  generalize mnV (vsL V l) = y at *
  generalize ((l.length : Int) : Rat) = w at *
  rw [R_go FF F331 c331.eq_1]
  simp only [RB,RL,un,St.none,za,zd,ze,zf,zb,zj,zk,zm,zn,zc,zg,zh,zi,↓reduceIte,reduceCtorEq,pack,pid,parN,lid,chkK,apartV,Heap.none,f1,f3,f5,n64,eX_rules,eX_row,eNd_rules,eNd_row,Row.freeze]
 | succ d ih =>
  intro l p hd hl hw hn h1 hp
  have f1 := mean26_c (f := (n : Int)) (rows := rows.map eRw) (k := k) (by omega) (by omega) hV (by omega) hl (by omega)
  have f2 := loss26_c (f := (n : Int)) (rows := rows.map eRw) (k := k) (by omega) (by omega) hV (by omega) hl (by omega)
  have f3 := qof_c (n := (l.length : Int)) (by omega) (by omega)
  have f5 := best26_c (lst := lst) (k := k) (by omega) (by omega) hV hVl hl hr hw (by omega) hn64
  have ha := vsL_all hV (by omega) hl
  have zl := lsV_sq ha (by rw [vsL_len]; omega)
  rw [vsL_len] at zl
  have zz1 : l.length * (2 * k + 1) ≤ 90 * 601 := Nat.mul_le_mul hn (by omega)
  have zz2 : l.length * (k + 1) ≤ 90 * 301 := Nat.mul_le_mul hn (by omega)
  have c0 : ¬ ((d + 1 : Nat) : Int) = 0 := by omega
  have e4 : IntKind.i64.wrap (((d + 1 : Nat) : Int) - 1) = (d : Int) := by rw [w64 (by omega) (by omega)]; omega
  have e5 : IntKind.i64.wrap ((p : Int) + 1) = ((p + 1 : Nat) : Int) := w64succ (by omega)
  have elf : List.map eNd [lfN V l] = [[AV.b true,.i .i64 0,.b false,.l 1 [],.l 1 [],.i .i64 0,.i .i64 0,.b false,.b (ng (mnV (vsL V l)).num),(AV.l 1 (List.map u (D (mnV (vsL V l)).num.natAbs))),(AV.l 1 (List.map u (D (mnV (vsL V l)).den))),.b (ng (((l.length : Nat) : Int) : Rat).num),(AV.l 1 (List.map u (D (((l.length : Nat) : Int) : Rat).num.natAbs))),(AV.l 1 (List.map u (D (((l.length : Nat) : Int) : Rat).den)))]] := rfl
  cases hb : bestL V rows l lst n with
  | none =>
   have e1 : treeL V rows lst n (d + 1) l p = [lfN V l] := by rw [treeL,hb]
   rw [e1,elf]
   rw [hb,show spL none = eSp 0 dQ false dQ from rfl] at f5
   simp only [eSp,Option.isSome,zR] at f5
   generalize mnV (vsL V l) = y at *
   generalize lsV (vsL V l) = z at *
   generalize ((l.length : Int) : Rat) = w at *
   rw [R_go FF F331 c331.eq_1]
   simp only [RB,RL,un,St.none,za,zd,ze,zf,zb,zj,zk,zm,zn,zc,zg,zh,zi,↓reduceIte,reduceCtorEq,pack,pid,parN,lid,chkK,apartV,Heap.none,f1,f2,f3,f5,n64,eX_rules,eX_row,eNd_rules,eNd_row,Row.freeze,c0]
  | some b =>
   obtain ⟨bf,bc,bm,bl⟩ := b
   obtain ⟨k1,k2,k3,k4⟩ := bestL_mem hb
   have k5 : SmQ bc k := (bestL_ok (lst := lst) (by omega) (by omega) hV hl hw (by omega) _ hb).2
   have k6 : sq bl ≤ 8000001 := by rw [k4]; exact splV_sq (by omega) (by omega) hV hl (by omega)
   have g6 := vcmp_c (x := rQ bl) (y := rQ (lsV (vsL V l))) (k := 8000001) (j := 8000001) (sm_cq k6) (sm_cq (zE zl (by omega))) (by omega) (by omega)
   rw [vQ_rQ,vQ_rQ] at g6
   rw [hb,spL_some] at f5
   have q1 := qcmp_ge (x := bl) (y := lsV (vsL V l))
   by_cases hle : lsV (vsL V l) ≤ bl
   ·have e1 : treeL V rows lst n (d + 1) l p = [lfN V l] := by rw [treeL,hb]; exact if_pos hle
    rw [e1,elf]
    have c6 := q1.2 hle
    simp only [eSp,Option.isSome,rQ] at f5 g6
    generalize mnV (vsL V l) = y at *
    generalize lsV (vsL V l) = z at *
    generalize ((l.length : Int) : Rat) = w at *
    rw [R_go FF F331 c331.eq_1]
    simp only [RB,RL,un,St.none,za,zd,ze,zf,zb,zj,zk,zm,zn,zc,zg,zh,zi,↓reduceIte,reduceCtorEq,pack,pid,parN,lid,chkK,apartV,Heap.none,f1,f2,f3,f5,g6,c6,n64,eX_rules,eX_row,eNd_rules,eNd_row,Row.freeze,c0]
   ·obtain ⟨h2,h3,h4⟩ := part_ok hlst k3
    have hA : InX (lfL rows l bf (vQ bc) bm) V.length := filt_in hl
    have hB : InX (rgL rows l bf (vQ bc) bm) V.length := filt_in hl
    have wA : ∀ f,f < n → WfD rows f (lfL rows l bf (vQ bc) bm) k := wf_part _ hw
    have wB : ∀ f,f < n → WfD rows f (rgL rows l bf (vQ bc) bm) k := wf_part _ hw
    have p1 := parted26_c (fe := (n : Int)) (f := bf) (c := bc) (ls := rQ bl) (m := bm) (es := V.map eQ) (k := k) (by omega) k5 hr (hw bf k1) (by omega)
    change R FF 282 _ = some (AV.tup [AV.l 1 ((lfL rows l bf (vQ bc) bm).map eX),AV.l 1 ((rgL rows l bf (vQ bc) bm).map eX)]) at p1
    have tA := treeL_len (V := V) (rows := rows) (n := n) hlst d (lfL rows l bf (vQ bc) bm) (p + 1) h2
    have i1 := ih (lfL rows l bf (vQ bc) bm) (p + 1) (by omega) hA wA (by omega) h2 (by omega)
    have i2 := ih (rgL rows l bf (vQ bc) bm) (p + 1 + (treeL V rows lst n d (lfL rows l bf (vQ bc) bm) (p + 1)).length) (by omega) hB wB (by omega) h3 (by omega)
    have e1 : treeL V rows lst n (d + 1) l p = inN l bf bc bm (p + 1) (p + 1 + (treeL V rows lst n d (lfL rows l bf (vQ bc) bm) (p + 1)).length) :: (treeL V rows lst n d (lfL rows l bf (vQ bc) bm) (p + 1) ++ treeL V rows lst n d (rgL rows l bf (vQ bc) bm) (p + 1 + (treeL V rows lst n d (lfL rows l bf (vQ bc) bm) (p + 1)).length)) := by
     rw [treeL,hb]; exact if_neg hle
    rw [e1]
    have tB := treeL_len (V := V) (rows := rows) (n := n) hlst d (rgL rows l bf (vQ bc) bm) (p + 1 + (treeL V rows lst n d (lfL rows l bf (vQ bc) bm) (p + 1)).length) h3
    have c6 : ¬ 0 ≤ qcmp bl (lsV (vsL V l)) := fun h => hle (q1.1 h)
    generalize treeL V rows lst n d (rgL rows l bf (vQ bc) bm) (p + 1 + (treeL V rows lst n d (lfL rows l bf (vQ bc) bm) (p + 1)).length) = TB at *
    generalize treeL V rows lst n d (lfL rows l bf (vQ bc) bm) (p + 1) = TA at *
    have e6 : IntKind.i64.wrap (((p + 1 : Nat) : Int) + (TA.length : Int)) = ((p + 1 + TA.length : Nat) : Int) := by rw [w64 (by omega) (by omega)]; omega
    have b1 : (1 + TA.length) * 208 ≤ 140737488355328 := by omega
    have b2 : (1 + TA.length + TB.length) * 208 ≤ 140737488355328 := by omega
    rw [List.map_cons,jb,show eNd (inN l bf bc bm (p + 1) (p + 1 + TA.length)) = [AV.b false,AV.i .i64 (bf : Int),AV.b bc.1,(AV.l 1 (List.map u bc.2.1)),(AV.l 1 (List.map u bc.2.2)),AV.i .i64 ((p + 1 : Nat) : Int),AV.i .i64 ((p + 1 + TA.length : Nat) : Int),AV.b bm,AV.b false,AV.l 1 [],AV.l 1 [],AV.b (ng (((l.length : Nat) : Int) : Rat).num),(AV.l 1 (List.map u (D (((l.length : Nat) : Int) : Rat).num.natAbs))),(AV.l 1 (List.map u (D (((l.length : Nat) : Int) : Rat).den)))] from rfl]
    simp only [eSp,Option.isSome,rQ] at f5 g6 p1
    generalize mnV (vsL V l) = y at *
    generalize lsV (vsL V l) = z at *
    generalize ((l.length : Int) : Rat) = w at *
    generalize lfL rows l bf (vQ bc) bm = A at *
    generalize rgL rows l bf (vQ bc) bm = B at *
    rw [R_go FF F331 c331.eq_1]
    simp only [RB,RL,un,St.none,za,zd,ze,zf,zb,zj,zk,zm,zn,zc,zg,zh,zi,↓reduceIte,reduceCtorEq,pack,pid,parN,lid,chkK,apartV,Heap.none,f1,f2,f3,f5,g6,c6,p1,n64,eX_rules,eX_row,eNd_rules,eNd_row,Row.freeze,c0,e4,e5,e6,i1,i2,b1,b2]
    have t1 : ∀ x : List AV,zQ (1 + TA.length) ([x] ++ List.map eNd TA) = [x] ++ List.map eNd TA := fun x => zp (by rw [zx,zC]; exact zz _)
    have t2 : ∀ x : List AV,zQ (1 + TA.length + TB.length) ([x] ++ List.map eNd TA ++ List.map eNd TB) = [x] ++ List.map eNd TA ++ List.map eNd TB := fun x => zp (by rw [zx,zx,zC,zC]; exact zz _)
    rw [t1,t2,jb]
    rfl
def SameN (k : Nat) (x y : RNd) : Prop := (∃ a,x.cov = rQ a ∧ y.cov = rQ a ∧ sq a ≤ k) ∧
 ((x.leaf = true ∧ y.leaf = true ∧ ∃ v,x.val = rQ v ∧ y.val = rQ v ∧ sq v ≤ k) ∨ (x.leaf = false ∧ y.leaf = false ∧ x.ft = y.ft ∧ x.lft = y.lft ∧ x.rgt = y.rgt ∧ x.miss = y.miss ∧ x.cut = rQ (vQ y.cut) ∧ SmQ y.cut k))
theorem is_cc {a : Rat} {k : Nat} (hk : k ≤ 100000000) (h1k : 1 ≤ k) (h : sq a ≤ k) : R FF 171 [(AV.agg [AV.b (ng (zV a)),(AV.l 1 (List.map u (D (zM (zV a))))),(AV.l 1 (List.map u (D (Rat.den a))))]),(AV.agg [AV.b (ng (zV a)),(AV.l 1 (List.map u (D (zM (zV a))))),(AV.l 1 (List.map u (D (Rat.den a))))])] = some (.b true) := by
 have h1 := is10_c (x := a) (q := ng a.num) hk h1k h (sm_cq h)
 rwa [qv_cq,decide_eq_true rfl] at h1
theorem same_l0 {T T' : List RNd} {k : Nat} (hk : k ≤ 100000000) (h1k : 1 ≤ k) (hT : T.length ≤ 100000) (hl : T.length = T'.length) (h : ∀ i,i < T.length → SameN k (T.getD i dNd) (T'.getD i dNd)) : ∀ (d i : Nat),i + d = T.length →
  LP FF [(0,0),(1,0),(5,0)] [(4,0)] b274_0 [.l 14 (T.map eNd),.l 14 (T'.map eNd),(AV.i .i64 ((i : Int)))] = some (.exit 0,[.junk]) := by
 intro d
 induction d with
 | zero =>
  intro i hi
  have c1 : ¬ (i : Int) < (T.length : Int) := by omega
  rw [LP_go FF b274_0.eq_1]
  simp only [RB,RL,un,St.none,za,zd,ze,zf,zb,zj,zk,zm,zn,zc,zg,zh,zi,↓reduceIte,reduceCtorEq,pack,pid,parN,lid,chkK,apartV,Heap.none,c1]
 | succ d ih =>
  intro i hi
  have h9 := ih (i + 1) (by omega)
  have c1 : (i : Int) < (T.length : Int) := by omega
  have c2 : (i : Int) < (T'.length : Int) := by omega
  have e2 : IntKind.i64.wrap ((i : Int) + 1) = ((i + 1 : Nat) : Int) := w64succ (by omega)
  have hs := h i (by omega)
  have e3 : List.map eNd T = List.map eNd T := rfl
  obtain ⟨x,hx⟩ : ∃ x,x = T.getD i dNd := ⟨_,rfl⟩
  obtain ⟨y,hy⟩ : ∃ y,y = T'.getD i dNd := ⟨_,rfl⟩
  rw [← hx,← hy] at hs
  have hx' := hx.symm
  have hy' := hy.symm
  obtain ⟨xl,xf,xc,xa,xb,xm,xv,xw⟩ := x
  obtain ⟨yl,yf,yc,ya,yb,ym,yv,yw⟩ := y
  obtain ⟨⟨a,ha1,ha2,ha3⟩,hs⟩ := hs
  simp only at ha1 ha2
  subst ha1 ha2
  have g1 := is_cc hk h1k ha3
  rcases hs with ⟨h1,h2,v,h3,h4,h5⟩ | ⟨h1,h2,h3,h4,h5,h6,h7,h8⟩
  ·simp only at h1 h2 h3 h4
   subst h1 h2 h3 h4
   have g2 := is_cc hk h1k h5
   rw [LP_go FF b274_0.eq_1]
   simp only [RB,RL,un,St.none,za,zd,ze,zf,zb,zj,zk,zm,zn,zc,zg,zh,zi,↓reduceIte,reduceCtorEq,pack,pid,parN,lid,chkK,apartV,Heap.none,c1,c2,hx',hy',eNd_rules,eNd_row,eNd,zq,g1,g2,e2,rQ,n64]
   exact h9
  ·simp only at h1 h2 h3 h4 h5 h6 h7 h8
   subst h1 h2 h3 h4 h5 h6 h7
   have g2 := is10_c (x := vQ yc) (q := yc.1) hk h1k (vQ_sq h8 h1k) h8
   change R FF 171 _ = some (AV.b (decide (vQ yc = vQ yc))) at g2
   rw [decide_eq_true rfl] at g2
   rw [LP_go FF b274_0.eq_1]
   simp only [RB,RL,un,St.none,za,zd,ze,zf,zb,zj,zk,zm,zn,zc,zg,zh,zi,↓reduceIte,reduceCtorEq,pack,pid,parN,lid,chkK,apartV,Heap.none,c1,c2,hx',hy',eNd_rules,eNd_row,eNd,zq,g1,g2,e2,rQ,n64]
   exact h9
theorem same_c {T T' : List RNd} {k : Nat} (hk : k ≤ 100000000) (h1k : 1 ≤ k) (hT : T.length ≤ 100000) (hl : T.length = T'.length) (h : ∀ i,i < T.length → SameN k (T.getD i dNd) (T'.getD i dNd)) : R FF 274 [.l 14 (T.map eNd),.l 14 (T'.map eNd)] = some (.b true) := by
 have l0 := same_l0 hk h1k hT hl h T.length 0 (by omega)
 rw [zI] at l0
 have c1 : (T.length : Int) = (T'.length : Int) := by omega
 rw [R_go FF F274 c274.eq_1]
 simp only [RB,RL,un,St.none,za,zd,ze,zf,zb,zj,zk,zm,zn,zc,zg,zh,zi,↓reduceIte,reduceCtorEq,pack,pid,parN,lid,chkK,apartV,Heap.none,c1,l0]
inductive All2 (R : RNd → RNd → Prop) : List RNd → List RNd → Prop where
 | nil : All2 R [] []
 | cons {a b : RNd} {l m : List RNd} (h : R a b) (hs : All2 R l m) : All2 R (a :: l) (b :: m)
theorem All2.app {R : RNd → RNd → Prop} {l m l' m' : List RNd} (h : All2 R l m) (h' : All2 R l' m') : All2 R (l ++ l') (m ++ m') := by
 induction h with
 | nil => exact h'
 | cons h hs ih => exact .cons h ih
theorem All2.len {R : RNd → RNd → Prop} {l m : List RNd} (h : All2 R l m) : l.length = m.length := by
 induction h with
 | nil => rfl
 | cons h hs ih => rw [zF,zF,ih]
theorem All2.get {R : RNd → RNd → Prop} {l m : List RNd} (h : All2 R l m) : ∀ i,i < l.length → R (l.getD i dNd) (m.getD i dNd) := by
 induction h with
 | nil => intro i hi; exact absurd hi (Nat.not_lt_zero _)
 | cons h hs ih =>
  intro i hi
  cases i with
  | zero => exact h
  | succ i => exact ih i (by rw [zF] at hi; omega)
def bdR (len : Nat) (f : Int) (n : RNd) : Bool := !n.leaf && (decide (n.ft < 0) || decide (f ≤ n.ft) || decide (n.lft < 1) || decide ((len : Int) ≤ n.lft) || decide (n.rgt < 1) || decide ((len : Int) ≤ n.rgt))
def fstI (p : RNd → Bool) (t : List RNd) (i : Nat) : Nat := i + (t.drop i).findIdx p
theorem fstI_step {p : RNd → Bool} {t : List RNd} {i : Nat} (h : i < t.length) : fstI p t i = if p (t.getD i dNd) then i else fstI p t (i + 1) := by
 unfold fstI
 rw [List.drop_eq_getElem_cons h,List.findIdx_cons,zo,zr h,Option.getD_some]
 cases p t[i]
 ·show i + (_ + 1) = _; rw [if_neg (by decide)]; omega
 ·rfl
theorem ranges_l0 {t : List RNd} {f : Int} (ht : t.length ≤ 100000) : ∀ (d i : Nat),i + d = t.length →
  LP FF [(0,0),(1,0),(8,0),(9,0),(10,0)] [(4,0),(5,0)] b249_0 [.l 14 (t.map eNd),(AV.i .i64 f),.l 14 (t.map eNd),(AV.i .i64 ((t.length : Int))),(AV.i .i64 ((i : Int)))] = if (t.drop i).any (bdR t.length f) then some (.ret,[(AV.i .i64 ((fstI (bdR t.length f) t i : Int))),(AV.i .i64 8)]) else some (.exit 0,[.junk,.junk]) := by
 intro d
 induction d with
 | zero =>
  intro i hi
  have c1 : ¬ (i : Int) < (t.length : Int) := by omega
  rw [zW (by omega),List.any_nil,if_neg (by decide)]
  rw [LP_go FF b249_0.eq_1]
  simp only [RB,RL,un,St.none,za,zd,ze,zf,zb,zj,zk,zm,zn,zc,zg,zh,zi,↓reduceIte,reduceCtorEq,pack,pid,parN,lid,chkK,apartV,Heap.none,c1]
 | succ d ih =>
  intro i hi
  have hlt : i < t.length := by omega
  have h9 := ih (i + 1) (by omega)
  have c1 : (i : Int) < (t.length : Int) := by omega
  have e2 : IntKind.i64.wrap ((i : Int) + 1) = ((i + 1 : Nat) : Int) := w64succ (by omega)
  rw [any_drop dNd hlt,fstI_step hlt]
  obtain ⟨x,hx⟩ : ∃ x,x = t.getD i dNd := ⟨_,rfl⟩
  rw [← hx]
  have hx' := hx.symm
  have hb : bdR t.length f x = (!x.leaf && (decide (x.ft < 0) || decide (f ≤ x.ft) || decide (x.lft < 1) || decide ((t.length : Int) ≤ x.lft) || decide (x.rgt < 1) || decide ((t.length : Int) ≤ x.rgt))) := rfl
  obtain ⟨xl,xf,xc,xa,xb,xm,xv,xw⟩ := x
  simp only at hb
  cases xl with
  | true =>
   rw [show bdR t.length f ⟨true,xf,xc,xa,xb,xm,xv,xw⟩ = false from rfl,Bool.false_or,if_neg (show ¬ false = true by decide)]
   rw [LP_go FF b249_0.eq_1]
   simp only [RB,RL,un,St.none,za,zd,ze,zf,zb,zj,zk,zm,zn,zc,zg,zh,zi,↓reduceIte,reduceCtorEq,pack,pid,parN,lid,chkK,apartV,Heap.none,c1,hx',eNd_rules,eNd_row,eNd,zq,e2,n64]
   exact h9
  | false =>
   by_cases b1 : xf < 0
   ·rw [show bdR t.length f ⟨false,xf,xc,xa,xb,xm,xv,xw⟩ = true by rw [hb]; simp [b1],Bool.true_or,if_pos rfl,if_pos rfl]
    rw [LP_go FF b249_0.eq_1]
    simp only [RB,RL,un,St.none,za,zd,ze,zf,zb,zj,zk,zm,zn,zc,zg,zh,zi,↓reduceIte,reduceCtorEq,pack,pid,parN,lid,chkK,apartV,Heap.none,c1,hx',eNd_rules,eNd_row,eNd,zq,e2,n64,b1]
   by_cases b2 : f ≤ xf
   ·rw [show bdR t.length f ⟨false,xf,xc,xa,xb,xm,xv,xw⟩ = true by rw [hb]; simp [b1,b2],Bool.true_or,if_pos rfl,if_pos rfl]
    rw [LP_go FF b249_0.eq_1]
    simp only [RB,RL,un,St.none,za,zd,ze,zf,zb,zj,zk,zm,zn,zc,zg,zh,zi,↓reduceIte,reduceCtorEq,pack,pid,parN,lid,chkK,apartV,Heap.none,c1,hx',eNd_rules,eNd_row,eNd,zq,e2,n64,b1,b2]
   by_cases b3 : xa < 1
   ·rw [show bdR t.length f ⟨false,xf,xc,xa,xb,xm,xv,xw⟩ = true by rw [hb]; simp [b1,b2,b3],Bool.true_or,if_pos rfl,if_pos rfl]
    rw [LP_go FF b249_0.eq_1]
    simp only [RB,RL,un,St.none,za,zd,ze,zf,zb,zj,zk,zm,zn,zc,zg,zh,zi,↓reduceIte,reduceCtorEq,pack,pid,parN,lid,chkK,apartV,Heap.none,c1,hx',eNd_rules,eNd_row,eNd,zq,e2,n64,b1,b2,b3]
   by_cases b4 : (t.length : Int) ≤ xa
   ·rw [show bdR t.length f ⟨false,xf,xc,xa,xb,xm,xv,xw⟩ = true by rw [hb]; simp [b1,b2,b3,b4],Bool.true_or,if_pos rfl,if_pos rfl]
    rw [LP_go FF b249_0.eq_1]
    simp only [RB,RL,un,St.none,za,zd,ze,zf,zb,zj,zk,zm,zn,zc,zg,zh,zi,↓reduceIte,reduceCtorEq,pack,pid,parN,lid,chkK,apartV,Heap.none,c1,hx',eNd_rules,eNd_row,eNd,zq,e2,n64,b1,b2,b3,b4]
   by_cases b5 : xb < 1
   ·rw [show bdR t.length f ⟨false,xf,xc,xa,xb,xm,xv,xw⟩ = true by rw [hb]; simp [b1,b2,b3,b4,b5],Bool.true_or,if_pos rfl,if_pos rfl]
    rw [LP_go FF b249_0.eq_1]
    simp only [RB,RL,un,St.none,za,zd,ze,zf,zb,zj,zk,zm,zn,zc,zg,zh,zi,↓reduceIte,reduceCtorEq,pack,pid,parN,lid,chkK,apartV,Heap.none,c1,hx',eNd_rules,eNd_row,eNd,zq,e2,n64,b1,b2,b3,b4,b5]
   by_cases b6 : (t.length : Int) ≤ xb
   ·rw [show bdR t.length f ⟨false,xf,xc,xa,xb,xm,xv,xw⟩ = true by rw [hb]; simp [b1,b2,b3,b4,b5,b6],Bool.true_or,if_pos rfl,if_pos rfl]
    rw [LP_go FF b249_0.eq_1]
    simp only [RB,RL,un,St.none,za,zd,ze,zf,zb,zj,zk,zm,zn,zc,zg,zh,zi,↓reduceIte,reduceCtorEq,pack,pid,parN,lid,chkK,apartV,Heap.none,c1,hx',eNd_rules,eNd_row,eNd,zq,e2,n64,b1,b2,b3,b4,b5,b6]
   ·rw [show bdR t.length f ⟨false,xf,xc,xa,xb,xm,xv,xw⟩ = false by rw [hb]; simp [b1,b2,b3,b4,b5,b6],Bool.false_or,if_neg (show ¬ false = true by decide)]
    rw [LP_go FF b249_0.eq_1]
    simp only [RB,RL,un,St.none,za,zd,ze,zf,zb,zj,zk,zm,zn,zc,zg,zh,zi,↓reduceIte,reduceCtorEq,pack,pid,parN,lid,chkK,apartV,Heap.none,c1,hx',eNd_rules,eNd_row,eNd,zq,e2,n64,b1,b2,b3,b4,b5,b6]
    exact h9
theorem ranges_c {t : List RNd} {f : Int} (ht : t.length ≤ 100000) : ∃ i : Int,R FF 249 [.l 14 (t.map eNd),(AV.i .i64 f)] = some (.tup [(AV.i .i64 ((if t.any (bdR t.length f) then i else 0))),(AV.i .i64 ((if t.any (bdR t.length f) then 8 else 0)))]) := by
 refine ⟨(fstI (bdR t.length f) t 0 : Int),?_⟩
 have l0 := ranges_l0 (f := f) ht t.length 0 (by omega)
 rw [zI,List.drop_zero] at l0
 by_cases h : t.any (bdR t.length f) = true
 ·rw [if_pos h] at l0
  rw [if_pos h,if_pos h]
  rw [R_go FF F249 c249.eq_1]
  simp only [RB,RL,un,St.none,za,zd,ze,zf,zb,zj,zk,zm,zn,zc,zg,zh,zi,↓reduceIte,reduceCtorEq,pack,pid,parN,lid,chkK,apartV,Heap.none,l0]
 ·rw [if_neg h] at l0
  rw [if_neg h,if_neg h]
  rw [R_go FF F249 c249.eq_1]
  simp only [RB,RL,un,St.none,za,zd,ze,zf,zb,zj,zk,zm,zn,zc,zg,zh,zi,↓reduceIte,reduceCtorEq,pack,pid,parN,lid,chkK,apartV,Heap.none,l0]
def SmT (t : List RNd) (k : Nat) : Prop := ∀ n ∈ t,SmQ n.cov k ∧ SmQ n.cut k ∧ SmQ n.val k
def bdC (n : RNd) : Bool := decide (cmp (vQ n.cov).num 0 ≤ 0)
theorem vsign_c {x : RQt} {k : Nat} (hk : k ≤ 100000000000) (h : SmQ x k) : R FF 162 [(AV.agg [AV.b x.1,(AV.l 1 (List.map u x.2.1)),(AV.l 1 (List.map u x.2.2))])] = some (AV.i .i64 (cmp (vQ x).num 0)) := qsign_c hk h
theorem covers_l0 {t : List RNd} {k : Nat} (hk : k ≤ 10000000000) (ht : t.length ≤ 100000) (hs : SmT t k) : ∀ (d i : Nat),i + d = t.length →
  LP FF [(6,0),(7,0),(8,0)] [(2,0),(3,0)] b251_0 [.l 14 (t.map eNd),(AV.i .i64 ((t.length : Int))),(AV.i .i64 ((i : Int)))] = if (t.drop i).any bdC then some (.ret,[(AV.i .i64 ((fstI bdC t i : Int))),(AV.i .i64 12)]) else some (.exit 0,[.junk,.junk]) := by
 intro d
 induction d with
 | zero =>
  intro i hi
  have c1 : ¬ (i : Int) < (t.length : Int) := by omega
  rw [zW (by omega),List.any_nil,if_neg (by decide)]
  rw [LP_go FF b251_0.eq_1]
  simp only [RB,RL,un,St.none,za,zd,ze,zf,zb,zj,zk,zm,zn,zc,zg,zh,zi,↓reduceIte,reduceCtorEq,pack,pid,parN,lid,chkK,apartV,Heap.none,c1]
 | succ d ih =>
  intro i hi
  have hlt : i < t.length := by omega
  have h9 := ih (i + 1) (by omega)
  have c1 : (i : Int) < (t.length : Int) := by omega
  have e2 : IntKind.i64.wrap ((i : Int) + 1) = ((i + 1 : Nat) : Int) := w64succ (by omega)
  rw [any_drop dNd hlt,fstI_step hlt]
  have hm := hs _ (getD_mem' dNd hlt)
  obtain ⟨x,hx⟩ : ∃ x,x = t.getD i dNd := ⟨_,rfl⟩
  rw [← hx] at hm ⊢
  have hx' := hx.symm
  have f1 := vsign_c (by omega) hm.1
  have hb : bdC x = decide (cmp (vQ x.cov).num 0 ≤ 0) := rfl
  generalize cmp (vQ x.cov).num 0 = z at *
  obtain ⟨xl,xf,xc,xa,xb,xm,xv,xw⟩ := x
  simp only at f1
  by_cases b1 : z ≤ 0
  ·rw [hb,decide_eq_true b1,Bool.true_or,if_pos rfl,if_pos rfl]
   rw [LP_go FF b251_0.eq_1]
   simp only [RB,RL,un,St.none,za,zd,ze,zf,zb,zj,zk,zm,zn,zc,zg,zh,zi,↓reduceIte,reduceCtorEq,pack,pid,parN,lid,chkK,apartV,Heap.none,c1,hx',eNd_rules,eNd_row,eNd,zq,e2,n64,f1,b1]
  ·rw [hb,decide_eq_false b1,Bool.false_or,if_neg (show ¬ false = true by decide)]
   rw [LP_go FF b251_0.eq_1]
   simp only [RB,RL,un,St.none,za,zd,ze,zf,zb,zj,zk,zm,zn,zc,zg,zh,zi,↓reduceIte,reduceCtorEq,pack,pid,parN,lid,chkK,apartV,Heap.none,c1,hx',eNd_rules,eNd_row,eNd,zq,e2,n64,f1,b1]
   exact h9
theorem covers_c {t : List RNd} {k : Nat} (hk : k ≤ 10000000000) (ht : t.length ≤ 100000) (hs : SmT t k) : ∃ i : Int,R FF 251 [.l 14 (t.map eNd)] = some (.tup [(AV.i .i64 ((if t.any bdC then i else 0))),(AV.i .i64 ((if t.any bdC then 12 else 0)))]) := by
 refine ⟨(fstI bdC t 0 : Int),?_⟩
 have l0 := covers_l0 hk ht hs t.length 0 (by omega)
 rw [zI,List.drop_zero] at l0
 by_cases h : t.any bdC = true
 ·rw [if_pos h] at l0
  rw [if_pos h,if_pos h]
  rw [R_go FF F251 c251.eq_1]
  simp only [RB,RL,un,St.none,za,zd,ze,zf,zb,zj,zk,zm,zn,zc,zg,zh,zi,↓reduceIte,reduceCtorEq,pack,pid,parN,lid,chkK,apartV,Heap.none,l0]
 ·rw [if_neg h] at l0
  rw [if_neg h,if_neg h]
  rw [R_go FF F251 c251.eq_1]
  simp only [RB,RL,un,St.none,za,zd,ze,zf,zb,zj,zk,zm,zn,zc,zg,zh,zi,↓reduceIte,reduceCtorEq,pack,pid,parN,lid,chkK,apartV,Heap.none,l0]
def bdS (t : List RNd) (n : RNd) : Bool := !n.leaf && !decide (vQ n.cov = vQ (t.getD n.lft.toNat dNd).cov + vQ (t.getD n.rgt.toNat dNd).cov)
theorem vadd_c {x y : RQt} {k j : Nat} (hx : SmQ x k) (hy : SmQ y j) (hk : k ≤ 40000000000) (hj : j ≤ 40000000000) : R FF 31 [(AV.agg [AV.b x.1,(AV.l 1 (List.map u x.2.1)),(AV.l 1 (List.map u x.2.2))]),(AV.agg [AV.b y.1,(AV.l 1 (List.map u y.2.1)),(AV.l 1 (List.map u y.2.2))])] = some (AV.agg [AV.b (ng (zV ((vQ x + vQ y)))),(AV.l 1 (List.map u (D (zM (zV ((vQ x + vQ y))))))),(AV.l 1 (List.map u (D (Rat.den ((vQ x + vQ y))))))]) := qadd_s hx hy hk hj
theorem vsums_l0 {t : List RNd} {f : Int} {k : Nat} (hk : k ≤ 10000000000) (h1k : 1 ≤ k) (ht : t.length ≤ 100000) (hs : SmT t k) (hr : t.any (bdR t.length f) = false) : ∀ (d i : Nat),i + d = t.length →
  LP FF [(0,0),(6,0),(7,0),(8,0)] [(2,0),(3,0)] b252_0 [.l 14 (t.map eNd),.l 14 (t.map eNd),(AV.i .i64 ((t.length : Int))),(AV.i .i64 ((i : Int)))] = if (t.drop i).any (bdS t) then some (.ret,[(AV.i .i64 ((fstI (bdS t) t i : Int))),(AV.i .i64 13)]) else some (.exit 0,[.junk,.junk]) := by
 intro d
 induction d with
 | zero =>
  intro i hi
  have c1 : ¬ (i : Int) < (t.length : Int) := by omega
  rw [zW (by omega),List.any_nil,if_neg (by decide)]
  rw [LP_go FF b252_0.eq_1]
  simp only [RB,RL,un,St.none,za,zd,ze,zf,zb,zj,zk,zm,zn,zc,zg,zh,zi,↓reduceIte,reduceCtorEq,pack,pid,parN,lid,chkK,apartV,Heap.none,c1]
 | succ d ih =>
  intro i hi
  have hlt : i < t.length := by omega
  have h9 := ih (i + 1) (by omega)
  have c1 : (i : Int) < (t.length : Int) := by omega
  have e2 : IntKind.i64.wrap ((i : Int) + 1) = ((i + 1 : Nat) : Int) := w64succ (by omega)
  rw [any_drop dNd hlt,fstI_step hlt]
  have hmem := getD_mem' dNd hlt
  have hm := hs _ hmem
  have hr2 : bdR t.length f (t.getD i dNd) = false := by
   rw [List.any_eq_false] at hr
   simpa using hr _ hmem
  obtain ⟨x,hx⟩ : ∃ x,x = t.getD i dNd := ⟨_,rfl⟩
  rw [← hx] at hm hr2 ⊢
  have hx' := hx.symm
  have hb : bdS t x = (!x.leaf && !decide (vQ x.cov = vQ (t.getD x.lft.toNat dNd).cov + vQ (t.getD x.rgt.toNat dNd).cov)) := rfl
  obtain ⟨xl,xf,xc,xa,xb,xm,xv,xw⟩ := x
  simp only at hb hm
  cases xl with
  | true =>
   rw [show bdS t ⟨true,xf,xc,xa,xb,xm,xv,xw⟩ = false from rfl,Bool.false_or,if_neg (show ¬ false = true by decide)]
   rw [LP_go FF b252_0.eq_1]
   simp only [RB,RL,un,St.none,za,zd,ze,zf,zb,zj,zk,zm,zn,zc,zg,zh,zi,↓reduceIte,reduceCtorEq,pack,pid,parN,lid,chkK,apartV,Heap.none,c1,hx',eNd_rules,eNd_row,eNd,zq,e2,n64]
   exact h9
  | false =>
   have hr3 : (decide (xf < 0) || decide (f ≤ xf) || decide (xa < 1) || decide ((t.length : Int) ≤ xa) || decide (xb < 1) || decide ((t.length : Int) ≤ xb)) = false := hr2
   simp only [Bool.or_eq_false_iff,decide_eq_false_iff_not] at hr3
   have ha : xa.toNat < t.length := by omega
   have hb2 : xb.toNat < t.length := by omega
   have a1 : 0 ≤ xa := by omega
   have a2 : xa < (t.length : Int) := by omega
   have b1 : 0 ≤ xb := by omega
   have b2 : xb < (t.length : Int) := by omega
   have sa := (hs _ (getD_mem' dNd ha)).1
   have sb := (hs _ (getD_mem' dNd hb2)).1
   have f1 := vadd_c (k := k) (j := k) sa sb (by omega) (by omega)
   have z1 : sq (vQ (t.getD xa.toNat dNd).cov + vQ (t.getD xb.toNat dNd).cov) ≤ 2 * k + 1 := by
    have q1 := sq_add (vQ (t.getD xa.toNat dNd).cov) (vQ (t.getD xb.toNat dNd).cov)
    have q2 := vQ_sq sa h1k
    have q3 := vQ_sq sb h1k
    omega
   have f2 := vsame_c (x := xw) (y := rQ (vQ (t.getD xa.toNat dNd).cov + vQ (t.getD xb.toNat dNd).cov)) (k := k) (j := 2 * k + 1) hm.1 (sm_cq z1) (by omega) (by omega)
   rw [vQ_rQ] at f2
   generalize vQ (t.getD xa.toNat dNd).cov + vQ (t.getD xb.toNat dNd).cov = s at *
   simp only [rQ] at f2
   by_cases h0 : vQ xw = s
   ·rw [hb,decide_eq_true h0,show (!false && !true) = false from rfl,Bool.false_or,if_neg (show ¬ false = true by decide)]
    rw [decide_eq_true h0] at f2
    rw [LP_go FF b252_0.eq_1]
    simp only [RB,RL,un,St.none,za,zd,ze,zf,zb,zj,zk,zm,zn,zc,zg,zh,zi,↓reduceIte,reduceCtorEq,pack,pid,parN,lid,chkK,apartV,Heap.none,c1,hx',eNd_rules,eNd_row,eNd,zq,e2,n64,a1,a2,b1,b2,f1,f2]
    exact h9
   ·rw [hb,decide_eq_false h0,show (!false && !false) = true from rfl,Bool.true_or,if_pos rfl,if_pos rfl]
    rw [decide_eq_false h0] at f2
    rw [LP_go FF b252_0.eq_1]
    simp only [RB,RL,un,St.none,za,zd,ze,zf,zb,zj,zk,zm,zn,zc,zg,zh,zi,↓reduceIte,reduceCtorEq,pack,pid,parN,lid,chkK,apartV,Heap.none,c1,hx',eNd_rules,eNd_row,eNd,zq,e2,n64,a1,a2,b1,b2,f1,f2]
theorem vsums_c {t : List RNd} {f : Int} {k : Nat} (hk : k ≤ 10000000000) (h1k : 1 ≤ k) (ht : t.length ≤ 100000) (hs : SmT t k) (hr : t.any (bdR t.length f) = false) : ∃ i : Int,R FF 252 [.l 14 (t.map eNd)] = some (.tup [(AV.i .i64 ((if t.any (bdS t) then i else 0))),(AV.i .i64 ((if t.any (bdS t) then 13 else 0)))]) := by
 refine ⟨(fstI (bdS t) t 0 : Int),?_⟩
 have l0 := vsums_l0 hk h1k ht hs hr t.length 0 (by omega)
 rw [zI,List.drop_zero] at l0
 by_cases h : t.any (bdS t) = true
 ·rw [if_pos h] at l0
  rw [if_pos h,if_pos h]
  rw [R_go FF F252 c252.eq_1]
  simp only [RB,RL,un,St.none,za,zd,ze,zf,zb,zj,zk,zm,zn,zc,zg,zh,zi,↓reduceIte,reduceCtorEq,pack,pid,parN,lid,chkK,apartV,Heap.none,l0]
 ·rw [if_neg h] at l0
  rw [if_neg h,if_neg h]
  rw [R_go FF F252 c252.eq_1]
  simp only [RB,RL,un,St.none,za,zd,ze,zf,zb,zj,zk,zm,zn,zc,zg,zh,zi,↓reduceIte,reduceCtorEq,pack,pid,parN,lid,chkK,apartV,Heap.none,l0]
def bdF (n : RNd) : Bool := decide (n.ft < 0) || decide (64 < n.ft) || decide (n.lft < 0) || decide (255 < n.lft) || decide (n.rgt < 0) || decide (255 < n.rgt)
def bdT (t : List RNd) : Bool := decide ((t.length : Int) < 1) || decide (255 < (t.length : Int)) || t.any bdF
theorem fits_l1 {t : List RNd} {ts : List (List RNd)} {m j : Int} (ht : t.length ≤ 100000) : ∀ (d i : Nat),i + d = t.length →
  LP FF [(22,0),(23,0),(24,0),(36,0),(37,0),(38,0)] [(2,0),(22,0),(23,0),(24,0)] b248_1 [.l 1 (ts.map eTr),(AV.i .i64 m),(AV.i .i64 j),.l 14 (t.map eNd),(AV.i .i64 ((t.length : Int))),(AV.i .i64 ((i : Int)))] = if (t.drop i).any bdF then some (.ret,[.b false,.l 1 (ts.map eTr),(AV.i .i64 m),(AV.i .i64 j)]) else some (.exit 2,[.junk,.l 1 (ts.map eTr),(AV.i .i64 m),(AV.i .i64 j)]) := by
 intro d
 induction d with
 | zero =>
  intro i hi
  have c1 : ¬ (i : Int) < (t.length : Int) := by omega
  rw [zW (by omega),List.any_nil,if_neg (by decide)]
  rw [LP_go FF b248_1.eq_1]
  simp only [RB,RL,un,St.none,za,zd,ze,zf,zb,zj,zk,zm,zn,zc,zg,zh,zi,↓reduceIte,reduceCtorEq,pack,pid,parN,lid,chkK,apartV,Heap.none,c1,eTr_rules,eTr_row]
 | succ d ih =>
  intro i hi
  have hlt : i < t.length := by omega
  have h9 := ih (i + 1) (by omega)
  have c1 : (i : Int) < (t.length : Int) := by omega
  have e2 : IntKind.i64.wrap ((i : Int) + 1) = ((i + 1 : Nat) : Int) := w64succ (by omega)
  rw [any_drop dNd hlt]
  obtain ⟨x,hx⟩ : ∃ x,x = t.getD i dNd := ⟨_,rfl⟩
  rw [← hx]
  have hx' := hx.symm
  have hb : bdF x = (decide (x.ft < 0) || decide (64 < x.ft) || decide (x.lft < 0) || decide (255 < x.lft) || decide (x.rgt < 0) || decide (255 < x.rgt)) := rfl
  rw [hb]
  obtain ⟨xl,xf,xc,xa,xb,xm,xv,xw⟩ := x
  simp only
  by_cases b1 : xf < 0
  ·rw [if_pos (by simp [b1])]
   rw [LP_go FF b248_1.eq_1]
   simp only [RB,RL,un,St.none,za,zd,ze,zf,zb,zj,zk,zm,zn,zc,zg,zh,zi,↓reduceIte,reduceCtorEq,pack,pid,parN,lid,chkK,apartV,Heap.none,c1,hx',eNd_rules,eNd_row,eNd,eTr_rules,eTr_row,zq,e2,n64,b1]
  by_cases b2 : 64 < xf
  ·rw [if_pos (by simp [b1,b2])]
   rw [LP_go FF b248_1.eq_1]
   simp only [RB,RL,un,St.none,za,zd,ze,zf,zb,zj,zk,zm,zn,zc,zg,zh,zi,↓reduceIte,reduceCtorEq,pack,pid,parN,lid,chkK,apartV,Heap.none,c1,hx',eNd_rules,eNd_row,eNd,eTr_rules,eTr_row,zq,e2,n64,b1,b2]
  by_cases b3 : xa < 0
  ·rw [if_pos (by simp [b1,b2,b3])]
   rw [LP_go FF b248_1.eq_1]
   simp only [RB,RL,un,St.none,za,zd,ze,zf,zb,zj,zk,zm,zn,zc,zg,zh,zi,↓reduceIte,reduceCtorEq,pack,pid,parN,lid,chkK,apartV,Heap.none,c1,hx',eNd_rules,eNd_row,eNd,eTr_rules,eTr_row,zq,e2,n64,b1,b2,b3]
  by_cases b4 : 255 < xa
  ·rw [if_pos (by simp [b1,b2,b3,b4])]
   rw [LP_go FF b248_1.eq_1]
   simp only [RB,RL,un,St.none,za,zd,ze,zf,zb,zj,zk,zm,zn,zc,zg,zh,zi,↓reduceIte,reduceCtorEq,pack,pid,parN,lid,chkK,apartV,Heap.none,c1,hx',eNd_rules,eNd_row,eNd,eTr_rules,eTr_row,zq,e2,n64,b1,b2,b3,b4]
  by_cases b5 : xb < 0
  ·rw [if_pos (by simp [b1,b2,b3,b4,b5])]
   rw [LP_go FF b248_1.eq_1]
   simp only [RB,RL,un,St.none,za,zd,ze,zf,zb,zj,zk,zm,zn,zc,zg,zh,zi,↓reduceIte,reduceCtorEq,pack,pid,parN,lid,chkK,apartV,Heap.none,c1,hx',eNd_rules,eNd_row,eNd,eTr_rules,eTr_row,zq,e2,n64,b1,b2,b3,b4,b5]
  by_cases b6 : 255 < xb
  ·rw [if_pos (by simp [b1,b2,b3,b4,b5,b6])]
   rw [LP_go FF b248_1.eq_1]
   simp only [RB,RL,un,St.none,za,zd,ze,zf,zb,zj,zk,zm,zn,zc,zg,zh,zi,↓reduceIte,reduceCtorEq,pack,pid,parN,lid,chkK,apartV,Heap.none,c1,hx',eNd_rules,eNd_row,eNd,eTr_rules,eTr_row,zq,e2,n64,b1,b2,b3,b4,b5,b6]
  rw [show (decide (xf < 0) || decide (64 < xf) || decide (xa < 0) || decide (255 < xa) || decide (xb < 0) || decide (255 < xb)) = false by simp [b1,b2,b3,b4,b5,b6],Bool.false_or]
  rw [LP_go FF b248_1.eq_1]
  simp only [RB,RL,un,St.none,za,zd,ze,zf,zb,zj,zk,zm,zn,zc,zg,zh,zi,↓reduceIte,reduceCtorEq,pack,pid,parN,lid,chkK,apartV,Heap.none,c1,hx',eNd_rules,eNd_row,eNd,eTr_rules,eTr_row,zq,e2,n64,b1,b2,b3,b4,b5,b6]
  exact h9
theorem any_dropT {p : List RNd → Bool} {l : List (List RNd)} {i : Nat} (h : i < l.length) : (l.drop i).any p = (p (l.getD i []) || (l.drop (i + 1)).any p) := any_drop [] h
theorem fits_l0 {ts : List (List RNd)} (hts : ts.length ≤ 100000) (ht : ∀ t ∈ ts,t.length ≤ 100000) : ∀ (d i : Nat),i + d = ts.length →
  LP FF [(22,0),(23,0),(24,0)] [(2,0)] b248_0 [.l 1 (ts.map eTr),(AV.i .i64 ((ts.length : Int))),(AV.i .i64 ((i : Int)))] = if (ts.drop i).any bdT then some (.ret,[.b false]) else some (.exit 0,[.junk]) := by
 intro d
 induction d with
 | zero =>
  intro i hi
  have c1 : ¬ (i : Int) < (ts.length : Int) := by omega
  rw [zW (by omega),List.any_nil,if_neg (by decide)]
  rw [LP_go FF b248_0.eq_1]
  simp only [RB,RL,un,St.none,za,zd,ze,zf,zb,zj,zk,zm,zn,zc,zg,zh,zi,↓reduceIte,reduceCtorEq,pack,pid,parN,lid,chkK,apartV,Heap.none,c1,eTr_rules,eTr_row]
 | succ d ih =>
  intro i hi
  have hlt : i < ts.length := by omega
  have h9 := ih (i + 1) (by omega)
  have c1 : (i : Int) < (ts.length : Int) := by omega
  have e2 : IntKind.i64.wrap ((i : Int) + 1) = ((i + 1 : Nat) : Int) := w64succ (by omega)
  rw [any_dropT hlt]
  have l1 := fits_l1 (t := ts.getD i []) (ts := ts) (m := (ts.length : Int)) (j := (i : Int)) (ht _ (getD_mem' [] hlt)) (ts.getD i []).length 0 (by omega)
  rw [zI,List.drop_zero] at l1
  obtain ⟨x,hx⟩ : ∃ x,x = ts.getD i [] := ⟨_,rfl⟩
  rw [← hx] at l1 ⊢
  have hx' := hx.symm
  have hb : bdT x = (decide ((x.length : Int) < 1) || decide (255 < (x.length : Int)) || x.any bdF) := rfl
  rw [hb]
  by_cases b1 : (x.length : Int) < 1
  ·rw [if_pos (by simp [b1])]
   rw [LP_go FF b248_0.eq_1]
   simp only [RB,RL,un,St.none,za,zd,ze,zf,zb,zj,zk,zm,zn,zc,zg,zh,zi,↓reduceIte,reduceCtorEq,pack,pid,parN,lid,chkK,apartV,Heap.none,c1,hx',eNd_rules,eNd_row,eTr_rules,eTr_row,zq,e2,n64,b1]
  by_cases b2 : 255 < (x.length : Int)
  ·rw [if_pos (by simp [b2])]
   rw [LP_go FF b248_0.eq_1]
   simp only [RB,RL,un,St.none,za,zd,ze,zf,zb,zj,zk,zm,zn,zc,zg,zh,zi,↓reduceIte,reduceCtorEq,pack,pid,parN,lid,chkK,apartV,Heap.none,c1,hx',eNd_rules,eNd_row,eTr_rules,eTr_row,zq,e2,n64,b1,b2]
  rw [decide_eq_false b1,decide_eq_false b2,Bool.false_or,Bool.false_or]
  cases hf : x.any bdF
  ·rw [hf,if_neg (by decide)] at l1
   rw [Bool.false_or]
   rw [LP_go FF b248_0.eq_1]
   simp only [RB,RL,un,St.none,za,zd,ze,zf,zb,zj,zk,zm,zn,zc,zg,zh,zi,↓reduceIte,reduceCtorEq,pack,pid,parN,lid,chkK,apartV,Heap.none,c1,hx',eNd_rules,eNd_row,eTr_rules,eTr_row,zq,e2,n64,b1,b2,l1]
   exact h9
  ·rw [hf,if_pos rfl] at l1
   rw [Bool.true_or,if_pos rfl]
   rw [LP_go FF b248_0.eq_1]
   simp only [RB,RL,un,St.none,za,zd,ze,zf,zb,zj,zk,zm,zn,zc,zg,zh,zi,↓reduceIte,reduceCtorEq,pack,pid,parN,lid,chkK,apartV,Heap.none,c1,hx',eNd_rules,eNd_row,eTr_rules,eTr_row,zq,e2,n64,b1,b2,l1]
def fitB (m : RM) : Bool := !(decide (m.1 < 0) || decide (64 < m.1) || decide (64 < (m.2.length : Int)) || m.2.any bdT)
theorem fits_c {m : RM} (hts : m.2.length ≤ 100000) (ht : ∀ t ∈ m.2,t.length ≤ 100000) : R FF 248 [.agg (eM m)] = some (.b (fitB m)) := by
 obtain ⟨f,ts⟩ := m
 have hts : ts.length ≤ 100000 := hts
 have ht : ∀ t ∈ ts,t.length ≤ 100000 := ht
 have l0 := fits_l0 hts ht ts.length 0 (by omega)
 rw [zI,List.drop_zero] at l0
 have hb : fitB (f,ts) = !(decide (f < 0) || decide (64 < f) || decide (64 < (ts.length : Int)) || ts.any bdT) := rfl
 rw [hb]
 simp only [eM] at l0 ⊢
 by_cases b1 : f < 0
 ·rw [decide_eq_true b1]
  rw [R_go FF F248 c248.eq_1]
  simp only [RB,RL,un,St.none,za,zd,ze,zf,zb,zj,zk,zm,zn,zc,zg,zh,zi,↓reduceIte,reduceCtorEq,pack,pid,parN,lid,chkK,apartV,Heap.none,b1,eTr_rules,eTr_row,n64]
 by_cases b2 : 64 < f
 ·rw [decide_eq_true b2]
  rw [R_go FF F248 c248.eq_1]
  simp only [RB,RL,un,St.none,za,zd,ze,zf,zb,zj,zk,zm,zn,zc,zg,zh,zi,↓reduceIte,reduceCtorEq,pack,pid,parN,lid,chkK,apartV,Heap.none,b1,b2,eTr_rules,eTr_row,n64]
 by_cases b3 : 64 < (ts.length : Int)
 ·rw [decide_eq_true b3]
  rw [R_go FF F248 c248.eq_1]
  simp only [RB,RL,un,St.none,za,zd,ze,zf,zb,zj,zk,zm,zn,zc,zg,zh,zi,↓reduceIte,reduceCtorEq,pack,pid,parN,lid,chkK,apartV,Heap.none,b1,b2,b3,eTr_rules,eTr_row,n64]
 rw [decide_eq_false b1,decide_eq_false b2,decide_eq_false b3,Bool.false_or,Bool.false_or,Bool.false_or]
 cases hf : ts.any bdT
 ·rw [hf,if_neg (by decide)] at l0
  rw [R_go FF F248 c248.eq_1]
  simp only [RB,RL,un,St.none,za,zd,ze,zf,zb,zj,zk,zm,zn,zc,zg,zh,zi,↓reduceIte,reduceCtorEq,pack,pid,parN,lid,chkK,apartV,Heap.none,b1,b2,b3,eTr_rules,eTr_row,n64,l0]
 ·rw [hf,if_pos rfl] at l0
  rw [R_go FF F248 c248.eq_1]
  simp only [RB,RL,un,St.none,za,zd,ze,zf,zb,zj,zk,zm,zn,zc,zg,zh,zi,↓reduceIte,reduceCtorEq,pack,pid,parN,lid,chkK,apartV,Heap.none,b1,b2,b3,eTr_rules,eTr_row,n64,l0]
def bump (P : List Int) (n : RNd) : List Int := if n.leaf then P else
 (P.set n.lft.toNat (P.getD n.lft.toNat 0 + 1)).set n.rgt.toNat ((P.set n.lft.toNat (P.getD n.lft.toNat 0 + 1)).getD n.rgt.toNat 0 + 1)
def parL (t : List RNd) : List Int := t.foldl bump (zL t.length 0)
theorem bump_len (P : List Int) (n : RNd) : (bump P n).length = P.length := by
 unfold bump; split
 ·rfl
 ·rw [zU,zU]
theorem getD_set (P : List Int) (a b : Nat) (x : Int) : (P.set a x).getD b 0 = if a = b ∧ a < P.length then x else P.getD b 0 := by
 rw [zo,zo,List.getElem?_set]
 by_cases h : a = b
 ·subst h
  by_cases h2 : a < P.length
  ·rw [if_pos rfl,if_pos h2,if_pos ⟨rfl,h2⟩]; rfl
  ·rw [if_pos rfl,if_neg h2,if_neg (fun h => h2 h.2),jf (by omega)]
 ·rw [if_neg h,if_neg (fun k => h k.1)]
def Bnd (P : List Int) (k : Int) : Prop := ∀ j,0 ≤ P.getD j 0 ∧ P.getD j 0 ≤ k
theorem bump_bnd {P : List Int} {k : Int} (h : Bnd P k) (n : RNd) : Bnd (bump P n) (k + 2) := by
 intro j
 unfold bump
 split
 ·have := h j; omega
 ·have h1 : ∀ i,0 ≤ (P.set n.lft.toNat (P.getD n.lft.toNat 0 + 1)).getD i 0 ∧ (P.set n.lft.toNat (P.getD n.lft.toNat 0 + 1)).getD i 0 ≤ k + 1 := by
   intro i
   rw [getD_set]
   have a := h i
   have b := h n.lft.toNat
   split <;> omega
  rw [getD_set]
  have a := h1 j
  have b := h1 n.rgt.toNat
  split <;> omega
theorem drop_foldT {β : Type} {g : β → RNd → β} {l : List RNd} {i : Nat} (o : β) (h : i < l.length) : (l.drop i).foldl g o = (l.drop (i + 1)).foldl g (g o (l.getD i dNd)) := by
 rw [List.drop_eq_getElem_cons h,List.foldl_cons,zo,zr h]; rfl
theorem shape_l3 {t : List RNd} {f : Int} (ht : t.length ≤ 100000) (hr : t.any (bdR t.length f) = false) : ∀ (d i : Nat) (P : List Int),i + d = t.length → P.length = t.length → Bnd P (2 * (i : Int)) →
  LP FF [(4,1),(0,0),(18,0),(19,0),(20,0)] [(0,0),(4,0)] b250_3 [.own true 1 (P.map n64),.l 14 (t.map eNd),.l 14 (t.map eNd),(AV.i .i64 ((t.length : Int))),(AV.i .i64 ((i : Int)))] = some (.exit 0,[.l 14 (t.map eNd),.l 1 (((t.drop i).foldl bump P).map n64)]) := by
 intro d
 induction d with
 | zero =>
  intro i P hi hP hB
  have c1 : ¬ (i : Int) < (t.length : Int) := by omega
  rw [zW (by omega),List.foldl_nil]
  rw [LP_go FF b250_3.eq_1]
  simp only [RB,RL,un,St.none,za,zd,ze,zf,zb,zj,zk,zm,zn,zc,zg,zh,zi,↓reduceIte,reduceCtorEq,pack,pid,parN,lid,chkK,apartV,Heap.none,c1,eNd_rules,eNd_row,zt]
 | succ d ih =>
  intro i P hi hP hB
  have hlt : i < t.length := by omega
  have c1 : (i : Int) < (t.length : Int) := by omega
  have e2 : IntKind.i64.wrap ((i : Int) + 1) = ((i + 1 : Nat) : Int) := w64succ (by omega)
  have hmem := getD_mem' dNd hlt
  have hr2 : bdR t.length f (t.getD i dNd) = false := by
   rw [List.any_eq_false] at hr
   simpa using hr _ hmem
  have h9 := ih (i + 1) (bump P (t.getD i dNd)) (by omega) (by rw [bump_len,hP]) (by
   have := bump_bnd hB (t.getD i dNd)
   rwa [show 2 * (i : Int) + 2 = 2 * ((i + 1 : Nat) : Int) by omega] at this)
  rw [drop_foldT P hlt]
  obtain ⟨x,hx⟩ : ∃ x,x = t.getD i dNd := ⟨_,rfl⟩
  rw [← hx] at hr2 h9 ⊢
  have hx' := hx.symm
  obtain ⟨xl,xf,xc,xa,xb,xm,xv,xw⟩ := x
  cases xl with
  | true =>
   rw [show bump P ⟨true,xf,xc,xa,xb,xm,xv,xw⟩ = P from rfl] at h9 ⊢
   rw [LP_go FF b250_3.eq_1]
   simp only [RB,RL,un,St.none,za,zd,ze,zf,zb,zj,zk,zm,zn,zc,zg,zh,zi,↓reduceIte,reduceCtorEq,pack,pid,parN,lid,chkK,apartV,Heap.none,c1,hx',eNd_rules,eNd_row,eNd,zq,e2,zt]
   exact h9
  | false =>
   have hr3 : (decide (xf < 0) || decide (f ≤ xf) || decide (xa < 1) || decide ((t.length : Int) ≤ xa) || decide (xb < 1) || decide ((t.length : Int) ≤ xb)) = false := hr2
   simp only [Bool.or_eq_false_iff,decide_eq_false_iff_not] at hr3
   have a1 : 0 ≤ xa := by omega
   have a2 : xa < (t.length : Int) := by omega
   have b1 : 0 ≤ xb := by omega
   have b2 : xb < (t.length : Int) := by omega
   have a3 : xa.toNat < t.length := by omega
   have b3 : xb.toNat < t.length := by omega
   have q1 := hB xa.toNat
   have w1 : IntKind.i64.wrap (P.getD xa.toNat 0 + 1) = P.getD xa.toNat 0 + 1 := w64 (by omega) (by omega)
   have eb : bump P ⟨false,xf,xc,xa,xb,xm,xv,xw⟩ = (P.set xa.toNat (P.getD xa.toNat 0 + 1)).set xb.toNat ((P.set xa.toNat (P.getD xa.toNat 0 + 1)).getD xb.toNat 0 + 1) := rfl
   have q2 : 0 ≤ (P.set xa.toNat (P.getD xa.toNat 0 + 1)).getD xb.toNat 0 ∧ (P.set xa.toNat (P.getD xa.toNat 0 + 1)).getD xb.toNat 0 ≤ 2 * (i : Int) + 1 := by
    rw [getD_set]
    have a := hB xb.toNat
    split <;> omega
   have w2 : IntKind.i64.wrap ((P.set xa.toNat (P.getD xa.toNat 0 + 1)).getD xb.toNat 0 + 1) = (P.set xa.toNat (P.getD xa.toNat 0 + 1)).getD xb.toNat 0 + 1 := w64 (by omega) (by omega)
   rw [eb] at h9 ⊢
   have hl1 : (P.set xa.toNat (P.getD xa.toNat 0 + 1)).length = t.length := by rw [zU,hP]
   generalize hP1 : P.set xa.toNat (P.getD xa.toNat 0 + 1) = P1 at *
   have hl2 : (P1.set xb.toNat (P1.getD xb.toNat 0 + 1)).length = t.length := by rw [zU,hl1]
   generalize hP2 : P1.set xb.toNat (P1.getD xb.toNat 0 + 1) = P2 at *
   have t2 : zQ t.length P2 = P2 := zp (by omega)
   rw [LP_go FF b250_3.eq_1]
   simp only [RB,RL,un,St.none,za,zd,ze,zf,zb,zj,zk,zm,zn,zc,zg,zh,zi,↓reduceIte,reduceCtorEq,pack,pid,parN,lid,chkK,apartV,Heap.none,c1,hx',eNd_rules,eNd_row,eNd,zq,e2,a1,a2,b1,b2,a3,b3,hP,hl1,hl2,w1,w2,hP1,hP2,t2]
   exact h9
theorem shape_l2 {t : List RNd} {P : List Int} (ht : t.length ≤ 100000) (hP : P.length = t.length) : ∀ (d i : Nat),i + d = t.length →
  (∃ j,0 < j ∧ j < t.length ∧ P.getD j 0 ≠ 1 ∧ LP FF [(0,0),(42,0),(43,0),(44,0)] [(0,0),(2,0),(3,0)] b250_2 [.l 14 (t.map eNd),.l 1 (P.map n64),(AV.i .i64 ((t.length : Int))),(AV.i .i64 ((i : Int)))] = some (.ret,[.l 14 (t.map eNd),(AV.i .i64 ((j : Int))),(AV.i .i64 11)])) ∨
  ((∀ j,i ≤ j → j < t.length → 0 < j → P.getD j 0 = 1) ∧ LP FF [(0,0),(42,0),(43,0),(44,0)] [(0,0),(2,0),(3,0)] b250_2 [.l 14 (t.map eNd),.l 1 (P.map n64),(AV.i .i64 ((t.length : Int))),(AV.i .i64 ((i : Int)))] = some (.exit 2,[.l 14 (t.map eNd),.junk,.junk])) := by
 intro d
 induction d with
 | zero =>
  intro i hi
  refine .inr ⟨fun j h1 h2 => by omega,?_⟩
  have c1 : ¬ (i : Int) < (t.length : Int) := by omega
  rw [LP_go FF b250_2.eq_1]
  simp only [RB,RL,un,St.none,za,zd,ze,zf,zb,zj,zk,zm,zn,zc,zg,zh,zi,↓reduceIte,reduceCtorEq,pack,pid,parN,lid,chkK,apartV,Heap.none,c1,eNd_rules,eNd_row]
 | succ d ih =>
  intro i hi
  have hlt : i < t.length := by omega
  have c1 : (i : Int) < (t.length : Int) := by omega
  have c2 : i < t.length := hlt
  have e2 : IntKind.i64.wrap ((i : Int) + 1) = ((i + 1 : Nat) : Int) := w64succ (by omega)
  by_cases h0 : 0 < (i : Int)
  ·by_cases h1 : P.getD i 0 = 1
   ·have step : LP FF [(0,0),(42,0),(43,0),(44,0)] [(0,0),(2,0),(3,0)] b250_2 [.l 14 (t.map eNd),.l 1 (P.map n64),(AV.i .i64 ((t.length : Int))),(AV.i .i64 ((i : Int)))] = LP FF [(0,0),(42,0),(43,0),(44,0)] [(0,0),(2,0),(3,0)] b250_2 [.l 14 (t.map eNd),.l 1 (P.map n64),(AV.i .i64 ((t.length : Int))),(AV.i .i64 (((i + 1 : Nat) : Int)))] := by
     rw [LP_go FF b250_2.eq_1]
     simp only [RB,RL,un,St.none,za,zd,ze,zf,zb,zj,zk,zm,zn,zc,zg,zh,zi,↓reduceIte,reduceCtorEq,pack,pid,parN,lid,chkK,apartV,Heap.none,c1,c2,h0,h1,hP,eNd_rules,eNd_row,zq,e2]
    rw [step]
    rcases ih (i + 1) (by omega) with h9 | ⟨h8,h9⟩
    ·exact .inl h9
    ·exact .inr ⟨fun j a b c => by
      rcases Nat.eq_or_lt_of_le a with rfl | a
      ·exact h1
      ·exact h8 j a b c,h9⟩
   ·refine .inl ⟨i,by omega,hlt,h1,?_⟩
    rw [LP_go FF b250_2.eq_1]
    simp only [RB,RL,un,St.none,za,zd,ze,zf,zb,zj,zk,zm,zn,zc,zg,zh,zi,↓reduceIte,reduceCtorEq,pack,pid,parN,lid,chkK,apartV,Heap.none,c1,c2,h0,h1,hP,eNd_rules,eNd_row,zq,e2]
  ·have step : LP FF [(0,0),(42,0),(43,0),(44,0)] [(0,0),(2,0),(3,0)] b250_2 [.l 14 (t.map eNd),.l 1 (P.map n64),(AV.i .i64 ((t.length : Int))),(AV.i .i64 ((i : Int)))] = LP FF [(0,0),(42,0),(43,0),(44,0)] [(0,0),(2,0),(3,0)] b250_2 [.l 14 (t.map eNd),.l 1 (P.map n64),(AV.i .i64 ((t.length : Int))),(AV.i .i64 (((i + 1 : Nat) : Int)))] := by
    rw [LP_go FF b250_2.eq_1]
    simp only [RB,RL,un,St.none,za,zd,ze,zf,zb,zj,zk,zm,zn,zc,zg,zh,zi,↓reduceIte,reduceCtorEq,pack,pid,parN,lid,chkK,apartV,Heap.none,c1,c2,h0,hP,eNd_rules,eNd_row,zq,e2]
   rw [step]
   rcases ih (i + 1) (by omega) with h9 | ⟨h8,h9⟩
   ·exact .inl h9
   ·exact .inr ⟨fun j a b c => h8 j (by omega) b c,h9⟩
def kids (n : RNd) : List Nat := if n.leaf then [] else [n.rgt.toNat,n.lft.toNat]
def cntN (j : Nat) (n : RNd) : Nat := if n.leaf then 0 else (if n.lft.toNat = j then 1 else 0) + (if n.rgt.toNat = j then 1 else 0)
def cnt (j : Nat) : List RNd → Nat
 | [] => 0
 | n :: l => cntN j n + cnt j l
theorem bump_cnt {P : List Int} {n : RNd} (hn : n.leaf = false → n.lft.toNat < P.length ∧ n.rgt.toNat < P.length) (j : Nat) : (bump P n).getD j 0 = P.getD j 0 + (cntN j n : Nat) := by
 unfold bump cntN
 cases hl : n.leaf with
 | true => simp
 | false =>
  obtain ⟨h1,h2⟩ := hn hl
  simp only [ji,if_false]
  rw [getD_set,getD_set,getD_set,zU]
  by_cases e1 : n.lft.toNat = j <;> by_cases e2 : n.rgt.toNat = j
  ·have e3 : n.lft.toNat = n.rgt.toNat := by omega
   rw [if_pos ⟨e2,h2⟩,if_pos ⟨e3,h1⟩,if_pos e1,if_pos e2,e1]; omega
  ·rw [if_neg (fun h => e2 h.1),if_pos ⟨e1,h1⟩,if_pos e1,if_neg e2,e1]; omega
  ·have e3 : ¬ n.lft.toNat = n.rgt.toNat := by omega
   rw [if_pos ⟨e2,h2⟩,if_neg (fun h => e3 h.1),if_neg e1,if_pos e2,e2]; omega
  ·rw [if_neg (fun h => e2 h.1),if_neg (fun h => e1 h.1),if_neg e1,if_neg e2]; omega
theorem foldl_cnt : ∀ (l : List RNd) (P : List Int),(∀ n ∈ l,n.leaf = false → n.lft.toNat < P.length ∧ n.rgt.toNat < P.length) → ∀ j,(l.foldl bump P).getD j 0 = P.getD j 0 + (cnt j l : Nat) := by
 intro l
 induction l with
 | nil => intro P _ j; show P.getD j 0 = P.getD j 0 + ((0 : Nat) : Int); omega
 | cons n l ih =>
  intro P h j
  have h1 := bump_cnt (h n (zG ..)) j
  have h2 := ih (bump P n) (fun m hm => by rw [bump_len]; exact h m (zH _ hm)) j
  rw [List.foldl_cons,h2,h1]
  show _ = _ + ((cntN j n + cnt j l : Nat) : Int)
  omega
theorem parL_cnt {t : List RNd} (h : ∀ n ∈ t,n.leaf = false → n.lft.toNat < t.length ∧ n.rgt.toNat < t.length) (j : Nat) : (parL t).getD j 0 = (cnt j t : Nat) := by
 unfold parL
 rw [foldl_cnt t _ (fun n hn hl => by rw [zP]; exact h n hn hl)]
 have e : (zL t.length (0 : Int)).getD j 0 = 0 := by
  rw [zo,List.getElem?_replicate]
  split <;> rfl
 rw [e]; omega
theorem cntN_kids {j : Nat} {n : RNd} (h : j ∈ kids n) : 1 ≤ cntN j n := by
 unfold kids at h
 unfold cntN
 split at h
 ·exact (zY h).elim
 ·rename_i hl
  rw [if_neg hl]
  simp only [List.mem_cons,zY,or_false] at h
  rcases h with rfl | rfl <;> simp
theorem cnt_one : ∀ (l : List RNd) (i j : Nat),i < l.length → j ∈ kids (l.getD i dNd) → 1 ≤ cnt j l := by
 intro l
 induction l with
 | nil => intro i j h; exact absurd h (Nat.not_lt_zero _)
 | cons n l ih =>
  intro i j hi hk
  show 1 ≤ cntN j n + cnt j l
  cases i with
  | zero => have := cntN_kids (show j ∈ kids n from hk); omega
  | succ i => have := ih i j (by rw [zF] at hi; omega) hk; omega
theorem cnt_two : ∀ (l : List RNd) (i i' j : Nat),i < i' → i' < l.length → j ∈ kids (l.getD i dNd) → j ∈ kids (l.getD i' dNd) → 2 ≤ cnt j l := by
 intro l
 induction l with
 | nil => intro i i' j _ h; exact absurd h (Nat.not_lt_zero _)
 | cons n l ih =>
  intro i i' j hlt hi hk hk'
  show 2 ≤ cntN j n + cnt j l
  cases i' with
  | zero => omega
  | succ i' =>
   rw [zF] at hi
   cases i with
   | zero =>
    have h1 := cntN_kids (show j ∈ kids n from hk)
    have h2 := cnt_one l i' j (by omega) hk'
    omega
   | succ i => have := ih i i' j (by omega) (by omega) hk hk'; omega
theorem cnt_dup : ∀ (l : List RNd) (i : Nat),i < l.length → (l.getD i dNd).leaf = false → (l.getD i dNd).lft.toNat = (l.getD i dNd).rgt.toNat → 2 ≤ cnt (l.getD i dNd).lft.toNat l := by
 intro l
 induction l with
 | nil => intro i h; exact absurd h (Nat.not_lt_zero _)
 | cons n l ih =>
  intro i hi hl he
  cases i with
  | zero =>
   have hl : n.leaf = false := hl
   have he : n.lft.toNat = n.rgt.toNat := he
   show 2 ≤ cntN n.lft.toNat n + cnt n.lft.toNat l
   unfold cntN
   rw [hl,if_neg (by decide),if_pos rfl,if_pos he.symm]; omega
  | succ i =>
   have := ih i (by rw [zF] at hi; omega) hl he
   show 2 ≤ cntN (l.getD i dNd).lft.toNat n + cnt (l.getD i dNd).lft.toNat l
   omega
structure Par (t : List RNd) : Prop where
 rng : ∀ i,i < t.length → ∀ c ∈ kids (t.getD i dNd),1 ≤ c ∧ c < t.length
 one : ∀ j,0 < j → j < t.length → cnt j t = 1
theorem Par.uniq {t : List RNd} (h : Par t) {i i' c : Nat} (hi : i < t.length) (hi' : i' < t.length) (hc : c ∈ kids (t.getD i dNd)) (hc' : c ∈ kids (t.getD i' dNd)) : i = i' := by
 obtain ⟨r1,r2⟩ := h.rng i hi c hc
 have h1 := h.one c (by omega) r2
 rcases Nat.lt_trichotomy i i' with hl | hl | hl
 ·have := cnt_two t i i' c hl hi' hc hc'; omega
 ·exact hl
 ·have := cnt_two t i' i c hl hi hc' hc; omega
theorem Par.nd {t : List RNd} (h : Par t) {i : Nat} (hi : i < t.length) : (kids (t.getD i dNd)).Nodup := by
 have hr := h.rng i hi
 have hd := cnt_dup t i hi
 unfold kids at *
 cases hl : (t.getD i dNd).leaf with
 | true => simp
 | false =>
  rw [hl] at hr hd
  simp only [ji,if_false] at hr ⊢
  have hne : (t.getD i dNd).rgt.toNat ≠ (t.getD i dNd).lft.toNat := fun e => by
   have h2 := hd rfl e.symm
   have r := hr (t.getD i dNd).lft.toNat (by simp)
   have := h.one _ (by omega) r.2
   omega
  exact List.nodup_cons.2 ⟨fun hm => hne (List.mem_singleton.1 hm),List.nodup_cons.2 ⟨zY,List.nodup_nil⟩⟩
def dfs (t : List RNd) : Nat → List Nat → Option (List Nat)
 | _,[] => some []
 | 0,_ :: _ => none
 | k + 1,a :: S => (dfs t k (kids (t.getD a dNd) ++ S)).map (a :: ·)
theorem nodup_len : ∀ (n : Nat) {l : List Nat},l.Nodup → (∀ x ∈ l,x < n) → l.length ≤ n := by
 intro n
 induction n with
 | zero =>
  intro l _ hl
  cases l with
  | nil => exact zz _
  | cons a l => exact absurd (hl a (zG ..)) (Nat.not_lt_zero _)
 | succ n ih =>
  intro l h hl
  by_cases hm : n ∈ l
  ·have h1 := ih (h.erase n) (fun x hx => by
    have h2 := (h.mem_erase_iff).1 hx
    have h3 := hl x h2.2
    omega)
   rw [List.length_erase_of_mem hm] at h1
   omega
  ·have h1 := ih h (fun x hx => by
    have h3 := hl x hx
    have h4 : x ≠ n := fun e => hm (e ▸ hx)
    omega)
   omega
theorem dfs_some {t : List RNd} (h : Par t) : ∀ (k : Nat) (V S : List Nat),(V ++ S).Nodup → (∀ c ∈ V ++ S,c < t.length) → (∀ c ∈ V ++ S,c = 0 ∨ ∃ p ∈ V,c ∈ kids (t.getD p dNd)) → t.length ≤ V.length + k →
  ∃ vis,dfs t k S = some vis ∧ (V ++ vis).Nodup ∧ (∀ c ∈ vis,c < t.length) ∧ ∀ c ∈ S,c ∈ vis := by
 intro k
 induction k with
 | zero =>
  intro V S hnd hlt hp hk
  cases S with
  | nil => exact ⟨[],rfl,hnd,fun _ h => (zY h).elim,fun _ h => (zY h).elim⟩
  | cons a S =>
   have := nodup_len t.length hnd hlt
   rw [zx,zF] at this
   omega
 | succ k ih =>
  intro V S hnd hlt hp hk
  cases S with
  | nil => exact ⟨[],rfl,hnd,fun _ h => (zY h).elim,fun _ h => (zY h).elim⟩
  | cons a S =>
   have ha : a < t.length := hlt a (by simp)
   have hk1 : ∀ c ∈ kids (t.getD a dNd),c ∉ V ++ a :: S := by
    intro c hc hm
    have hr := h.rng a ha c hc
    rcases hp c hm with h0 | ⟨p,hpV,hpc⟩
    ·omega
    ·have hpl : p < t.length := hlt p (by simp [hpV])
     have e := h.uniq hpl ha hpc hc
     subst e
     have := (List.nodup_append.1 hnd).2.2 p hpV p (zG ..)
     exact this rfl
   have hnd2 : (V ++ [a] ++ (kids (t.getD a dNd) ++ S)).Nodup := by
    rw [List.nodup_append] at hnd ⊢
    obtain ⟨n1,n2,n3⟩ := hnd
    obtain ⟨n4,n5⟩ := List.nodup_cons.1 n2
    refine ⟨?_,?_,?_⟩
    ·rw [List.nodup_append]
     exact ⟨n1,by simp,fun x hx y hy => by rw [List.mem_singleton.1 hy]; exact n3 x hx a (zG ..)⟩
    ·rw [List.nodup_append]
     exact ⟨h.nd ha,n5,fun x hx y hy e => hk1 x hx (by rw [e]; simp [hy])⟩
    ·intro x hx y hy e
     subst e
     rcases List.mem_append.1 hy with hy | hy
     ·rcases List.mem_append.1 hx with hx | hx
      ·exact hk1 x hy (by simp [hx])
      ·rw [List.mem_singleton.1 hx] at hy; exact hk1 a hy (by simp)
     ·rcases List.mem_append.1 hx with hx | hx
      ·exact n3 x hx x (zH _ hy) rfl
      ·rw [List.mem_singleton.1 hx] at hy; exact n4 hy
   obtain ⟨vis,v1,v2,v3,v4⟩ := ih (V ++ [a]) (kids (t.getD a dNd) ++ S) hnd2 (fun c hc => by
    simp only [List.mem_append,ja] at hc
    rcases hc with (hc | hc) | (hc | hc)
    ·exact hlt c (by simp [hc])
    ·rw [hc]; exact ha
    ·exact (h.rng a ha c hc).2
    ·exact hlt c (by simp [hc])) (fun c hc => by
    simp only [List.mem_append,ja] at hc
    rcases hc with (hc | hc) | (hc | hc)
    ·rcases hp c (by simp [hc]) with h0 | ⟨p,hpV,hpc⟩
     ·exact .inl h0
     ·exact .inr ⟨p,by simp [hpV],hpc⟩
    ·rcases hp c (by simp [hc]) with h0 | ⟨p,hpV,hpc⟩
     ·exact .inl h0
     ·exact .inr ⟨p,by simp [hpV],hpc⟩
    ·exact .inr ⟨a,by simp,hc⟩
    ·rcases hp c (by simp [hc]) with h0 | ⟨p,hpV,hpc⟩
     ·exact .inl h0
     ·exact .inr ⟨p,by simp [hpV],hpc⟩) (by rw [zx,jg]; omega)
   refine ⟨a :: vis,by rw [dfs,v1]; rfl,by rwa [List.append_assoc] at v2,fun c hc => ?_,fun c hc => ?_⟩
   ·rcases List.mem_cons.1 hc with rfl | hc
    ·exact ha
    ·exact v3 c hc
   ·rcases List.mem_cons.1 hc with rfl | hc
    ·exact zG ..
    ·exact zH _ (v4 c (List.mem_append_right _ hc))
def eB (b : Bool) : List AV := [.b b]
theorem eB_rules : (∀ x,(eB x).length = 1) ∧ (∀ h x,(eB x).map (tellC h) = eB x) ∧ (∀ h x,(eB x).map (tell0 h) = eB x) ∧ (∀ h x,(eB x).flatMap (refC h) = []) ∧ (∀ x,(eB x).flatMap ref0 = []) ∧
  (∀ x,ldC false 1 0 (eB x) = some (.b x)) := by
 refine ⟨?_,?_,?_,?_,?_,?_⟩ <;> intros <;> rfl
theorem eB_row : type_of% (row_rules eB false 1 (fun _ => rfl) (fun _ _ => rfl)) := row_rules eB false 1 (fun _ => rfl) (fun _ _ => rfl)
theorem shape_l1 {t : List RNd} (ht : t.length ≤ 100000) (hp : Par t) : ∀ (k : Nat) (S : List Nat) (seen : List Bool) (vis : List Nat),dfs t k S = some vis → (∀ c ∈ S,c < t.length) → seen.length = t.length →
  (∀ c ∈ vis,c < t.length) → S.length + k ≤ 1000000 →
  LP FF [(9,1),(10,1),(0,0)] [(9,0)] b250_1 [.own true 1 (seen.map eB),.own true 1 (S.reverse.map eX),.l 14 (t.map eNd)] = some (.exit 4,[.l 1 ((vis.foldl (fun s a => s.set a true) seen).map eB)]) := by
 intro k
 induction k with
 | zero =>
  intro S seen vis hd hS hs hv hk
  cases S with
  | nil =>
   cases hd
   rw [List.foldl_nil]
   rw [LP_go FF b250_1.eq_1]
   simp only [RB,RL,un,St.none,za,zd,ze,zf,zb,zj,zk,zm,zn,zc,zg,zh,zi,↓reduceIte,reduceCtorEq,pack,pid,parN,lid,chkK,apartV,Heap.none,eB_rules,eB_row,eX_rules,eX_row,zt,List.reverse_nil]
  | cons a S => cases hd
 | succ k ih =>
  intro S seen vis hd hS hs hv hk
  cases S with
  | nil =>
   cases hd
   rw [List.foldl_nil]
   rw [LP_go FF b250_1.eq_1]
   simp only [RB,RL,un,St.none,za,zd,ze,zf,zb,zj,zk,zm,zn,zc,zg,zh,zi,↓reduceIte,reduceCtorEq,pack,pid,parN,lid,chkK,apartV,Heap.none,eB_rules,eB_row,eX_rules,eX_row,zt,List.reverse_nil]
  | cons a S =>
   have ha : a < t.length := hS a (zG ..)
   rw [dfs] at hd
   obtain ⟨vis',hd',rfl⟩ := Option.map_eq_some_iff.1 hd
   have hkl : (kids (t.getD a dNd)).length ≤ 2 := by unfold kids; split <;> simp
   have hv' : ∀ c ∈ vis',c < t.length := fun c hc => hv c (zH _ hc)
   have h9 := ih (kids (t.getD a dNd) ++ S) (seen.set a true) vis' hd' (fun c hc => by
    rcases List.mem_append.1 hc with hc | hc
    ·exact (hp.rng a ha c hc).2
    ·exact hS c (zH _ hc)) (by rw [zU,hs]) hv' (by
     rw [zx]; rw [zF] at hk; omega)
   rw [List.foldl_cons,List.reverse_cons]
   rw [List.reverse_append] at h9
   have hrl : S.reverse.length = S.length := List.length_reverse ..
   rw [zF] at hk
   generalize S.reverse = Q at *
   have hQ : Q.length = S.length := hrl
   have hl1 : (Q ++ [a]).length = Q.length + 1 := by rw [zx,jg]
   have hg : (Q ++ [a]).getD Q.length 0 = a := by rw [zo,jc (zz _),Nat.sub_self]; rfl
   have mt : zQ Q.length (Q ++ [a]) = Q := List.take_left
   have c0 : 0 < ((Q.length + 1 : Nat) : Int) := by omega
   have e1 : IntKind.i64.wrap (((Q.length + 1 : Nat) : Int) - 1) = (Q.length : Int) := by rw [w64 (by omega) (by omega)]; omega
   have c1 : (Q.length : Int) < ((Q.length + 1 : Nat) : Int) := by omega
   have c2 : Q.length < Q.length + 1 := by omega
   have c3 : (Q.length : Int) ≤ ((Q.length + 1 : Nat) : Int) := by omega
   have c4 : Q.length ≤ Q.length + 1 := by omega
   have d1 : (a : Int) < (t.length : Int) := by omega
   have hss : (seen.set a true).length = t.length := by rw [zU,hs]
   have hpc : putC 1 (List.map eB seen) a 0 [AV.b true] = List.map eB (seen.set a true) := eB_row.2.2.2.1 seen a true
   have hst : zQ t.length (seen.set a true) = seen.set a true := zp (by omega)
   generalize hsn : seen.set a true = seen' at *
   have hrn := hp.rng a ha
   obtain ⟨x,hx⟩ : ∃ x,x = t.getD a dNd := ⟨_,rfl⟩
   rw [← hx] at h9 hkl hrn
   have hx' := hx.symm
   obtain ⟨xl,xf,xc,xa,xb,xm,xv,xw⟩ := x
   cases xl with
   | true =>
    rw [show kids ⟨true,xf,xc,xa,xb,xm,xv,xw⟩ = [] from rfl,List.reverse_nil,List.append_nil] at h9
    rw [LP_go FF b250_1.eq_1]
    simp only [RB,RL,un,St.none,za,zd,ze,zf,zb,zj,zk,zm,zn,zc,zg,zh,zi,↓reduceIte,reduceCtorEq,pack,pid,parN,lid,chkK,apartV,Heap.none,eB_rules,eB_row,eX_rules,eX_row,eNd_rules,eNd_row,eNd,hx',zt,hl1,hg,mt,c0,e1,c1,c2,c3,c4,d1,ha,hs,hpc,hst,hss,zq,Int.le_refl]
    exact h9
   | false =>
    have r1 : 1 ≤ xb.toNat ∧ xb.toNat < t.length := hrn xb.toNat (by show _ ∈ [xb.toNat,xa.toNat]; simp)
    have r2 : 1 ≤ xa.toNat ∧ xa.toNat < t.length := hrn xa.toNat (by show _ ∈ [xb.toNat,xa.toNat]; simp)
    obtain ⟨p,rfl⟩ : ∃ p : Nat,xa = p := ⟨xa.toNat,by omega⟩
    obtain ⟨q,rfl⟩ : ∃ q : Nat,xb = q := ⟨xb.toNat,by omega⟩
    rw [show (kids ⟨false,xf,xc,(p : Int),(q : Int),xm,xv,xw⟩).reverse = [p,q] from rfl] at h9
    have m1 : List.map eX Q ++ [[AV.i .i64 (p : Int)],[AV.i .i64 (q : Int)]] = List.map eX (Q ++ [p,q]) := by rw [jb]; rfl
    have m2 : zQ (Q.length + 2) (Q ++ [p,q]) = Q ++ [p,q] := zp (by rw [zx]; exact zz _)
    have b2 : (Q.length + 2) * 8 ≤ 140737488355328 := by omega
    rw [LP_go FF b250_1.eq_1]
    simp only [RB,RL,un,St.none,za,zd,ze,zf,zb,zj,zk,zm,zn,zc,zg,zh,zi,↓reduceIte,reduceCtorEq,pack,pid,parN,lid,chkK,apartV,Heap.none,eB_rules,eB_row,eX_rules,eX_row,eNd_rules,eNd_row,eNd,hx',zt,hl1,hg,mt,c0,e1,c1,c2,c3,c4,d1,ha,hs,hpc,hst,hss,zq,Int.le_refl,n64,m1,m2,b2]
    exact h9
theorem marks (vis : List Nat) : ∀ (s : List Bool) (j : Nat),(vis.foldl (fun s a => s.set a true) s).length = s.length ∧ ((vis.foldl (fun s a => s.set a true) s).getD j false = true ↔ s.getD j false = true ∨ (j ∈ vis ∧ j < s.length)) := by
 induction vis with
 | nil => intro s j; exact ⟨rfl,⟨.inl,fun h => h.elim id fun h => (zY h.1).elim⟩⟩
 | cons a vis ih =>
  intro s j
  obtain ⟨h1,h2⟩ := ih (s.set a true) j
  rw [zU] at h1 h2
  refine ⟨h1,?_⟩
  rw [List.foldl_cons,h2]
  have e : (s.set a true).getD j false = true ↔ s.getD j false = true ∨ (j = a ∧ j < s.length) := by
   rw [zo,zo,List.getElem?_set]
   by_cases h : a = j
   ·subst h
    by_cases h3 : a < s.length
    ·rw [if_pos rfl,if_pos h3]; simp [h3]
    ·rw [if_pos rfl,if_neg h3,jf (by omega)]; simp [h3]
   ·rw [if_neg h]
    constructor
    ·exact .inl
    ·rintro (k | k)
     ·exact k
     ·exact (h k.1.symm).elim
  rw [e,List.mem_cons]
  constructor
  ·rintro ((k | k) | k)
   ·exact .inl k
   ·exact .inr ⟨.inl k.1,k.2⟩
   ·exact .inr ⟨.inr k.1,k.2⟩
  ·rintro (k | ⟨k | k,k2⟩)
   ·exact .inl (.inl k)
   ·exact .inl (.inr ⟨k,k2⟩)
   ·exact .inr ⟨k,k2⟩
theorem shape_l0 {s : List Bool} (hs : s.length ≤ 100000) : ∀ (d i : Nat),i + d = s.length →
  (∃ j,j < s.length ∧ s.getD j false = false ∧ LP FF [(92,0),(93,0),(94,0)] [(2,0),(3,0)] b250_0 [.l 1 (s.map eB),(AV.i .i64 ((s.length : Int))),(AV.i .i64 ((i : Int)))] = some (.ret,[(AV.i .i64 ((j : Int))),(AV.i .i64 11)])) ∨
  ((∀ j,i ≤ j → j < s.length → s.getD j false = true) ∧ LP FF [(92,0),(93,0),(94,0)] [(2,0),(3,0)] b250_0 [.l 1 (s.map eB),(AV.i .i64 ((s.length : Int))),(AV.i .i64 ((i : Int)))] = some (.exit 6,[.junk,.junk])) := by
 intro d
 induction d with
 | zero =>
  intro i hi
  refine .inr ⟨fun j h1 h2 => by omega,?_⟩
  have c1 : ¬ (i : Int) < (s.length : Int) := by omega
  rw [LP_go FF b250_0.eq_1]
  simp only [RB,RL,un,St.none,za,zd,ze,zf,zb,zj,zk,zm,zn,zc,zg,zh,zi,↓reduceIte,reduceCtorEq,pack,pid,parN,lid,chkK,apartV,Heap.none,c1]
 | succ d ih =>
  intro i hi
  have hlt : i < s.length := by omega
  have c1 : (i : Int) < (s.length : Int) := by omega
  have e2 : IntKind.i64.wrap ((i : Int) + 1) = ((i + 1 : Nat) : Int) := w64succ (by omega)
  cases h1 : s.getD i false with
  | true =>
   have step : LP FF [(92,0),(93,0),(94,0)] [(2,0),(3,0)] b250_0 [.l 1 (s.map eB),(AV.i .i64 ((s.length : Int))),(AV.i .i64 ((i : Int)))] = LP FF [(92,0),(93,0),(94,0)] [(2,0),(3,0)] b250_0 [.l 1 (s.map eB),(AV.i .i64 ((s.length : Int))),(AV.i .i64 (((i + 1 : Nat) : Int)))] := by
    rw [LP_go FF b250_0.eq_1]
    simp only [RB,RL,un,St.none,za,zd,ze,zf,zb,zj,zk,zm,zn,zc,zg,zh,zi,↓reduceIte,reduceCtorEq,pack,pid,parN,lid,chkK,apartV,Heap.none,c1,h1,eB_rules,eB_row,zq,e2]
   rw [step]
   rcases ih (i + 1) (by omega) with h9 | ⟨h8,h9⟩
   ·exact .inl h9
   ·exact .inr ⟨fun j a b => by
     rcases Nat.eq_or_lt_of_le a with rfl | a
     ·exact h1
     ·exact h8 j a b,h9⟩
  | false =>
   refine .inl ⟨i,hlt,h1,?_⟩
   rw [LP_go FF b250_0.eq_1]
   simp only [RB,RL,un,St.none,za,zd,ze,zf,zb,zj,zk,zm,zn,zc,zg,zh,zi,↓reduceIte,reduceCtorEq,pack,pid,parN,lid,chkK,apartV,Heap.none,c1,h1,eB_rules,eB_row,zq,e2]
structure Shp (t : List RNd) : Prop where
 par : Par t
 all : ∃ vis,dfs t t.length [0] = some vis ∧ ∀ j,j < t.length → j ∈ vis
theorem rng_of {t : List RNd} {f : Int} (hr : t.any (bdR t.length f) = false) {n : RNd} (hn : n ∈ t) (hl : n.leaf = false) : 0 ≤ n.ft ∧ n.ft < f ∧ 1 ≤ n.lft ∧ n.lft < (t.length : Int) ∧ 1 ≤ n.rgt ∧ n.rgt < (t.length : Int) := by
 rw [List.any_eq_false] at hr
 have h := hr n hn
 unfold bdR at h
 rw [hl] at h
 simp only [Bool.not_false,Bool.true_and,Bool.or_eq_true,decide_eq_true_eq,not_or] at h
 omega
theorem kids_rng {t : List RNd} {f : Int} (hr : t.any (bdR t.length f) = false) : ∀ i,i < t.length → ∀ c ∈ kids (t.getD i dNd),1 ≤ c ∧ c < t.length := by
 intro i hi c hc
 unfold kids at hc
 split at hc
 ·exact (zY hc).elim
 ·rename_i hl
  have hl' : (t.getD i dNd).leaf = false := by simpa using hl
  have h := rng_of hr (getD_mem' dNd hi) hl'
  simp only [List.mem_cons,zY,or_false] at hc
  rcases hc with rfl | rfl <;> omega
theorem shape_c {t : List RNd} {f : Int} (h1t : 1 ≤ t.length) (ht : t.length ≤ 100000) (hr : t.any (bdR t.length f) = false) : ∃ i e : Int,R FF 250 [.l 14 (t.map eNd)] = some (.tup [(AV.i .i64 i),(AV.i .i64 e)]) ∧ ((Shp t ∧ i = 0 ∧ e = 0) ∨ (¬ Shp t ∧ e = 11)) := by
 have l3 := shape_l3 ht hr t.length 0 (zL t.length 0) (by omega) (zP ..) (fun j => by
  rw [zo,List.getElem?_replicate]
  split <;> simp)
 rw [zI,List.drop_zero] at l3
 change LP FF [(4,1),(0,0),(18,0),(19,0),(20,0)] [(0,0),(4,0)] b250_3 _ = some (Ex.exit 0,[AV.l 14 (t.map eNd),AV.l 1 ((parL t).map n64)]) at l3
 have hpl : (parL t).length = t.length := by
  have : ∀ (l : List RNd) (P : List Int),(l.foldl bump P).length = P.length := by
   intro l
   induction l with
   | nil => intro P; rfl
   | cons n l ih => intro P; rw [List.foldl_cons,ih,bump_len]
  unfold parL; rw [this,zP]
 have hpc := parL_cnt (t := t) (fun n hn hl => by have := rng_of hr hn hl; omega)
 have l2 := shape_l2 ht hpl t.length 0 (by omega)
 rw [zI] at l2
 have c0 : (0 : Int) ≤ (t.length : Int) := by omega
 have b1 : t.length * 8 ≤ 281474976710656 := by omega
 have b2 : t.length * 1 ≤ 281474976710656 := by omega
 have b3 : t.length ≤ 281474976710656 := by omega
 have tr1 : zQ t.length (zL t.length (0 : Int)) = zL t.length 0 := zp (by rw [zP]; exact zz _)
 have tr2 : zQ t.length (zL t.length false) = zL t.length false := zp (by rw [zP]; exact zz _)
 have rB : ∀ n,zL n [AV.b false] = (zL n false).map eB := fun n => by rw [List.map_replicate]; rfl
 rcases l2 with ⟨j,j0,j1,j2,l2⟩ | ⟨h2,l2⟩
 ·refine ⟨j,11,?_,.inr ⟨fun h => ?_,rfl⟩⟩
  ·generalize parL t = P at *
   rw [R_go FF F250 c250.eq_1]
   simp only [RB,RL,un,St.none,za,zd,ze,zf,zb,zj,zk,zm,zn,zc,zg,zh,zi,↓reduceIte,reduceCtorEq,pack,pid,parN,lid,chkK,apartV,Heap.none,tr1,tr2,l3,l2,c0,b1,b2,b3,hpl,eNd_rules,eNd_row,n64,Int.toNat_natCast]
  ·rw [hpc,h.par.one j j0 j1] at j2
   exact j2 rfl
 ·have hpar : Par t := ⟨kids_rng hr,fun j j0 j1 => by
   have := h2 j (Nat.zero_le _) j1 j0
   rw [hpc] at this
   omega⟩
  obtain ⟨vis,v1,v2,v3,v4⟩ := dfs_some hpar t.length [] [0] (by simp) (fun c hc => by
   rw [List.nil_append,ja] at hc; omega) (fun c hc => by
   rw [List.nil_append,ja] at hc; exact .inl hc) (by simp)
  have l1 := shape_l1 ht hpar t.length [0] (zL t.length false) vis v1 (fun c hc => by
   rw [ja] at hc; omega) (zP ..) v3 (by rw [jg]; omega)
  have hm := marks vis (zL t.length false)
  have hrf : ∀ j,(zL t.length false).getD j false = false := fun j => by
   rw [zo,List.getElem?_replicate]; split <;> rfl
  have hml : (vis.foldl (fun s a => s.set a true) (zL t.length false)).length = t.length := by rw [(hm 0).1,zP]
  have l0 := shape_l0 (s := vis.foldl (fun s a => s.set a true) (zL t.length false)) (by omega) _ 0 (zX _)
  rw [hml,zI] at l0
  have e10 : List.map eX [0].reverse = [[AV.i .i64 0]] := rfl
  rw [e10] at l1
  have hz : vis.foldl (fun s a => s.set a true) (zL t.length false) = vis.foldl (fun s a => s.set a true) (zL t.length false) := rfl
  rcases l0 with ⟨j,j1,j2,l0⟩ | ⟨h0,l0⟩
  ·refine ⟨j,11,?_,.inr ⟨fun h => ?_,rfl⟩⟩
   ·generalize vis.foldl (fun s a => s.set a true) (zL t.length false) = M at *
    generalize parL t = P at *
    rw [R_go FF F250 c250.eq_1]
    simp only [RB,RL,un,St.none,za,zd,ze,zf,zb,zj,zk,zm,zn,zc,zg,zh,zi,↓reduceIte,reduceCtorEq,pack,pid,parN,lid,chkK,apartV,Heap.none,tr1,tr2,l3,l2,l1,l0,c0,b1,b2,b3,hpl,hml,rB,eNd_rules,eNd_row,eB_rules,eB_row,eX_rules,eX_row,n64,Int.toNat_natCast]
   ·obtain ⟨vis',w1,w2⟩ := h.all
    rw [v1] at w1
    cases w1
    have h5 := (hm j).2.2 (.inr ⟨w2 j j1,by rw [zP]; exact j1⟩)
    rw [j2] at h5
    cases h5
  ·refine ⟨0,0,?_,.inl ⟨⟨hpar,vis,v1,fun j hj => ?_⟩,rfl,rfl⟩⟩
   ·generalize vis.foldl (fun s a => s.set a true) (zL t.length false) = M at *
    generalize parL t = P at *
    rw [R_go FF F250 c250.eq_1]
    simp only [RB,RL,un,St.none,za,zd,ze,zf,zb,zj,zk,zm,zn,zc,zg,zh,zi,↓reduceIte,reduceCtorEq,pack,pid,parN,lid,chkK,apartV,Heap.none,tr1,tr2,l3,l2,l1,l0,c0,b1,b2,b3,hpl,hml,rB,eNd_rules,eNd_row,eB_rules,eB_row,eX_rules,eX_row,n64,Int.toNat_natCast]
   ·have h5 := (hm j).2.1 (h0 j (Nat.zero_le _) hj)
    rcases h5 with h5 | h5
    ·rw [hrf] at h5; cases h5
    ·exact h5.1
def okR (f : Int) (r : Nat) (t : List RNd) : Prop := match r with
 | 0 => t.any (bdR t.length f) = false
 | 1 => Shp t
 | 2 => t.any bdC = false
 | _ => t.any (bdS t) = false
structure VT (t : List RNd) (f : Int) : Prop where
 rg : t.any (bdR t.length f) = false
 sh : Shp t
 cv : t.any bdC = false
 sm : t.any (bdS t) = false
theorem check_l1 {f : Int} {ts : List (List RNd)} {k r : Nat} (hk : k ≤ 10000000000) (h1k : 1 ≤ k) (hts : ts.length ≤ 100000) (ht : ∀ t ∈ ts,1 ≤ t.length ∧ t.length ≤ 100000 ∧ SmT t k) (hr4 : r < 4) (hr : r = 0 ∨ ∀ t ∈ ts,t.any (bdR t.length f) = false) : ∀ (d i : Nat),i + d = ts.length →
  (∃ e a b c : Int,e ≠ 0 ∧ (∃ t ∈ ts,¬ okR f r t) ∧ LP FF [(2,1),(1,0),(3,0),(12,0),(16,0),(17,0),(18,0)] [(2,1),(1,0),(12,0)] b237_1 [.ownp [(AV.i .i64 0),(AV.i .i64 0),(AV.i .i64 0),(AV.i .i64 0)],.tp (eM (f,ts)) 0,(AV.i .i64 ((r : Int))),(AV.i .i64 ((r : Int))),.l 1 (ts.map eTr),(AV.i .i64 ((ts.length : Int))),(AV.i .i64 ((i : Int)))] = some (.ret,[.ownp [(AV.i .i64 e),(AV.i .i64 a),(AV.i .i64 b),(AV.i .i64 c)],.tp (eM (f,ts)) 0,(AV.i .i64 ((r : Int)))])) ∨
  ((∀ j,i ≤ j → j < ts.length → okR f r (ts.getD j [])) ∧ LP FF [(2,1),(1,0),(3,0),(12,0),(16,0),(17,0),(18,0)] [(2,1),(1,0),(12,0)] b237_1 [.ownp [(AV.i .i64 0),(AV.i .i64 0),(AV.i .i64 0),(AV.i .i64 0)],.tp (eM (f,ts)) 0,(AV.i .i64 ((r : Int))),(AV.i .i64 ((r : Int))),.l 1 (ts.map eTr),(AV.i .i64 ((ts.length : Int))),(AV.i .i64 ((i : Int)))] = some (.exit 2,[.ownp [(AV.i .i64 0),(AV.i .i64 0),(AV.i .i64 0),(AV.i .i64 0)],.tp (eM (f,ts)) 0,(AV.i .i64 ((r : Int)))])) := by
 intro d
 induction d with
 | zero =>
  intro i hi
  refine .inr ⟨fun j h1 h2 => by omega,?_⟩
  have c1 : ¬ (i : Int) < (ts.length : Int) := by omega
  simp only [eM]
  rw [LP_go FF b237_1.eq_1]
  simp only [RB,RL,un,St.none,za,zd,ze,zf,zb,zj,zk,zm,zn,zc,zg,zh,zi,↓reduceIte,reduceCtorEq,pack,pid,parN,lid,chkK,apartV,Heap.none,c1,eTr_rules,eTr_row]
 | succ d ih =>
  intro i hi
  have hlt : i < ts.length := by omega
  have hmem := getD_mem' ([] : List RNd) hlt
  obtain ⟨t1,t2,t3⟩ := ht _ hmem
  have c1 : (i : Int) < (ts.length : Int) := by omega
  have e2 : IntKind.i64.wrap ((i : Int) + 1) = ((i + 1 : Nat) : Int) := w64succ (by omega)
  have hcon : ∃ a e : Int,((okR f r (ts.getD i []) ∧ e = 0) ∨ (¬ okR f r (ts.getD i []) ∧ e ≠ 0)) ∧
    (r = 0 → R FF 249 [.l 14 ((ts.getD i []).map eNd),(AV.i .i64 f)] = some (.tup [(AV.i .i64 a),(AV.i .i64 e)])) ∧ (r = 1 → R FF 250 [.l 14 ((ts.getD i []).map eNd)] = some (.tup [(AV.i .i64 a),(AV.i .i64 e)])) ∧
    (r = 2 → R FF 251 [.l 14 ((ts.getD i []).map eNd)] = some (.tup [(AV.i .i64 a),(AV.i .i64 e)])) ∧ (r = 3 → R FF 252 [.l 14 ((ts.getD i []).map eNd)] = some (.tup [(AV.i .i64 a),(AV.i .i64 e)])) := by
   rcases (show r = 0 ∨ r = 1 ∨ r = 2 ∨ r = 3 by omega) with rfl | rfl | rfl | rfl
   ·obtain ⟨a,h⟩ := ranges_c (f := f) t2
    refine ⟨_,_,?_,fun _ => h,fun h => (by omega),fun h => (by omega),fun h => (by omega)⟩
    show (((ts.getD i []).any (bdR (ts.getD i []).length f) = false) ∧ _) ∨ (¬ ((ts.getD i []).any (bdR (ts.getD i []).length f) = false) ∧ _)
    cases (ts.getD i []).any (bdR (ts.getD i []).length f)
    ·exact .inl ⟨rfl,rfl⟩
    ·exact .inr ⟨by decide,by decide⟩
   ·obtain ⟨a,e,h,h2⟩ := shape_c t1 t2 (hr.resolve_left (by omega) _ hmem)
    refine ⟨a,e,?_,fun h => (by omega),fun _ => h,fun h => (by omega),fun h => (by omega)⟩
    rcases h2 with ⟨h3,_,h4⟩ | ⟨h3,h4⟩
    ·exact .inl ⟨h3,h4⟩
    ·exact .inr ⟨h3,by omega⟩
   ·obtain ⟨a,h⟩ := covers_c hk t2 t3
    refine ⟨_,_,?_,fun h => (by omega),fun h => (by omega),fun _ => h,fun h => (by omega)⟩
    show (((ts.getD i []).any bdC = false) ∧ _) ∨ (¬ ((ts.getD i []).any bdC = false) ∧ _)
    cases (ts.getD i []).any bdC
    ·exact .inl ⟨rfl,rfl⟩
    ·exact .inr ⟨by decide,by decide⟩
   ·obtain ⟨a,h⟩ := vsums_c hk h1k t2 t3 (hr.resolve_left (by omega) _ hmem)
    refine ⟨_,_,?_,fun h => (by omega),fun h => (by omega),fun h => (by omega),fun _ => h⟩
    show (((ts.getD i []).any (bdS (ts.getD i [])) = false) ∧ _) ∨ (¬ ((ts.getD i []).any (bdS (ts.getD i [])) = false) ∧ _)
    cases (ts.getD i []).any (bdS (ts.getD i []))
    ·exact .inl ⟨rfl,rfl⟩
    ·exact .inr ⟨by decide,by decide⟩
  obtain ⟨a,e,he,k0,k1,k2,k3⟩ := hcon
  rcases he with ⟨h1,rfl⟩ | ⟨h1,h2⟩
  ·have step : LP FF [(2,1),(1,0),(3,0),(12,0),(16,0),(17,0),(18,0)] [(2,1),(1,0),(12,0)] b237_1 [.ownp [(AV.i .i64 0),(AV.i .i64 0),(AV.i .i64 0),(AV.i .i64 0)],.tp (eM (f,ts)) 0,(AV.i .i64 ((r : Int))),(AV.i .i64 ((r : Int))),.l 1 (ts.map eTr),(AV.i .i64 ((ts.length : Int))),(AV.i .i64 ((i : Int)))] = LP FF [(2,1),(1,0),(3,0),(12,0),(16,0),(17,0),(18,0)] [(2,1),(1,0),(12,0)] b237_1 [.ownp [(AV.i .i64 0),(AV.i .i64 0),(AV.i .i64 0),(AV.i .i64 0)],.tp (eM (f,ts)) 0,(AV.i .i64 ((r : Int))),(AV.i .i64 ((r : Int))),.l 1 (ts.map eTr),(AV.i .i64 ((ts.length : Int))),(AV.i .i64 (((i + 1 : Nat) : Int)))] := by
    simp only [eM]
    rcases (show r = 0 ∨ r = 1 ∨ r = 2 ∨ r = 3 by omega) with rfl | rfl | rfl | rfl
    ·have k0 := k0 rfl
     rw [zI]
     rw [LP_go FF b237_1.eq_1]
     simp only [RB,RL,un,St.none,za,zd,ze,zf,zb,zj,zk,zm,zn,zc,zg,zh,zi,↓reduceIte,reduceCtorEq,pack,pid,parN,lid,chkK,apartV,Heap.none,c1,e2,eTr_rules,eTr_row,zq,k0]
    ·have k1 := k1 rfl
     rw [show ((1 : Nat) : Int) = 1 from rfl]
     rw [LP_go FF b237_1.eq_1]
     simp only [RB,RL,un,St.none,za,zd,ze,zf,zb,zj,zk,zm,zn,zc,zg,zh,zi,↓reduceIte,reduceCtorEq,pack,pid,parN,lid,chkK,apartV,Heap.none,c1,e2,eTr_rules,eTr_row,zq,k1]
    ·have k2 := k2 rfl
     rw [show ((2 : Nat) : Int) = 2 from rfl]
     rw [LP_go FF b237_1.eq_1]
     simp only [RB,RL,un,St.none,za,zd,ze,zf,zb,zj,zk,zm,zn,zc,zg,zh,zi,↓reduceIte,reduceCtorEq,pack,pid,parN,lid,chkK,apartV,Heap.none,c1,e2,eTr_rules,eTr_row,zq,k2]
    ·have k3 := k3 rfl
     rw [show ((3 : Nat) : Int) = 3 from rfl]
     rw [LP_go FF b237_1.eq_1]
     simp only [RB,RL,un,St.none,za,zd,ze,zf,zb,zj,zk,zm,zn,zc,zg,zh,zi,↓reduceIte,reduceCtorEq,pack,pid,parN,lid,chkK,apartV,Heap.none,c1,e2,eTr_rules,eTr_row,zq,k3]
   rw [step]
   rcases ih (i + 1) (by omega) with h9 | ⟨h8,h9⟩
   ·exact .inl h9
   ·exact .inr ⟨fun j a b => by
     rcases Nat.eq_or_lt_of_le a with rfl | a
     ·exact h1
     ·exact h8 j a b,h9⟩
  ·have fl : R FF 253 [(AV.i .i64 e),(AV.i .i64 ((i : Int))),(AV.i .i64 a)] = some (.agg [(AV.i .i64 e),(AV.i .i64 0),(AV.i .i64 ((i : Int))),(AV.i .i64 a)]) := by
    rw [R_go FF F253 c253.eq_1]
    simp only [RB,RL,un,St.none,za,zd,ze,zf,zb,zj,zk,zm,zn,zc,zg,zh,zi,↓reduceIte,reduceCtorEq,pack,pid,parN,lid,chkK,apartV,Heap.none,n64]
   refine .inl ⟨e,0,i,a,h2,⟨_,hmem,h1⟩,?_⟩
   simp only [eM]
   rcases (show r = 0 ∨ r = 1 ∨ r = 2 ∨ r = 3 by omega) with rfl | rfl | rfl | rfl
   ·have k0 := k0 rfl
    rw [zI]
    rw [LP_go FF b237_1.eq_1]
    simp only [RB,RL,un,St.none,za,zd,ze,zf,zb,zj,zk,zm,zn,zc,zg,zh,zi,↓reduceIte,reduceCtorEq,pack,pid,parN,lid,chkK,apartV,Heap.none,c1,e2,eTr_rules,eTr_row,zq,k0,h2,fl]
   ·have k1 := k1 rfl
    rw [show ((1 : Nat) : Int) = 1 from rfl]
    rw [LP_go FF b237_1.eq_1]
    simp only [RB,RL,un,St.none,za,zd,ze,zf,zb,zj,zk,zm,zn,zc,zg,zh,zi,↓reduceIte,reduceCtorEq,pack,pid,parN,lid,chkK,apartV,Heap.none,c1,e2,eTr_rules,eTr_row,zq,k1,h2,fl]
   ·have k2 := k2 rfl
    rw [show ((2 : Nat) : Int) = 2 from rfl]
    rw [LP_go FF b237_1.eq_1]
    simp only [RB,RL,un,St.none,za,zd,ze,zf,zb,zj,zk,zm,zn,zc,zg,zh,zi,↓reduceIte,reduceCtorEq,pack,pid,parN,lid,chkK,apartV,Heap.none,c1,e2,eTr_rules,eTr_row,zq,k2,h2,fl]
   ·have k3 := k3 rfl
    rw [show ((3 : Nat) : Int) = 3 from rfl]
    rw [LP_go FF b237_1.eq_1]
    simp only [RB,RL,un,St.none,za,zd,ze,zf,zb,zj,zk,zm,zn,zc,zg,zh,zi,↓reduceIte,reduceCtorEq,pack,pid,parN,lid,chkK,apartV,Heap.none,c1,e2,eTr_rules,eTr_row,zq,k3,h2,fl]
theorem check_l0 {f : Int} {ts : List (List RNd)} {k : Nat} (hk : k ≤ 10000000000) (h1k : 1 ≤ k) (hts : ts.length ≤ 100000) (ht : ∀ t ∈ ts,1 ≤ t.length ∧ t.length ≤ 100000 ∧ SmT t k) : ∀ (d r : Nat),r + d = 4 → (∀ s,s < r → ∀ t ∈ ts,okR f s t) →
  (∃ e a b c : Int,e ≠ 0 ∧ (∃ t ∈ ts,¬ VT t f) ∧ LP FF [(2,1),(1,0),(12,0)] [(2,1)] b237_0 [.ownp [(AV.i .i64 0),(AV.i .i64 0),(AV.i .i64 0),(AV.i .i64 0)],.tp (eM (f,ts)) 0,(AV.i .i64 ((r : Int)))] = some (.ret,[.ownp [(AV.i .i64 e),(AV.i .i64 a),(AV.i .i64 b),(AV.i .i64 c)]])) ∨
  ((∀ t ∈ ts,VT t f) ∧ LP FF [(2,1),(1,0),(12,0)] [(2,1)] b237_0 [.ownp [(AV.i .i64 0),(AV.i .i64 0),(AV.i .i64 0),(AV.i .i64 0)],.tp (eM (f,ts)) 0,(AV.i .i64 ((r : Int)))] = some (.exit 0,[.ownp [(AV.i .i64 0),(AV.i .i64 0),(AV.i .i64 0),(AV.i .i64 0)]])) := by
 intro d
 induction d with
 | zero =>
  intro r hr hs
  have hr : r = 4 := by omega
  subst hr
  refine .inr ⟨fun t h => ⟨hs 0 (by omega) t h,hs 1 (by omega) t h,hs 2 (by omega) t h,hs 3 (by omega) t h⟩,?_⟩
  simp only [eM]
  rw [show ((4 : Nat) : Int) = 4 from rfl]
  rw [LP_go FF b237_0.eq_1]
  simp only [RB,RL,un,St.none,za,zd,ze,zf,zb,zj,zk,zm,zn,zc,zg,zh,zi,↓reduceIte,reduceCtorEq,pack,pid,parN,lid,chkK,apartV,Heap.none,eTr_rules,eTr_row]
 | succ d ih =>
  intro r hr hs
  have c1 : (r : Int) < 4 := by omega
  have e2 : IntKind.i64.wrap ((r : Int) + 1) = ((r + 1 : Nat) : Int) := w64succ (by omega)
  have l1 := check_l1 (f := f) (r := r) hk h1k hts ht (by omega) (by
   rcases Nat.eq_zero_or_pos r with h | h
   ·exact .inl h
   ·exact .inr (hs 0 h)) ts.length 0 (by omega)
  rw [zI] at l1
  rcases l1 with ⟨e,a,b,c,h1,⟨t,h2,h3⟩,l1⟩ | ⟨h1,l1⟩
  ·refine .inl ⟨e,a,b,c,h1,⟨t,h2,fun v => h3 ?_⟩,?_⟩
   ·rcases (show r = 0 ∨ r = 1 ∨ r = 2 ∨ r = 3 by omega) with rfl | rfl | rfl | rfl
    ·exact v.rg
    ·exact v.sh
    ·exact v.cv
    ·exact v.sm
   ·simp only [eM] at l1 ⊢
    rw [LP_go FF b237_0.eq_1]
    simp only [RB,RL,un,St.none,za,zd,ze,zf,zb,zj,zk,zm,zn,zc,zg,zh,zi,↓reduceIte,reduceCtorEq,pack,pid,parN,lid,chkK,apartV,Heap.none,eTr_rules,eTr_row,c1,l1]
  ·have h9 := ih (r + 1) (by omega) (fun s hs' t h => by
    rcases Nat.lt_or_eq_of_le (show s ≤ r by omega) with h' | rfl
    ·exact hs s h' t h
    ·obtain ⟨i,hi,rfl⟩ := List.getElem_of_mem h
     have := h1 i (Nat.zero_le _) hi
     rwa [zo,zr hi,Option.getD_some] at this)
   have step : LP FF [(2,1),(1,0),(12,0)] [(2,1)] b237_0 [.ownp [(AV.i .i64 0),(AV.i .i64 0),(AV.i .i64 0),(AV.i .i64 0)],.tp (eM (f,ts)) 0,(AV.i .i64 ((r : Int)))] = LP FF [(2,1),(1,0),(12,0)] [(2,1)] b237_0 [.ownp [(AV.i .i64 0),(AV.i .i64 0),(AV.i .i64 0),(AV.i .i64 0)],.tp (eM (f,ts)) 0,(AV.i .i64 (((r + 1 : Nat) : Int)))] := by
    simp only [eM] at l1 ⊢
    rw [LP_go FF b237_0.eq_1]
    simp only [RB,RL,un,St.none,za,zd,ze,zf,zb,zj,zk,zm,zn,zc,zg,zh,zi,↓reduceIte,reduceCtorEq,pack,pid,parN,lid,chkK,apartV,Heap.none,eTr_rules,eTr_row,c1,l1,e2]
   rw [step]
   exact h9
structure VM (m : RM) : Prop where
 fit : fitB m = true
 all : ∀ t ∈ m.2,VT t m.1
theorem ok_c {m : RM} {k : Nat} (hk : k ≤ 10000000000) (h1k : 1 ≤ k) (hts : m.2.length ≤ 100000) (ht : ∀ t ∈ m.2,t.length ≤ 100000 ∧ SmT t k) : ∃ b : Bool,R FF 211 [.agg (eM m)] = some (.b b) ∧ (b = true ↔ VM m) := by
 have f1 := fits_c hts (fun t h => (ht t h).1)
 obtain ⟨f,ts⟩ := m
 cases hf : fitB (f,ts) with
 | false =>
  refine ⟨false,?_,⟨fun h => (by cases h),fun h => by have := h.fit; rw [hf] at this; cases this⟩⟩
  rw [hf] at f1
  have ck : R FF 237 [.agg (eM (f,ts))] = some (.agg [(AV.i .i64 1),(AV.i .i64 0),(AV.i .i64 0),(AV.i .i64 0)]) := by
   simp only [eM] at f1 ⊢
   rw [R_go FF F237 c237.eq_1]
   simp only [RB,RL,un,St.none,za,zd,ze,zf,zb,zj,zk,zm,zn,zc,zg,zh,zi,↓reduceIte,reduceCtorEq,pack,pid,parN,lid,chkK,apartV,Heap.none,f1,n64,eTr_rules,eTr_row]
  simp only [eM] at ck ⊢
  rw [R_go FF F211 c211.eq_1]
  simp only [RB,RL,un,St.none,za,zd,ze,zf,zb,zj,zk,zm,zn,zc,zg,zh,zi,↓reduceIte,reduceCtorEq,pack,pid,parN,lid,chkK,apartV,Heap.none,ck,n64,eTr_rules,eTr_row]
 | true =>
  rw [hf] at f1
  have hb : fitB (f,ts) = !(decide (f < 0) || decide (64 < f) || decide (64 < (ts.length : Int)) || ts.any bdT) := rfl
  rw [hf] at hb
  have hT : ts.any bdT = false := by
   cases h : ts.any bdT with
   | false => rfl
   | true => rw [h,Bool.or_true] at hb; cases hb
  have ht2 : ∀ t ∈ ts,1 ≤ t.length ∧ t.length ≤ 100000 ∧ SmT t k := fun t h => by
   have h2 := ht t h
   rw [List.any_eq_false] at hT
   have h3 := hT t h
   unfold bdT at h3
   simp only [Bool.or_eq_true,decide_eq_true_eq,not_or] at h3
   exact ⟨by omega,h2.1,h2.2⟩
  have l0 := check_l0 (f := f) hk h1k hts ht2 4 0 (by omega) (fun s h => absurd h (Nat.not_lt_zero _))
  rw [zI] at l0
  rcases l0 with ⟨e,a,b,c,h1,⟨t,h2,h3⟩,l0⟩ | ⟨h1,l0⟩
  ·refine ⟨false,?_,⟨fun h => (by cases h),fun h => (h3 (h.all t h2)).elim⟩⟩
   have ck : R FF 237 [.agg (eM (f,ts))] = some (.agg [(AV.i .i64 e),(AV.i .i64 a),(AV.i .i64 b),(AV.i .i64 c)]) := by
    simp only [eM] at f1 l0 ⊢
    rw [R_go FF F237 c237.eq_1]
    simp only [RB,RL,un,St.none,za,zd,ze,zf,zb,zj,zk,zm,zn,zc,zg,zh,zi,↓reduceIte,reduceCtorEq,pack,pid,parN,lid,chkK,apartV,Heap.none,f1,l0,n64,eTr_rules,eTr_row]
   simp only [eM] at ck ⊢
   rw [R_go FF F211 c211.eq_1]
   simp only [RB,RL,un,St.none,za,zd,ze,zf,zb,zj,zk,zm,zn,zc,zg,zh,zi,↓reduceIte,reduceCtorEq,pack,pid,parN,lid,chkK,apartV,Heap.none,ck,n64,eTr_rules,eTr_row,h1]
  ·refine ⟨true,?_,⟨fun _ => ⟨hf,h1⟩,fun _ => rfl⟩⟩
   have ck : R FF 237 [.agg (eM (f,ts))] = some (.agg [(AV.i .i64 0),(AV.i .i64 0),(AV.i .i64 0),(AV.i .i64 0)]) := by
    simp only [eM] at f1 l0 ⊢
    rw [R_go FF F237 c237.eq_1]
    simp only [RB,RL,un,St.none,za,zd,ze,zf,zb,zj,zk,zm,zn,zc,zg,zh,zi,↓reduceIte,reduceCtorEq,pack,pid,parN,lid,chkK,apartV,Heap.none,f1,l0,n64,eTr_rules,eTr_row]
   simp only [eM] at ck ⊢
   rw [R_go FF F211 c211.eq_1]
   simp only [RB,RL,un,St.none,za,zd,ze,zf,zb,zj,zk,zm,zn,zc,zg,zh,zi,↓reduceIte,reduceCtorEq,pack,pid,parN,lid,chkK,apartV,Heap.none,ck,n64,eTr_rules,eTr_row]
theorem cnt_app (j : Nat) (l m : List RNd) : cnt j (l ++ m) = cnt j l + cnt j m := by
 induction l with
 | nil => show cnt j m = 0 + cnt j m; omega
 | cons n l ih => show cntN j n + cnt j (l ++ m) = cntN j n + cnt j l + cnt j m; omega
inductive Sub (T : List RNd) (f : Int) : Nat → Nat → Rat → Prop where
 | leaf {p : Nat} (hp : p < T.length) (hl : (T.getD p dNd).leaf = true) (hc : 0 < vQ (T.getD p dNd).cov) : Sub T f p (p + 1) (vQ (T.getD p dNd).cov)
 | node {p q r : Nat} {a b : Rat} (hl : (T.getD p dNd).leaf = false) (hf : 0 ≤ (T.getD p dNd).ft ∧ (T.getD p dNd).ft < f) (h1 : (T.getD p dNd).lft = ((p + 1 : Nat) : Int)) (h2 : (T.getD p dNd).rgt = (q : Int))
  (hc : vQ (T.getD p dNd).cov = a + b) (ha : Sub T f (p + 1) q a) (hb : Sub T f q r b) : Sub T f p r (a + b)
def GdN (T : List RNd) (f : Int) (i : Nat) : Prop := 0 < vQ (T.getD i dNd).cov ∧ ((T.getD i dNd).leaf = true ∨ (0 ≤ (T.getD i dNd).ft ∧ (T.getD i dNd).ft < f ∧ 1 ≤ (T.getD i dNd).lft ∧ (T.getD i dNd).lft < (T.length : Int) ∧ 1 ≤ (T.getD i dNd).rgt ∧ (T.getD i dNd).rgt < (T.length : Int) ∧
 vQ (T.getD i dNd).cov = vQ (T.getD (T.getD i dNd).lft.toNat dNd).cov + vQ (T.getD (T.getD i dNd).rgt.toNat dNd).cov))
theorem Sub.good {T : List RNd} {f : Int} {p q : Nat} {c : Rat} (h : Sub T f p q c) : vQ (T.getD p dNd).cov = c ∧ 0 < c ∧ p < q ∧ q ≤ T.length ∧ ∀ i,p ≤ i → i < q → GdN T f i := by
 induction h with
 | leaf hp hl hc => exact ⟨rfl,hc,by omega,by omega,fun i h1 h2 => by rw [show i = _ from Nat.le_antisymm (by omega) h1]; exact ⟨hc,.inl hl⟩⟩
 | @node p q r a b hl hf h1 h2 hc ha hb iha ihb =>
  obtain ⟨a1,a2,a3,a4,a5⟩ := iha
  obtain ⟨b1,b2,b3,b4,b5⟩ := ihb
  have hpos : 0 < a + b := by grind
  refine ⟨hc,hpos,by omega,b4,fun i i1 i2 => ?_⟩
  rcases jl i q with h | h
  ·rcases Nat.eq_or_lt_of_le i1 with rfl | h'
   ·refine ⟨by rw [hc]; exact hpos,.inr ⟨hf.1,hf.2,by omega,by omega,by omega,by omega,?_⟩⟩
    rw [h1,h2,hc,Int.toNat_natCast,Int.toNat_natCast,a1,b1]
   ·exact a5 i (by omega) h
  ·exact b5 i h i2
theorem Sub.dfs {T : List RNd} {f : Int} {p q : Nat} {c : Rat} (h : Sub T f p q c) : ∃ ord : List Nat,(∀ j,p ≤ j → j < q → j ∈ ord) ∧ ∀ k S,dfs T (k + (q - p)) (p :: S) = (dfs T k S).map (ord ++ ·) := by
 induction h with
 | @leaf p hp hl hc =>
  refine ⟨[p],fun j h1 h2 => by rw [show j = p by omega]; exact List.mem_singleton.2 rfl,fun k S => ?_⟩
  rw [show k + (p + 1 - p) = k + 1 by omega,Go.Pe.dfs,show kids (T.getD p dNd) = [] by unfold kids; rw [hl]; rfl]
  rfl
 | @node p q r a b hl hf h1 h2 hc ha hb iha ihb =>
  obtain ⟨oa,a1,a2⟩ := iha
  obtain ⟨ob,b1,b2⟩ := ihb
  have ga := ha.good
  have gb := hb.good
  refine ⟨p :: (ob ++ oa),fun j j1 j2 => ?_,fun k S => ?_⟩
  ·rcases Nat.eq_or_lt_of_le j1 with rfl | j1
   ·exact zG ..
   ·refine zH _ (List.mem_append.2 ?_)
    rcases jl j q with h | h
    ·exact .inr (a1 j j1 h)
    ·exact .inl (b1 j h j2)
  ·have hk : kids (T.getD p dNd) = [q,p + 1] := by
    unfold kids
    rw [hl,h1,h2,Int.toNat_natCast,Int.toNat_natCast]; rfl
   rw [show k + (r - p) = (k + (q - (p + 1)) + (r - q)) + 1 by omega,Go.Pe.dfs,hk]
   show (Go.Pe.dfs T (k + (q - (p + 1)) + (r - q)) (q :: (p + 1) :: S)).map _ = _
   rw [b2,a2,Option.map_map,Option.map_map]
   congr 1
   funext l
   simp
theorem treeP_cnt {V : List RQt} {rows : List (List RC)} {lst : Int} {n : Nat} (hlst : 1 ≤ lst) : ∀ (d : Nat) (l : List Nat) (p j : Nat),1 ≤ l.length → cnt j (treeP V rows lst n d l p) = if p < j ∧ j < p + (treeP V rows lst n d l p).length then 1 else 0 := by
 have hleaf : ∀ (l : List Nat) (p j : Nat),cnt j [lfN V l] = if p < j ∧ j < p + [lfN V l].length then 1 else 0 := by
  intro l p j
  rw [if_neg (by rw [jg]; omega)]
  rfl
 have hpos : ∀ (d : Nat) (l : List Nat) (p : Nat),1 ≤ (treeP V rows lst n d l p).length := by
  intro d l p
  cases d with
  | zero => exact zz _
  | succ d =>
   unfold treeP
   split
   ·exact zz _
   ·split
    ·exact zz _
    ·rw [zF]; omega
 intro d
 induction d with
 | zero => intro l p j _; exact hleaf l p j
 | succ d ih =>
  intro l p j hl
  unfold treeP
  split
  ·exact hleaf l p j
  ·rename_i b hb
   split
   ·exact hleaf l p j
   ·obtain ⟨h1,h2,h3⟩ := part_ok hlst (bestP_mem hb).2.2.1
    have i1 := ih (lfL rows l b.1 b.2.1 b.2.2.1) (p + 1) j h1
    have i2 := ih (rgL rows l b.1 b.2.1 b.2.2.1) (p + 1 + (treeP V rows lst n d (lfL rows l b.1 b.2.1 b.2.2.1) (p + 1)).length) j h2
    have q1 := hpos d (lfL rows l b.1 b.2.1 b.2.2.1) (p + 1)
    have q2 := hpos d (rgL rows l b.1 b.2.1 b.2.2.1) (p + 1 + (treeP V rows lst n d (lfL rows l b.1 b.2.1 b.2.2.1) (p + 1)).length)
    rw [zF,zx]
    show cntN j (inN l b.1 (rQ b.2.1) b.2.2.1 (p + 1) (p + 1 + (treeP V rows lst n d (lfL rows l b.1 b.2.1 b.2.2.1) (p + 1)).length)) + cnt j (_ ++ _) = _
    rw [cnt_app,i1,i2]
    have hN : cntN j (inN l b.1 (rQ b.2.1) b.2.2.1 (p + 1) (p + 1 + (treeP V rows lst n d (lfL rows l b.1 b.2.1 b.2.2.1) (p + 1)).length)) = (if p + 1 = j then 1 else 0) + (if p + 1 + (treeP V rows lst n d (lfL rows l b.1 b.2.1 b.2.2.1) (p + 1)).length = j then 1 else 0) := by
     unfold cntN inN
     simp only [ji,if_false,Int.toNat_natCast]
    rw [hN]
    generalize (treeP V rows lst n d (lfL rows l b.1 b.2.1 b.2.2.1) (p + 1)).length = x at *
    generalize (treeP V rows lst n d (rgL rows l b.1 b.2.1 b.2.2.1) (p + 1 + x)).length = y at *
    split <;> split <;> split <;> split <;> split <;> omega
theorem getD_mid (pre post : List RNd) (x : RNd) (m : List RNd) : (pre ++ x :: m ++ post).getD pre.length dNd = x := by
 rw [List.append_assoc,zo,jc (zz _),Nat.sub_self]; rfl
theorem treeP_pos {V : List RQt} {rows : List (List RC)} {lst : Int} {n : Nat} (d : Nat) (l : List Nat) (p : Nat) : 1 ≤ (treeP V rows lst n d l p).length := by
 cases d with
 | zero => exact zz _
 | succ d =>
  unfold treeP
  split
  ·exact zz _
  ·split
   ·exact zz _
   ·rw [zF]; omega
theorem treeP_sub {V : List RQt} {rows : List (List RC)} {lst : Int} {n : Nat} (hlst : 1 ≤ lst) : ∀ (d : Nat) (l : List Nat) (pre post : List RNd),1 ≤ l.length →
  Sub (pre ++ treeP V rows lst n d l pre.length ++ post) (n : Int) pre.length (pre.length + (treeP V rows lst n d l pre.length).length) (((l.length : Nat) : Int) : Rat) := by
 have hleaf : ∀ (l : List Nat) (pre post : List RNd),1 ≤ l.length → Sub (pre ++ [lfN V l] ++ post) (n : Int) pre.length (pre.length + 1) (((l.length : Nat) : Int) : Rat) := by
  intro l pre post hl
  have h1 := getD_mid pre post (lfN V l) []
  have hv : vQ (lfN V l).cov = (((l.length : Nat) : Int) : Rat) := vQ_rQ _
  have h2 : vQ ((pre ++ [lfN V l] ++ post).getD pre.length dNd).cov = (((l.length : Nat) : Int) : Rat) := by rw [h1,hv]
  have hpos : (0 : Rat) < (((l.length : Nat) : Int) : Rat) := by
   have := Rat.intCast_lt_intCast.2 (show (0 : Int) < ((l.length : Nat) : Int) by omega)
   exact this
  have h3 := Sub.leaf (T := pre ++ [lfN V l] ++ post) (f := (n : Int)) (p := pre.length) (by rw [zx,zx,jg]; omega) (by rw [h1]; rfl) (by rw [h2]; exact hpos)
  rwa [h2] at h3
 intro d
 induction d with
 | zero => intro l pre post hl; exact hleaf l pre post hl
 | succ d ih =>
  intro l pre post hl
  cases hb : bestP V rows l lst n with
  | none => rw [show treeP V rows lst n (d + 1) l pre.length = [lfN V l] by rw [treeP,hb]]; exact hleaf l pre post hl
  | some b =>
   obtain ⟨bf,bc,bm,bl⟩ := b
   have kk : bf < n ∧ bc ∈ ctV rows bf l ∧ few2 rows l lst bf bc bm = false ∧ bl = splV V rows l bf bc bm := bestP_mem hb
   obtain ⟨k1,k2,k3,k4⟩ := kk
   by_cases hle : lsV (vsL V l) ≤ bl
   ·rw [show treeP V rows lst n (d + 1) l pre.length = [lfN V l] by rw [treeP,hb]; exact if_pos hle]; exact hleaf l pre post hl
   ·obtain ⟨h1,h2,h3⟩ := part_ok hlst k3
    have e1 : treeP V rows lst n (d + 1) l pre.length = inN l bf (rQ bc) bm (pre.length + 1) (pre.length + 1 + (treeP V rows lst n d (lfL rows l bf bc bm) (pre.length + 1)).length) :: (treeP V rows lst n d (lfL rows l bf bc bm) (pre.length + 1) ++ treeP V rows lst n d (rgL rows l bf bc bm) (pre.length + 1 + (treeP V rows lst n d (lfL rows l bf bc bm) (pre.length + 1)).length)) := by
     rw [treeP,hb]; exact if_neg hle
    have iA := ih (lfL rows l bf bc bm) (pre ++ [inN l bf (rQ bc) bm (pre.length + 1) (pre.length + 1 + (treeP V rows lst n d (lfL rows l bf bc bm) (pre.length + 1)).length)]) (treeP V rows lst n d (rgL rows l bf bc bm) (pre.length + 1 + (treeP V rows lst n d (lfL rows l bf bc bm) (pre.length + 1)).length) ++ post) h1
    have iB := ih (rgL rows l bf bc bm) (pre ++ inN l bf (rQ bc) bm (pre.length + 1) (pre.length + 1 + (treeP V rows lst n d (lfL rows l bf bc bm) (pre.length + 1)).length) :: treeP V rows lst n d (lfL rows l bf bc bm) (pre.length + 1)) post h2
    rw [e1]
    rw [show (pre ++ [inN l bf (rQ bc) bm (pre.length + 1) (pre.length + 1 + (treeP V rows lst n d (lfL rows l bf bc bm) (pre.length + 1)).length)]).length = pre.length + 1 by rw [zx,jg]] at iA
    rw [show (pre ++ inN l bf (rQ bc) bm (pre.length + 1) (pre.length + 1 + (treeP V rows lst n d (lfL rows l bf bc bm) (pre.length + 1)).length) :: treeP V rows lst n d (lfL rows l bf bc bm) (pre.length + 1)).length = pre.length + 1 + (treeP V rows lst n d (lfL rows l bf bc bm) (pre.length + 1)).length by rw [zx,zF]; omega] at iB
    generalize treeP V rows lst n d (rgL rows l bf bc bm) (pre.length + 1 + (treeP V rows lst n d (lfL rows l bf bc bm) (pre.length + 1)).length) = B at *
    generalize treeP V rows lst n d (lfL rows l bf bc bm) (pre.length + 1) = A at *
    have hx := getD_mid pre post (inN l bf (rQ bc) bm (pre.length + 1) (pre.length + 1 + A.length)) (A ++ B)
    have eA : pre ++ [inN l bf (rQ bc) bm (pre.length + 1) (pre.length + 1 + A.length)] ++ A ++ (B ++ post) = pre ++ inN l bf (rQ bc) bm (pre.length + 1) (pre.length + 1 + A.length) :: (A ++ B) ++ post := by simp
    have eB : pre ++ inN l bf (rQ bc) bm (pre.length + 1) (pre.length + 1 + A.length) :: A ++ B ++ post = pre ++ inN l bf (rQ bc) bm (pre.length + 1) (pre.length + 1 + A.length) :: (A ++ B) ++ post := by simp
    rw [eA] at iA
    rw [eB] at iB
    have hsum : (((l.length : Nat) : Int) : Rat) = ((((lfL rows l bf bc bm).length : Nat) : Int) : Rat) + ((((rgL rows l bf bc bm).length : Nat) : Int) : Rat) := by
     rw [← Rat.intCast_add,← Int.natCast_add,h3]
    rw [zF,zx,show pre.length + (A.length + B.length + 1) = pre.length + 1 + A.length + B.length by omega,hsum]
    refine Sub.node (q := pre.length + 1 + A.length) (by rw [hx]; rfl) (by rw [hx]; exact ⟨show (0 : Int) ≤ ((bf : Nat) : Int) by omega,show ((bf : Nat) : Int) < n by omega⟩) (by rw [hx]; rfl) (by rw [hx]; rfl) ?_ iA iB
    rw [hx,← hsum]; exact vQ_rQ _
theorem SmQ_dQ (k : Nat) : SmQ dQ k := ⟨⟨fun _ h => (zY h).elim,Nat.zero_le _⟩,fun _ h => (zY h).elim,Nat.zero_le _⟩
theorem vm_of {T : List RNd} {n : Nat} {c : Rat} (hn : n ≤ 64) (hT : T.length ≤ 200) (hs : Sub T (n : Int) 0 T.length c) (hc : ∀ j,0 < j → j < T.length → cnt j T = 1) (hk : ∀ i,i < T.length → (T.getD i dNd).leaf = true → (T.getD i dNd).ft = 0 ∧ (T.getD i dNd).lft = 0 ∧ (T.getD i dNd).rgt = 0) : VM ((n : Int),[T]) := by
 obtain ⟨g1,g2,g3,g4,g5⟩ := hs.good
 have hget : ∀ x ∈ T,∃ i,i < T.length ∧ T.getD i dNd = x := by
  intro x hx
  obtain ⟨i,hi,rfl⟩ := List.getElem_of_mem hx
  exact ⟨i,hi,by rw [zo,zr hi]; rfl⟩
 have hrg : T.any (bdR T.length (n : Int)) = false := by
  rw [List.any_eq_false]
  intro x hx
  obtain ⟨i,hi,rfl⟩ := hget x hx
  rcases (g5 i (Nat.zero_le _) hi).2 with h | ⟨h1,h2,h3,h4,h5,h6,_⟩
  ·unfold bdR; rw [h,Bool.not_true,Bool.false_and]; decide
  ·unfold bdR
   simp only [zu,Bool.or_eq_true,decide_eq_true_eq]
   omega
 have hpar : Par T := ⟨kids_rng hrg,hc⟩
 refine ⟨?_,fun t ht => ?_⟩
 ·have hb : fitB ((n : Int),[T]) = !(decide ((n : Int) < 0) || decide (64 < (n : Int)) || decide (64 < (([T] : List (List RNd)).length : Int)) || [T].any bdT) := rfl
  rw [hb,decide_eq_false (by omega),decide_eq_false (by omega),decide_eq_false (by rw [jg]; omega)]
  have hbd : bdT T = false := by
   unfold bdT
   rw [decide_eq_false (by omega),decide_eq_false (by omega),Bool.false_or,Bool.false_or,List.any_eq_false]
   intro x hx
   obtain ⟨i,hi,rfl⟩ := hget x hx
   unfold bdF
   simp only [Bool.or_eq_true,decide_eq_true_eq]
   rcases (g5 i (Nat.zero_le _) hi).2 with h | ⟨h1,h2,h3,h4,h5,h6,_⟩
   ·have := hk i hi h; omega
   ·omega
  rw [List.any_cons,hbd]; rfl
 ·rw [List.mem_singleton.1 ht]
  refine ⟨hrg,⟨hpar,?_⟩,?_,?_⟩
  ·obtain ⟨ord,o1,o2⟩ := hs.dfs
   have h1 := o2 0 []
   rw [zX,Nat.sub_zero] at h1
   have e0 : dfs T 0 [] = some [] := rfl
   rw [e0] at h1
   exact ⟨ord ++ [],h1,fun j hj => List.mem_append_left _ (o1 j (Nat.zero_le _) hj)⟩
  ·rw [List.any_eq_false]
   intro x hx
   obtain ⟨i,hi,rfl⟩ := hget x hx
   have h := (g5 i (Nat.zero_le _) hi).1
   unfold bdC
   rw [decide_eq_true_eq]
   intro h2
   rw [qsign_n,qcmp_le] at h2
   grind
  ·rw [List.any_eq_false]
   intro x hx
   obtain ⟨i,hi,rfl⟩ := hget x hx
   rcases (g5 i (Nat.zero_le _) hi).2 with h | ⟨h1,h2,h3,h4,h5,h6,h7⟩
   ·unfold bdS; rw [h,Bool.not_true,Bool.false_and]; decide
   ·unfold bdS; rw [h7,decide_eq_true rfl]; simp
def Two (V : List RQt) (k : Nat) (x y : RNd) : Prop :=
 (∃ l : List Nat,1 ≤ l.length ∧ l.length ≤ 6 ∧ InX l V.length ∧ x = lfN V l ∧ y = lfN V l) ∨
 (∃ (l : List Nat) (f : Nat) (c : RQt) (m : Bool) (a b : Nat),1 ≤ l.length ∧ l.length ≤ 6 ∧ SmQ c k ∧ x = inN l f (rQ (vQ c)) m a b ∧ y = inN l f c m a b)
theorem tree_two9 {k : Nat} (hk : k ≤ 300) (h3k : 3 ≤ k) {V : List RQt} {rows : List (List RC)} {lst : Int} {n : Nat} (hlst : 1 ≤ lst) (hV : SmL V k) (hVl : V.length ≤ 900) : ∀ (d : Nat) (l : List Nat) (p : Nat),InX l V.length → (∀ f,f < n → WfD rows f l k) → 1 ≤ l.length → l.length ≤ 6 →
  All2 (Two V k) (treeP V rows lst n d l p) (treeL V rows lst n d l p) := by
 intro d
 have hleaf : ∀ l : List Nat,InX l V.length → 1 ≤ l.length → l.length ≤ 6 → Two V k (lfN V l) (lfN V l) := fun l hl h1 hn => .inl ⟨l,h1,hn,hl,rfl,rfl⟩
 induction d with
 | zero => intro l p hl hw h1 hn; exact .cons (hleaf l hl h1 hn) .nil
 | succ d ih =>
  intro l p hl hw h1 hn
  have hs := best_same V rows l lst n
  cases hb : bestL V rows l lst n with
  | none =>
   have hb' : bestP V rows l lst n = none := by rw [← hs,hb]; rfl
   rw [treeP,treeL,hb,hb']
   exact .cons (hleaf l hl h1 hn) .nil
  | some b =>
   obtain ⟨bf,bc,bm,bl⟩ := b
   have hb' : bestP V rows l lst n = some (bf,vQ bc,bm,bl) := by rw [← hs,hb]; rfl
   obtain ⟨k1,k2,k3,k4⟩ := bestL_mem hb
   have k5 : SmQ bc k := (bestL_ok (lst := lst) (by omega) (by omega) hV hl hw (by omega) _ hb).2
   obtain ⟨h2,h3,h4⟩ := part_ok hlst k3
   rw [treeP,treeL,hb,hb']
   show All2 _ (if lsV (vsL V l) ≤ bl then _ else _) (if lsV (vsL V l) ≤ bl then _ else _)
   by_cases hle : lsV (vsL V l) ≤ bl
   ·rw [if_pos hle,if_pos hle]; exact .cons (hleaf l hl h1 hn) .nil
   ·rw [if_neg hle,if_neg hle]
    have hA : InX (lfL rows l bf (vQ bc) bm) V.length := filt_in hl
    have hB : InX (rgL rows l bf (vQ bc) bm) V.length := filt_in hl
    have wA : ∀ f,f < n → WfD rows f (lfL rows l bf (vQ bc) bm) k := wf_part _ hw
    have wB : ∀ f,f < n → WfD rows f (rgL rows l bf (vQ bc) bm) k := wf_part _ hw
    have i1 := ih (lfL rows l bf (vQ bc) bm) (p + 1) hA wA h2 (by omega)
    have i2 := ih (rgL rows l bf (vQ bc) bm) (p + 1 + (treeP V rows lst n d (lfL rows l bf (vQ bc) bm) (p + 1)).length) hB wB h3 (by omega)
    refine .cons (.inr ⟨l,bf,bc,bm,p + 1,p + 1 + (treeP V rows lst n d (lfL rows l bf (vQ bc) bm) (p + 1)).length,h1,hn,k5,rfl,?_⟩) (i1.app ?_)
    ·rw [i1.len]
    ·rw [i1.len] at i2 ⊢
     exact i2
structure OkG (d : RD) (r : RR) (k : Nat) : Prop where
 rt : rtV d r = 0
 n : d.2.1.length ≤ 6
 hV : SmL d.2.2 k
 wf : ∀ f,f < d.1.toNat → WfD d.2.1 f (zT d.2.1.length) k
theorem OkG.facts {d : RD} {r : RR} {k : Nat} (h : OkG d r k) : (0 ≤ d.1 ∧ d.1 ≤ 64 ∧ 0 ≤ r.1 ∧ r.1 ≤ 7 ∧ 1 ≤ r.2) ∧ d.2.1.length = d.2.2.length ∧ d.2.1.length ≠ 0 ∧ ∀ x ∈ d.2.1,(x.length : Int) = d.1 := rtV_ok h.rt
theorem Tree9_c {d : RD} {r : RR} {k : Nat} (hk : k ≤ 300) (h3k : 3 ≤ k) (h : OkG d r k) : R FF 214 [.agg (eD d),.agg (eR r)] = some (.tup [.own true 14 ((trP d r).map eNd),(AV.i .i64 0)]) := by
 have f1 := gright_c (d := d) (r := r) (by have := h.n; omega)
 obtain ⟨h1,h2,h3,h4⟩ := h.facts
 have h6 := h.n
 have hn : (zT d.2.1.length).length ≤ 90 := by rw [List.length_range]; omega
 have hin : InX (zT d.2.1.length) d.2.2.length := by rw [← h2]; exact inX_range _
 have f2 := gevery_c (d := d) (by omega)
 have f3 := node9_c hk h3k (dep := r.1) (lst := r.2) (n := d.1.toNat) (by omega) h.hV (by omega) (by omega) (by omega) r.1.toNat (zT d.2.1.length) [] (by omega) hin h.wf hn (by rw [List.length_range]; omega) (by rw [List.length_range,List.length_nil]; omega)
 rw [show ((d.1.toNat : Nat) : Int) = d.1 by omega,show ((r.1.toNat : Nat) : Int) = r.1 by omega,List.nil_append] at f3
 change R FF 238 _ = some (AV.back (AV.i .i64 ((0 : Nat) : Int)) [AV.ownp [_,_,_,_,_,AV.own true 14 ((trP d r).map eNd)]]) at f3
 rw [h.rt] at f1
 generalize trP d r = T at *
 generalize zT d.2.1.length = L at *
 obtain ⟨f,rows,vals⟩ := d
 obtain ⟨dep,lst⟩ := r
 simp only [eD,eR,zR] at f1 f2 f3 ⊢
 rw [R_go FF F214 c214.eq_1]
 simp only [RB,RL,un,St.none,za,zd,ze,zf,zb,zj,zk,zm,zn,zc,zg,zh,zi,↓reduceIte,reduceCtorEq,pack,pid,parN,lid,chkK,apartV,Heap.none,f1,f2,f3,n64,eX_rules,eX_row,eNd_rules,eNd_row,nJ,nK,Row.freeze,zt]
theorem grownD_c {d : RD} {r : RR} {k : Nat} (hk : k ≤ 300) (h3k : 3 ≤ k) (h : OkG d r k) : R FF 331 [.agg (eD d),.l 1 ((zT d.2.1.length).map eX),(AV.i .i64 r.1),(AV.i .i64 r.2),(AV.i .i64 0)] = some (.own true 14 ((trL d r).map eNd)) := by
 obtain ⟨h1,h2,h3,h4⟩ := h.facts
 have h6 := h.n
 have hn : (zT d.2.1.length).length ≤ 90 := by rw [List.length_range]; omega
 have hin : InX (zT d.2.1.length) d.2.2.length := by rw [← h2]; exact inX_range _
 have g3 := grown9_c hk h3k (lst := r.2) (n := d.1.toNat) (by omega) h.hV (by omega) (by omega) (by omega) r.1.toNat (zT d.2.1.length) 0 (by omega) hin h.wf hn (by rw [List.length_range]; omega) (by rw [List.length_range]; omega)
 rw [show ((d.1.toNat : Nat) : Int) = d.1 by omega,show ((r.1.toNat : Nat) : Int) = r.1 by omega,zI] at g3
 obtain ⟨f,rows,vals⟩ := d
 exact g3
theorem trP9_sub {d : RD} {r : RR} {k : Nat} (hk : k ≤ 300) (h3k : 3 ≤ k) (h : OkG d r k) : (∃ c,Sub (trP d r) (d.1.toNat : Int) 0 (trP d r).length c) ∧ (trP d r).length ≤ 20 ∧ (∀ j,0 < j → j < (trP d r).length → cnt j (trP d r) = 1) ∧ All2 (Two d.2.2 k) (trP d r) (trL d r) := by
 obtain ⟨h1,h2,h3,h4⟩ := h.facts
 have h6 := h.n
 have hlr : (zT d.2.1.length).length = d.2.1.length := List.length_range ..
 have hin : InX (zT d.2.1.length) d.2.2.length := by rw [← h2]; exact inX_range _
 have hlst : 1 ≤ r.2 := by omega
 have t1 := treeP_len (V := d.2.2) (rows := d.2.1) (n := d.1.toNat) hlst r.1.toNat (zT d.2.1.length) 0 (by omega)
 have t2 := treeP_sub (V := d.2.2) (rows := d.2.1) (n := d.1.toNat) hlst r.1.toNat (zT d.2.1.length) [] [] (by omega)
 rw [List.nil_append,List.append_nil,List.length_nil,zX] at t2
 have t3 := treeP_cnt (V := d.2.2) (rows := d.2.1) (n := d.1.toNat) hlst r.1.toNat (zT d.2.1.length) 0
 exact ⟨⟨_,t2⟩,by show (treeP _ _ _ _ _ _ _).length ≤ _; omega,fun j j0 j1 => by
  show cnt j (treeP _ _ _ _ _ _ _) = 1
  rw [t3 j (by omega),if_pos ⟨j0,by rw [zX]; exact j1⟩],tree_two9 hk h3k hlst h.hV (by omega) _ _ _ hin h.wf (by omega) (by omega)⟩
def goN (n : RNd) (row : List RC) : Bool := goV (vQ n.cut) n.miss (row.getD n.ft.toNat dC)
def nextN (n : RNd) (row : List RC) : Nat := if goN n row then n.lft.toNat else n.rgt.toNat
def walk (t : List RNd) (row : List RC) : Nat → Nat → Option Nat
 | 0,a => if (t.getD a dNd).leaf then some a else none
 | k + 1,a => if (t.getD a dNd).leaf then some a else walk t row k (nextN (t.getD a dNd) row)
theorem next_kid {n : RNd} (row : List RC) (h : n.leaf = false) : nextN n row ∈ kids n := by
 unfold nextN kids
 rw [h,if_neg (show ¬ false = true by decide)]
 split
 ·exact zH _ (zG ..)
 ·exact zG ..
theorem walk_some {t : List RNd} (h : Par t) (row : List RC) : ∀ (k : Nat) (V : List Nat) (a : Nat),(a :: V).Nodup → (∀ c ∈ a :: V,c < t.length) → (∀ c ∈ a :: V,c = 0 ∨ ∃ p ∈ V,c ∈ kids (t.getD p dNd)) → t.length ≤ V.length + k →
  ∃ b,walk t row k a = some b ∧ b < t.length ∧ (t.getD b dNd).leaf = true := by
 intro k
 induction k with
 | zero =>
  intro V a hnd hlt hp hk
  have := nodup_len t.length hnd hlt
  rw [zF] at this
  omega
 | succ k ih =>
  intro V a hnd hlt hp hk
  have ha : a < t.length := hlt a (zG ..)
  cases hl : (t.getD a dNd).leaf with
  | true => exact ⟨a,by rw [walk,if_pos hl],ha,hl⟩
  | false =>
   have hc := next_kid row hl
   have hr := h.rng a ha _ hc
   rw [walk,if_neg (by rw [hl]; decide)]
   refine ih (a :: V) _ ?_ ?_ ?_ (by rw [zF]; omega)
   ·refine List.nodup_cons.2 ⟨fun hm => ?_,hnd⟩
    rcases hp _ hm with h0 | ⟨p,hpV,hpc⟩
    ·omega
    ·have hpl : p < t.length := hlt p (zH _ hpV)
     have e := h.uniq hpl ha hpc hc
     subst e
     exact (List.nodup_cons.1 hnd).1 hpV
   ·intro c hc2
    rcases List.mem_cons.1 hc2 with rfl | hc2
    ·exact hr.2
    ·exact hlt c hc2
   ·intro c hc2
    rcases List.mem_cons.1 hc2 with rfl | hc2
    ·exact .inr ⟨a,zG ..,hc⟩
    ·rcases hp c hc2 with h0 | ⟨p,hpV,hpc⟩
     ·exact .inl h0
     ·exact .inr ⟨p,zH _ hpV,hpc⟩
theorem walk_root {t : List RNd} (h : Par t) (h1 : 1 ≤ t.length) (row : List RC) : ∃ b,walk t row t.length 0 = some b ∧ b < t.length ∧ (t.getD b dNd).leaf = true :=
 walk_some h row t.length [] 0 (by simp) (fun c hc => by rw [ja] at hc; omega) (fun c hc => by rw [ja] at hc; exact .inl hc) (by simp)
def SmW (row : List RC) (k : Nat) : Prop := ∀ c ∈ row,SmQ c.2 k
def valT (t : List RNd) (row : List RC) : Rat := vQ (t.getD ((walk t row t.length 0).getD 0) dNd).val
def SmM (m : RM) (k : Nat) : Prop := m.2.length ≤ 1000 ∧ ∀ t ∈ m.2,t.length ≤ 100000 ∧ SmT t k
theorem vt_len {m : RM} (h : VM m) : ∀ t ∈ m.2,1 ≤ t.length := by
 intro t ht
 have hf := h.fit
 unfold fitB at hf
 rw [Bool.not_eq_true'] at hf
 rw [Bool.or_eq_false_iff,List.any_eq_false] at hf
 have h2 := hf.2 t ht
 unfold bdT at h2
 simp only [Bool.or_eq_true,decide_eq_true_eq,not_or] at h2
 omega
def predV (ts : List (List RNd)) (row : List RC) : Rat := sR (ts.map fun t => valT t row)
theorem valT_sq {t : List RNd} {row : List RC} {f : Int} {k : Nat} (h1k : 1 ≤ k) (h1 : 1 ≤ t.length) (hs : SmT t k) (hv : VT t f) : sq (valT t row) ≤ k := by
 obtain ⟨b,hb,hb1,hb2⟩ := walk_root hv.sh.par h1 row
 have e : valT t row = vQ (t.getD b dNd).val := by unfold valT; rw [hb]; rfl
 rw [e]
 exact vQ_sq (hs _ (getD_mem' dNd hb1)).2.2 h1k
theorem left10_c {n : RNd} {x : RC} {k j : Nat} (hc : SmQ n.cut k) (hx : SmQ x.2 j) (hk : k ≤ 100000000000) (hj : j ≤ 100000000000) : R FF 231 [.agg (eNd n),.agg (eC x)] = some (.b (!n.leaf && goV (vQ n.cut) n.miss x)) := by
 have f1 := vcmp_c hx hc hj hk
 have e : decide (vQ x.2 < vQ n.cut) = decide (qcmp (vQ x.2) (vQ n.cut) < 0) := decide_eq_decide.2 qcmp_lt.symm
 unfold goV
 rw [e]
 generalize qcmp (vQ x.2) (vQ n.cut) = z at *
 obtain ⟨lf,ft,c,a,b,m,v,w⟩ := n
 obtain ⟨a',q,l,d⟩ := x
 simp only [eNd,eC]
 cases lf
 ·cases a'
  ·rw [R_go FF F231 c231.eq_1]
   simp only [RB,RL,un,St.none,za,zd,ze,zf,zb,zj,zk,zm,zn,zc,zg,zh,zi,↓reduceIte,reduceCtorEq,pack,pid,parN,lid,chkK,apartV,Heap.none,f1,n64]
   try rfl
  ·cases m
   ·rw [R_go FF F231 c231.eq_1]
    simp only [RB,RL,un,St.none,za,zd,ze,zf,zb,zj,zk,zm,zn,zc,zg,zh,zi,↓reduceIte,reduceCtorEq,pack,pid,parN,lid,chkK,apartV,Heap.none,f1,n64]
    try rfl
   ·rw [R_go FF F231 c231.eq_1]
    simp only [RB,RL,un,St.none,za,zd,ze,zf,zb,zj,zk,zm,zn,zc,zg,zh,zi,↓reduceIte,reduceCtorEq,pack,pid,parN,lid,chkK,apartV,Heap.none,f1,n64]
    try rfl
 ·rw [R_go FF F231 c231.eq_1]
  simp only [RB,RL,un,St.none,za,zd,ze,zf,zb,zj,zk,zm,zn,zc,zg,zh,zi,↓reduceIte,reduceCtorEq,pack,pid,parN,lid,chkK,apartV,Heap.none,f1,n64]
  try rfl
theorem way10_c {t : List RNd} {row : List RC} {f : Int} {k : Nat} (hk : k ≤ 10000000000) (ht : t.length ≤ 100000) (hs : SmT t k) (hr : SmW row k) (hrg : t.any (bdR t.length f) = false) (hf : (row.length : Int) = f) : ∀ (d a b : Nat),d ≤ 100000 → a < t.length → walk t row d a = some b →
  ∃ P : List Nat,1 ≤ P.length ∧ P.length ≤ d + 1 ∧ P.getD (P.length - 1) 0 = b ∧ R FF 206 [.l 14 (t.map eNd),(AV.i .i64 ((a : Int))),.l 4 (row.map eC)] = some (.l 1 (P.map eX)) := by
 intro d
 induction d with
 | zero =>
  intro a b hd ha h
  rw [walk] at h
  split at h
  ·rename_i hl
   cases h
   refine ⟨[a],zz _,zz _,rfl,?_⟩
   have c1 : (a : Int) < (t.length : Int) := by omega
   have e : [[AV.i .i64 (a : Int)]] = [a].map eX := rfl
   rw [← e]
   rw [R_go FF F206 c206.eq_1]
   simp only [RB,RL,un,St.none,za,zd,ze,zf,zb,zj,zk,zm,zn,zc,zg,zh,zi,↓reduceIte,reduceCtorEq,pack,pid,parN,lid,chkK,apartV,Heap.none,c1,hl,n64,eNd_rules,eNd_row,eC_rules,eC_row,zq]
  ·cases h
 | succ d ih =>
  intro a b hd ha h
  have c1 : (a : Int) < (t.length : Int) := by omega
  have hmem := getD_mem' dNd ha
  cases hl : (t.getD a dNd).leaf with
  | true =>
   rw [walk,if_pos hl] at h
   cases h
   refine ⟨[a],zz _,by show 1 ≤ _; omega,rfl,?_⟩
   have e : [[AV.i .i64 (a : Int)]] = [a].map eX := rfl
   rw [← e]
   rw [R_go FF F206 c206.eq_1]
   simp only [RB,RL,un,St.none,za,zd,ze,zf,zb,zj,zk,zm,zn,zc,zg,zh,zi,↓reduceIte,reduceCtorEq,pack,pid,parN,lid,chkK,apartV,Heap.none,c1,hl,n64,eNd_rules,eNd_row,eC_rules,eC_row,zq]
  | false =>
   rw [walk,if_neg (by rw [hl]; decide)] at h
   have hg := rng_of hrg hmem hl
   have hn : nextN (t.getD a dNd) row < t.length := by unfold nextN; split <;> omega
   obtain ⟨P,q1,q2,q3,q4⟩ := ih _ b (by omega) hn h
   have hft : (t.getD a dNd).ft.toNat < row.length := by omega
   have f1 := left10_c (n := t.getD a dNd) (x := row.getD (t.getD a dNd).ft.toNat dC) (k := k) (j := k) (hs _ hmem).2.1 (hr _ (getD_mem' dC hft)) (by omega) (by omega)
   rw [hl,show (!false && goV (vQ (t.getD a dNd).cut) (t.getD a dNd).miss (row.getD (t.getD a dNd).ft.toNat dC)) = goN (t.getD a dNd) row from rfl] at f1
   refine ⟨a :: P,by rw [zF]; omega,by rw [zF]; omega,?_,?_⟩
   ·rw [zF,show P.length + 1 - 1 = (P.length - 1) + 1 by omega]; exact q3
   ·have b2 : (1 + P.length) * 8 ≤ 140737488355328 := by omega
    have t1 : zQ (1 + P.length) ([[AV.i .i64 (a : Int)]] ++ List.map eX P) = (a :: P).map eX := by
     rw [zp (by rw [zx,zC]; exact zz _)]; rfl
    have hnx : nextN (t.getD a dNd) row = if goN (t.getD a dNd) row then (t.getD a dNd).lft.toNat else (t.getD a dNd).rgt.toNat := rfl
    obtain ⟨x,hx⟩ : ∃ x,x = t.getD a dNd := ⟨_,rfl⟩
    rw [← hx] at hl hg f1 hnx hft q4
    have hx' := hx.symm
    generalize goN x row = g at *
    obtain ⟨xl,xf,xc,xa,xb,xm,xv,xw⟩ := x
    simp only at hl hg hft
    subst hl
    have g1 : 0 ≤ xf := by omega
    have g2 : xf < (row.length : Int) := by omega
    simp only [eNd,eC] at f1
    cases g
    ·have q5 : ((nextN ⟨false,xf,xc,xa,xb,xm,xv,xw⟩ row : Nat) : Int) = xb := by rw [hnx,if_neg (by decide)]; show ((xb.toNat : Nat) : Int) = xb; omega
     rw [q5] at q4
     rw [R_go FF F206 c206.eq_1]
     simp only [RB,RL,un,St.none,za,zd,ze,zf,zb,zj,zk,zm,zn,zc,zg,zh,zi,↓reduceIte,reduceCtorEq,pack,pid,parN,lid,chkK,apartV,Heap.none,c1,hx',eNd,f1,g1,g2,n64,eNd_rules,eNd_row,eC_rules,eC_row,eX_rules,eX_row,zq,q4,b2,t1]
    ·have q5 : ((nextN ⟨false,xf,xc,xa,xb,xm,xv,xw⟩ row : Nat) : Int) = xa := by rw [hnx,if_pos rfl]; show ((xa.toNat : Nat) : Int) = xa; omega
     rw [q5] at q4
     rw [R_go FF F206 c206.eq_1]
     simp only [RB,RL,un,St.none,za,zd,ze,zf,zb,zj,zk,zm,zn,zc,zg,zh,zi,↓reduceIte,reduceCtorEq,pack,pid,parN,lid,chkK,apartV,Heap.none,c1,hx',eNd,f1,g1,g2,n64,eNd_rules,eNd_row,eC_rules,eC_row,eX_rules,eX_row,zq,q4,b2,t1]
theorem predict10_l0 {f : Int} {ts : List (List RNd)} {row : List RC} {k : Nat} (hk : k ≤ 1000000) (h1k : 1 ≤ k) (hm : SmM (f,ts) k) (hv : ∀ t ∈ ts,VT t f) (h1 : ∀ t ∈ ts,1 ≤ t.length) (hr : SmW row k) (hf : (row.length : Int) = f) : ∀ (d i : Nat),i + d = ts.length →
  LP FF [(4,1),(5,1),(1,0),(2,0),(6,0)] [(4,1),(5,0)] b201_0 [.ownp [.b false,.l 1 [],.l 1 []],.ownp [.b (ng (predV (ts.take i) row).num),(AV.l 1 (List.map u (D (predV (ts.take i) row).num.natAbs))),(AV.l 1 (List.map u (D (predV (ts.take i) row).den)))],.l 4 (row.map eC),.tp (eM (f,ts)) 0,(AV.i .i64 ((i : Int)))] =
   some (.exit 0,[.ownp [.b false,.l 1 [],.l 1 []],.tp [.b (ng (predV ts row).num),(AV.l 1 (List.map u (D (predV ts row).num.natAbs))),(AV.l 1 (List.map u (D (predV ts row).den)))] 0]) := by
 intro d
 induction d with
 | zero =>
  intro i hi
  have hi' : i = ts.length := by omega
  rw [hi',zp (zz _)]
  have c1 : ¬ (ts.length : Int) < (ts.length : Int) := by omega
  simp only [eM]
  rw [LP_go FF b201_0.eq_1]
  simp only [RB,RL,un,St.none,za,zd,ze,zf,zb,zj,zk,zm,zn,zc,zg,zh,zi,↓reduceIte,reduceCtorEq,pack,pid,parN,lid,chkK,apartV,Heap.none,c1,eTr_rules,eTr_row,eC_rules,eC_row]
 | succ d ih =>
  intro i hi
  have hlt : i < ts.length := by omega
  have h9 := ih (i + 1) (by omega)
  have hmem := getD_mem' ([] : List RNd) hlt
  have hp : predV (ts.take (i + 1)) row = predV (ts.take i) row + valT (ts.getD i []) row := by
   unfold predV
   rw [List.take_add_one,zr hlt,jb,zo,zr hlt]
   exact sR_snoc _ _
  rw [hp] at h9
  have hl : ts.length ≤ 1000 := hm.1
  have ha : AllQ ((ts.take i).map fun t => valT t row) k := fun x hx => by
   obtain ⟨t,ht,rfl⟩ := List.mem_map.1 hx
   have ht := List.mem_of_mem_take ht
   exact valT_sq h1k (h1 t ht) (hm.2 t ht).2 (hv t ht)
  have s1 := sR_sq ha
  rw [zC] at s1
  have hti : (ts.take i).length ≤ 1000 := zE (List.length_take_le _ _) (by omega)
  have s3 := len_mul hti (show k + 1 ≤ 1000001 by omega)
  obtain ⟨b,hb,hb1,hb2⟩ := walk_root (hv _ hmem).sh.par (h1 _ hmem) row
  obtain ⟨P,q1,q2,q3,q4⟩ := way10_c (k := k) (by omega) (hm.2 _ hmem).1 (hm.2 _ hmem).2 hr (hv _ hmem).rg hf (ts.getD i []).length 0 b (hm.2 _ hmem).1 (h1 _ hmem) hb
  have ev : valT (ts.getD i []) row = vQ ((ts.getD i []).getD b dNd).val := by unfold valT; rw [hb]; rfl
  have hval := ((hm.2 _ hmem).2 _ (getD_mem' dNd hb1)).2.2
  have f2 := qadd_v (s := predV (ts.take i) row) (x := ((ts.getD i []).getD b dNd).val) (k := 1000001001) (j := k) (by unfold predV; omega) hval (by omega) (by omega)
  rw [ev] at h9
  rw [zI] at q4
  generalize predV (ts.take i) row = s at *
  have c1 : (i : Int) < (ts.length : Int) := by omega
  have e2 : IntKind.i64.wrap ((i : Int) + 1) = ((i + 1 : Nat) : Int) := w64succ (by omega)
  have htl := (hm.2 _ hmem).1
  have e3 : IntKind.i64.wrap ((P.length : Int) - 1) = ((P.length - 1 : Nat) : Int) := by rw [w64 (by omega) (by omega)]; omega
  have c2 : ((P.length - 1 : Nat) : Int) < (P.length : Int) := by omega
  have c3 : (b : Int) < ((ts.getD i []).length : Int) := by omega
  have q3' : P.getD (P.length - 1) 0 = b := q3
  generalize vQ ((ts.getD i []).getD b dNd).val = v at *
  simp only [eM] at h9 ⊢
  rw [LP_go FF b201_0.eq_1]
  simp only [RB,RL,un,St.none,za,zd,ze,zf,zb,zj,zk,zm,zn,zc,zg,zh,zi,↓reduceIte,reduceCtorEq,pack,pid,parN,lid,chkK,apartV,Heap.none,c1,e2,e3,c2,c3,q3',eTr_rules,eTr_row,eC_rules,eC_row,eX_rules,eX_row,eNd_rules,eNd_row,zq,q4,f2]
  exact h9
theorem predict10_c {m : RM} {row : List RC} {k : Nat} (hk : k ≤ 1000000) (h1k : 1 ≤ k) (hm : SmM m k) (hr : SmW row k) (hv : VM m) (hf : (row.length : Int) = m.1) : R FF 201 [.agg (eM m),.l 4 (row.map eC)] = some (AV.agg [AV.b (ng (zV ((predV m.2 row)))),(AV.l 1 (List.map u (D (zM (zV ((predV m.2 row))))))),(AV.l 1 (List.map u (D (Rat.den ((predV m.2 row))))))]) := by
 have z1 := qzero_c
 have l0 := predict10_l0 (f := m.1) (ts := m.2) hk h1k hm hv.all (vt_len hv) hr hf m.2.length 0 (by omega)
 obtain ⟨f,ts⟩ := m
 rw [jk,zI,show predV [] row = 0 from rfl] at l0
 simp only [eM] at l0 ⊢
 generalize predV ts row = p at *
 rw [R_go FF F201 c201.eq_1]
 simp only [RB,RL,un,St.none,za,zd,ze,zf,zb,zj,zk,zm,zn,zc,zg,zh,zi,↓reduceIte,reduceCtorEq,pack,pid,parN,lid,chkK,apartV,Heap.none,z1,l0,n64,eTr_rules,eTr_row,eC_rules,eC_row]
def scN (ρ : Rat) (x : RNd) : RNd := if x.leaf then { x with val := rQ (vQ x.val * ρ) } else x
def scT (ρ : Rat) (T : List RNd) : List RNd := T.map (scN ρ)
theorem scT_len (ρ : Rat) (T : List RNd) : (scT ρ T).length = T.length := zC ..
structure EqN (x y : RNd) : Prop where
 leaf : x.leaf = y.leaf
 ft : x.ft = y.ft
 lft : x.lft = y.lft
 rgt : x.rgt = y.rgt
 miss : x.miss = y.miss
 cut : vQ x.cut = vQ y.cut
 cov : vQ x.cov = vQ y.cov
theorem EqN.refl (x : RNd) : EqN x x := ⟨rfl,rfl,rfl,rfl,rfl,rfl,rfl⟩
theorem EqN.trans {x y z : RNd} (h : EqN x y) (g : EqN y z) : EqN x z := ⟨h.1.trans g.1,h.2.trans g.2,h.3.trans g.3,h.4.trans g.4,h.5.trans g.5,h.6.trans g.6,h.7.trans g.7⟩
theorem eqN_sc (ρ : Rat) (x : RNd) : EqN x (scN ρ x) := by
 obtain ⟨l,f,c,a,b,m,v,w⟩ := x
 cases l
 ·exact .refl _
 ·exact ⟨rfl,rfl,rfl,rfl,rfl,rfl,rfl⟩
theorem getD_none {l : List RNd} {i : Nat} (h : l.length ≤ i) : l.getD i dNd = dNd := by
 rw [zo,jf h]; rfl
theorem All2.maps {R S : RNd → RNd → Prop} {g g' : RNd → RNd} (h : ∀ x y,R x y → S (g x) (g' y)) {l m : List RNd} (a : All2 R l m) : All2 S (l.map g) (m.map g') := by
 induction a with
 | nil => exact .nil
 | cons h1 _ ih => exact .cons (h _ _ h1) ih
theorem All2.mapr {S : RNd → RNd → Prop} {g : RNd → RNd} (h : ∀ x,S x (g x)) : ∀ l : List RNd,All2 S l (l.map g)
 | [] => .nil
 | x :: l => .cons (h x) (All2.mapr h l)
theorem All2.left {R : RNd → RNd → Prop} {Q : RNd → Prop} (h : ∀ x y,R x y → Q x) {l m : List RNd} (a : All2 R l m) : ∀ x ∈ l,Q x := by
 induction a with
 | nil => intro x hx; exact (zY hx).elim
 | cons h1 _ ih =>
  intro x hx
  rcases List.mem_cons.1 hx with rfl | hx
  ·exact h _ _ h1
  ·exact ih x hx
theorem All2.right {R : RNd → RNd → Prop} {Q : RNd → Prop} (h : ∀ x y,R x y → Q y) {l m : List RNd} (a : All2 R l m) : ∀ y ∈ m,Q y := by
 induction a with
 | nil => intro x hx; exact (zY hx).elim
 | cons h1 _ ih =>
  intro x hx
  rcases List.mem_cons.1 hx with rfl | hx
  ·exact h _ _ h1
  ·exact ih x hx
theorem All2.getN {l m : List RNd} (a : All2 EqN l m) (i : Nat) : EqN (l.getD i dNd) (m.getD i dNd) := by
 by_cases h : i < l.length
 ·exact a.get i h
 ·have h' : m.length ≤ i := by rw [← a.len]; omega
  rw [getD_none (by omega),getD_none h']
  exact .refl _
theorem cnt_congr (j : Nat) {l m : List RNd} (a : All2 EqN l m) : cnt j l = cnt j m := by
 induction a with
 | nil => rfl
 | cons h _ ih =>
  rw [cnt,cnt,ih]
  unfold cntN
  rw [h.leaf,h.lft,h.rgt]
theorem Sub.congr {T T' : List RNd} {f : Int} (a : All2 EqN T T') {p q : Nat} {c : Rat} (h : Sub T f p q c) : Sub T' f p q c := by
 induction h with
 | @leaf p hp hl hc =>
  have e := a.getN p
  rw [e.cov] at hc ⊢
  exact .leaf (by rw [← a.len]; exact hp) (e.leaf ▸ hl) hc
 | @node p q r x y hl hf h1 h2 hc _ _ ia ib =>
  have e := a.getN p
  rw [e.leaf] at hl
  rw [e.ft] at hf
  rw [e.lft] at h1
  rw [e.rgt] at h2
  rw [e.cov] at hc
  exact .node hl hf h1 h2 hc ia ib
theorem walk_congr {T T' : List RNd} (a : All2 EqN T T') (row : List RC) : ∀ k p,walk T row k p = walk T' row k p := by
 intro k
 induction k with
 | zero => intro p; rw [walk,walk,(a.getN p).leaf]
 | succ k ih =>
  intro p
  have e := a.getN p
  have en : nextN (T.getD p dNd) row = nextN (T'.getD p dNd) row := by
   unfold nextN goN
   rw [e.cut,e.miss,e.ft,e.lft,e.rgt]
  rw [walk,walk,e.leaf,en,ih]
theorem Two.eqN {V : List RQt} {k : Nat} {x y : RNd} (h : Two V k x y) : EqN x y := by
 rcases h with ⟨l,_,_,_,rfl,rfl⟩ | ⟨l,f,c,m,a,b,_,_,_,rfl,rfl⟩
 ·exact .refl _
 ·exact ⟨rfl,rfl,rfl,rfl,rfl,vQ_rQ _,rfl⟩
theorem Two.lf {V : List RQt} {k : Nat} {x y : RNd} (h : Two V k x y) : x.leaf = true → x.ft = 0 ∧ x.lft = 0 ∧ x.rgt = 0 := by
 rcases h with ⟨l,_,_,_,rfl,rfl⟩ | ⟨l,f,c,m,a,b,_,_,_,rfl,rfl⟩
 ·exact fun _ => ⟨rfl,rfl,rfl⟩
 ·exact fun h => by cases h
theorem mean_sq {V : List RQt} {k : Nat} (h1k : 1 ≤ k) (hV : SmL V k) {l : List Nat} (hl : InX l V.length) (hn : l.length ≤ 6) : sq (mnV (vsL V l)) ≤ 6 * k + 9 := by
 have h1 := mnV_sq (vsL_all hV h1k hl) (by rw [vsL_len]; omega)
 rw [vsL_len] at h1
 have h2 : l.length * (k + 1) ≤ 6 * (k + 1) := zK _ hn
 omega
theorem scN_lf (ρ : Rat) (V : List RQt) (l : List Nat) : scN ρ (lfN V l) = { lfN V l with val := rQ (mnV (vsL V l) * ρ) } := by
 show ({ lfN V l with val := rQ (vQ (rQ (mnV (vsL V l))) * ρ) } : RNd) = _
 rw [vQ_rQ]
theorem scN_in (ρ : Rat) (l : List Nat) (f : Nat) (c : RQt) (m : Bool) (a b : Nat) : scN ρ (inN l f c m a b) = inN l f c m a b := rfl
theorem Two.same {V : List RQt} {k : Nat} {x y : RNd} {ρ : Rat} (hk : k ≤ 2000) (h1k : 1 ≤ k) (hV : SmL V k) (hρ : sq ρ ≤ 3) (h : Two V k x y) : SameN 100000 (scN ρ x) (scN ρ y) := by
 rcases h with ⟨l,_,hn,hl,rfl,rfl⟩ | ⟨l,f,c,m,a,b,_,hn,hc,rfl,rfl⟩
 ·rw [scN_lf]
  have h1 := mean_sq h1k hV hl hn
  have h2 := sq_int (l.length : Int) (by omega)
  have h3 := sq_mul (mnV (vsL V l)) ρ
  exact ⟨⟨_,rfl,rfl,zE h2 (by omega)⟩,.inl ⟨rfl,rfl,_,rfl,rfl,by omega⟩⟩
 ·rw [scN_in,scN_in]
  have h2 := sq_int (l.length : Int) (by omega)
  exact ⟨⟨_,rfl,rfl,zE h2 (by omega)⟩,.inr ⟨rfl,rfl,rfl,rfl,rfl,rfl,rfl,hc.mono (by omega)⟩⟩
theorem Two.sm {V : List RQt} {k : Nat} {x y : RNd} {ρ : Rat} (h1k : 1 ≤ k) (hV : SmL V k) (hρ : sq ρ ≤ 3) (h : Two V k x y) : (SmQ (scN ρ x).cov (6 * k + 12) ∧ SmQ (scN ρ x).cut (6 * k + 12) ∧ SmQ (scN ρ x).val (6 * k + 12)) ∧ SmQ (scN ρ y).cov (6 * k + 12) ∧ SmQ (scN ρ y).cut (6 * k + 12) ∧ SmQ (scN ρ y).val (6 * k + 12) := by
 have hcov : ∀ l : List Nat,l.length ≤ 6 → SmQ (rQ (((l.length : Nat) : Int) : Rat)) (6 * k + 12) := fun l hn => sm_cq (zE (sq_int (l.length : Int) (by omega)) (by omega))
 rcases h with ⟨l,_,hn,hl,rfl,rfl⟩ | ⟨l,f,c,m,a,b,_,hn,hc,rfl,rfl⟩
 ·rw [scN_lf]
  have h1 := mean_sq h1k hV hl hn
  have h3 := sq_mul (mnV (vsL V l)) ρ
  have h4 : SmQ (rQ (mnV (vsL V l) * ρ)) (6 * k + 12) := sm_cq (by omega)
  exact ⟨⟨hcov l hn,SmQ_dQ _,h4⟩,hcov l hn,SmQ_dQ _,h4⟩
 ·rw [scN_in,scN_in]
  exact ⟨⟨hcov l hn,sm_cq (zE (vQ_sq hc h1k) (by omega)),SmQ_dQ _⟩,hcov l hn,hc.mono (by omega),SmQ_dQ _⟩
structure Rnd (d : RD) (r : RR) (ρ : Rat) (k : Nat) : Prop where
 len : (trP d r).length ≤ 20
 one : 1 ≤ (trP d r).length
 len2 : (trL d r).length = (trP d r).length
 vmP : VM (d.1,[scT ρ (trP d r)])
 vmL : VM (d.1,[scT ρ (trL d r)])
 smP : SmT (scT ρ (trP d r)) (6 * k + 12)
 smL : SmT (scT ρ (trL d r)) (6 * k + 12)
 same : All2 (SameN 100000) (scT ρ (trP d r)) (scT ρ (trL d r))
 eqv : ∀ row,valT (scT ρ (trL d r)) row = valT (scT ρ (trP d r)) row
theorem Two.val {V : List RQt} {k : Nat} {x y : RNd} (ρ : Rat) (h : Two V k x y) : (scN ρ x).val = (scN ρ y).val := by
 rcases h with ⟨l,_,_,_,rfl,rfl⟩ | ⟨l,f,c,m,a,b,_,_,_,rfl,rfl⟩
 ·rfl
 ·rfl
theorem getD_scT {T : List RNd} (ρ : Rat) (i : Nat) : (scT ρ T).getD i dNd = scN ρ (T.getD i dNd) := by
 unfold scT
 rw [zo,zo,List.getElem?_map]
 cases T[i]? <;> rfl
theorem rnd_ok {d : RD} {r : RR} {k : Nat} {ρ : Rat} (hk : k ≤ 300) (h3k : 3 ≤ k) (h : OkG d r k) (hρ : sq ρ ≤ 3) : Rnd d r ρ k := by
 obtain ⟨⟨c,hs⟩,h20,hcnt,h2⟩ := trP9_sub hk h3k h
 obtain ⟨f1,f2,f3,f4⟩ := h.facts
 have hlen := h2.len
 have e1 : All2 EqN (trP d r) (scT ρ (trP d r)) := All2.mapr (eqN_sc ρ) _
 have e2 : All2 EqN (trP d r) (scT ρ (trL d r)) := by
  have h9 := All2.maps (S := EqN) (g := id) (g' := scN ρ) (fun x y hxy => (Two.eqN hxy).trans (eqN_sc ρ y)) h2
  rwa [List.map_id] at h9
 have vm : ∀ {T : List RNd},All2 EqN (trP d r) T → VM (d.1,[T]) := by
  intro T e
  have hl := e.len
  have v := vm_of (T := T) (n := d.1.toNat) (c := c) (by omega) (by omega) (by rw [← hl]; exact hs.congr e) (fun j j0 j1 => by rw [← cnt_congr j e]; exact hcnt j j0 (by omega)) (fun i hi hlf => by
   have e9 := e.getN i
   have h9 := All2.left (Q := fun x => x.leaf = true → x.ft = 0 ∧ x.lft = 0 ∧ x.rgt = 0) (fun _ _ q => q.lf) h2 _ (getD_mem' dNd (show i < (trP d r).length by omega)) (e9.leaf.trans hlf)
   rw [e9.ft,e9.lft,e9.rgt] at h9
   exact h9)
  rwa [show ((d.1.toNat : Nat) : Int) = d.1 by omega] at v
 have hsm := All2.maps (S := fun x y => (SmQ x.cov (6 * k + 12) ∧ SmQ x.cut (6 * k + 12) ∧ SmQ x.val (6 * k + 12)) ∧ SmQ y.cov (6 * k + 12) ∧ SmQ y.cut (6 * k + 12) ∧ SmQ y.val (6 * k + 12)) (g := scN ρ) (g' := scN ρ) (fun x y hxy => Two.sm (by omega) h.hV hρ hxy) h2
 refine ⟨h20,treeP_pos _ _ _,hlen.symm,vm e1,vm e2,All2.left (fun _ _ q => q.1) hsm,All2.right (fun _ _ q => q.2) hsm,All2.maps (fun x y hxy => Two.same (by omega) (by omega) h.hV hρ hxy) h2,fun row => ?_⟩
 unfold valT
 rw [← walk_congr e2,← walk_congr e1,scT_len,scT_len,← hlen]
 generalize (walk (trP d r) row (trP d r).length 0).getD 0 = i
 rw [getD_scT,getD_scT]
 by_cases hi : i < (trP d r).length
 ·rw [Two.val ρ (h2.get i hi)]
 ·rw [getD_none (show (trP d r).length ≤ i by omega),getD_none (show (trL d r).length ≤ i by omega)]
def nxV (d : RD) (T : List RNd) : List Rat := (zT d.2.1.length).map fun i => vQ (d.2.2.getD i dQ) - valT T (d.2.1.getD i [])
def nxD (d : RD) (r : RR) (ρ : Rat) : RD := (d.1,d.2.1,(nxV d (scT ρ (trP d r))).map rQ)
theorem nxV_len (d : RD) (T : List RNd) : (nxV d T).length = d.2.1.length := by unfold nxV; rw [zC,List.length_range]
theorem rnd_val {d : RD} {r : RR} {ρ : Rat} {k : Nat} (h : Rnd d r ρ k) (row : List RC) : sq (valT (scT ρ (trP d r)) row) ≤ 6 * k + 12 :=
 valT_sq (by omega) (by rw [scT_len]; exact h.one) h.smP (h.vmP.all _ (List.mem_singleton.2 rfl))
theorem nx_sq {d : RD} {r : RR} {ρ : Rat} {k : Nat} (h1k : 1 ≤ k) (hg : OkG d r k) (h : Rnd d r ρ k) : AllQ (nxV d (scT ρ (trP d r))) (7 * k + 13) := by
 intro x hx
 obtain ⟨i,hi,rfl⟩ := List.mem_map.1 hx
 have hi := List.mem_range.1 hi
 obtain ⟨_,f2,_,_⟩ := hg.facts
 have h1 := vQ_sq (hg.hV _ (getD_mem' dQ (show i < d.2.2.length by omega))) h1k
 have h2 := rnd_val h (d.2.1.getD i [])
 have h3 := sq_sub (vQ (d.2.2.getD i dQ)) (valT (scT ρ (trP d r)) (d.2.1.getD i []))
 omega
theorem nx_ok {d : RD} {r : RR} {ρ : Rat} {k : Nat} (h1k : 1 ≤ k) (hg : OkG d r k) (h : Rnd d r ρ k) : OkG (nxD d r ρ) r (7 * k + 13) := by
 obtain ⟨f1,f2,f3,f4⟩ := hg.facts
 refine ⟨?_,hg.n,fun x hx => ?_,fun f hf i hi => ?_⟩
 ·rw [← hg.rt]
  unfold rtV nxD
  simp only [zC,nxV_len,f2]
 ·obtain ⟨y,hy,rfl⟩ := List.mem_map.1 hx
  exact sm_cq (nx_sq h1k hg h y hy)
 ·obtain ⟨a,b,c⟩ := hg.wf f hf i hi
  exact ⟨a,b,Sm.mono c (by omega)⟩
theorem gvalue_l0 {t : List RNd} {row : List RC} {f : Int} {k : Nat} (hk : k ≤ 10000000000) (ht : t.length ≤ 100000) (hs : SmT t k) (hr : SmW row k) (hrg : t.any (bdR t.length f) = false) (hf : (row.length : Int) = f) : ∀ (d a b : Nat),a < t.length → walk t row d a = some b →
  LP FF [(4,1),(0,0),(1,0),(5,0)] [(4,1),(0,0),(5,0)] b284_0 [.ownp [.b false,.l 1 [],.l 1 []],.l 14 (t.map eNd),.l 4 (row.map eC),(AV.i .i64 ((a : Int)))] = some (.exit 0,[.ownp [.b false,.l 1 [],.l 1 []],.l 14 (t.map eNd),(AV.i .i64 ((b : Int)))]) := by
 intro d
 induction d with
 | zero =>
  intro a b ha h
  rw [walk] at h
  split at h
  ·rename_i hl
   cases h
   have c1 : (a : Int) < (t.length : Int) := by omega
   rw [LP_go FF b284_0.eq_1]
   simp only [RB,RL,un,St.none,za,zd,ze,zf,zb,zj,zk,zm,zn,zc,zg,zh,zi,↓reduceIte,reduceCtorEq,pack,pid,parN,lid,chkK,apartV,Heap.none,c1,hl,eNd_rules,eNd_row,eC_rules,eC_row,zq]
  ·cases h
 | succ d ih =>
  intro a b ha h
  have c1 : (a : Int) < (t.length : Int) := by omega
  have hmem := getD_mem' dNd ha
  cases hl : (t.getD a dNd).leaf with
  | true =>
   rw [walk,if_pos hl] at h
   cases h
   rw [LP_go FF b284_0.eq_1]
   simp only [RB,RL,un,St.none,za,zd,ze,zf,zb,zj,zk,zm,zn,zc,zg,zh,zi,↓reduceIte,reduceCtorEq,pack,pid,parN,lid,chkK,apartV,Heap.none,c1,hl,eNd_rules,eNd_row,eC_rules,eC_row,zq]
  | false =>
   rw [walk,if_neg (by rw [hl]; decide)] at h
   have hg := rng_of hrg hmem hl
   have hn : nextN (t.getD a dNd) row < t.length := by unfold nextN; split <;> omega
   have h9 := ih _ b hn h
   have hft : (t.getD a dNd).ft.toNat < row.length := by omega
   have f1 := ggoes_c (f := (t.getD a dNd).ft) (c := (t.getD a dNd).cut) (ls := dQ) (m := (t.getD a dNd).miss) (x := row.getD (t.getD a dNd).ft.toNat dC) (k := k) (j := k) (hs _ hmem).2.1 (hr _ (getD_mem' dC hft)) (by omega) (by omega)
   change R FF 262 _ = some (AV.b (goN (t.getD a dNd) row)) at f1
   have e : ((nextN (t.getD a dNd) row : Nat) : Int) = (if goN (t.getD a dNd) row then (t.getD a dNd).lft else (t.getD a dNd).rgt) := by unfold nextN; split <;> omega
   rw [e] at h9
   have q1 : 0 ≤ (t.getD a dNd).ft := by omega
   have q2 : (t.getD a dNd).ft < (row.length : Int) := by omega
   obtain ⟨x,hx⟩ : ∃ x,x = t.getD a dNd := ⟨_,rfl⟩
   rw [← hx] at f1 h9 q1 q2 hl hft
   generalize goN x row = g at *
   obtain ⟨nl,nf,nc,na,nb,nm,nv,nw⟩ := x
   simp only at hl
   subst hl
   simp only [eSp,eC,zR] at f1 h9 q1 q2 hft ⊢
   cases g
   ·rw [LP_go FF b284_0.eq_1]
    simp only [RB,RL,un,St.none,za,zd,ze,zf,zb,zj,zk,zm,zn,zc,zg,zh,zi,↓reduceIte,reduceCtorEq,pack,pid,parN,lid,chkK,apartV,Heap.none,c1,← hx,eNd_rules,eNd_row,eC_rules,eC_row,zq,f1,q1,q2,eNd,n64]
    exact h9
   ·rw [LP_go FF b284_0.eq_1]
    simp only [RB,RL,un,St.none,za,zd,ze,zf,zb,zj,zk,zm,zn,zc,zg,zh,zi,↓reduceIte,reduceCtorEq,pack,pid,parN,lid,chkK,apartV,Heap.none,c1,← hx,eNd_rules,eNd_row,eC_rules,eC_row,zq,f1,q1,q2,eNd,n64]
    exact h9
theorem gvalue_c {t : List RNd} {row : List RC} {f : Int} {k : Nat} (hk : k ≤ 10000000000) (h1 : 1 ≤ t.length) (ht : t.length ≤ 100000) (hs : SmT t k) (hr : SmW row k) (hv : VT t f) (hf : (row.length : Int) = f) (hc : ∀ x ∈ t,x.leaf = true → x.val = rQ (vQ x.val)) : R FF 284 [.l 14 (t.map eNd),.l 4 (row.map eC)] = some (AV.agg [AV.b (ng (zV ((valT t row)))),(AV.l 1 (List.map u (D (zM (zV ((valT t row))))))),(AV.l 1 (List.map u (D (Rat.den ((valT t row))))))]) := by
 obtain ⟨b,hb,hb1,hb2⟩ := walk_root hv.sh.par h1 row
 have l0 := gvalue_l0 hk ht hs hr hv.rg hf t.length 0 b (by omega) hb
 have e : valT t row = vQ (t.getD b dNd).val := by unfold valT; rw [hb]; rfl
 have c1 : (b : Int) < (t.length : Int) := by omega
 have ev := hc _ (getD_mem' dNd hb1) hb2
 rw [← e] at ev
 rw [zI] at l0
 have g1 : AV.agg [AV.b (t.getD b dNd).val.1,.l 1 ((t.getD b dNd).val.2.1.map u),.l 1 ((t.getD b dNd).val.2.2.map u)] = (AV.agg [AV.b (ng (zV ((valT t row)))),(AV.l 1 (List.map u (D (zM (zV ((valT t row))))))),(AV.l 1 (List.map u (D (Rat.den ((valT t row))))))]) := by rw [ev]; rfl
 rw [R_go FF F284 c284.eq_1]
 simp only [RB,RL,un,St.none,za,zd,ze,zf,zb,zj,zk,zm,zn,zc,zg,zh,zi,↓reduceIte,reduceCtorEq,pack,pid,parN,lid,chkK,apartV,Heap.none,l0,c1,eNd_rules,eNd_row,zq]
 exact congrArg some g1
theorem sc_val {ρ : Rat} {T : List RNd} : ∀ x ∈ scT ρ T,x.leaf = true → x.val = rQ (vQ x.val) := by
 intro x hx hl
 obtain ⟨y,hy,rfl⟩ := List.mem_map.1 hx
 have hy : y.leaf = true := (eqN_sc ρ y).leaf.trans hl
 unfold scN
 rw [if_pos hy]
 show rQ _ = rQ (vQ (rQ _))
 rw [vQ_rQ]
def scI (ρ : Rat) (t : List RNd) (i : Nat) : List RNd := scT ρ (t.take i) ++ t.drop i
theorem scI_len (ρ : Rat) (t : List RNd) (i : Nat) : (scI ρ t i).length = t.length := by
 unfold scI
 rw [zx,scT_len,zD,jd]; omega
theorem scI_get {ρ : Rat} {t : List RNd} {i : Nat} (h : i < t.length) : (scI ρ t i).getD i dNd = t.getD i dNd := by
 unfold scI
 rw [zo,jc (by rw [scT_len,zD]; omega),scT_len,zD,jh (by omega),Nat.sub_self,List.getElem?_drop,zo,Nat.add_zero]
theorem scI_set {ρ : Rat} {t : List RNd} {i : Nat} (h : i < t.length) : (scI ρ t i).set i (scN ρ (t.getD i dNd)) = scI ρ t (i + 1) := by
 unfold scI
 rw [List.set_append_right _ _ (by rw [scT_len,zD]; omega),scT_len,zD,jh (by omega),Nat.sub_self,List.drop_eq_getElem_cons h,List.set_cons_zero,List.take_add_one,zr h,zo,zr h]
 unfold scT
 rw [jb,List.append_assoc]
 rfl
theorem scI_same {ρ : Rat} {t : List RNd} {i : Nat} (h : i < t.length) (hl : (t.getD i dNd).leaf = false) : scI ρ t i = scI ρ t (i + 1) := by
 rw [← scI_set h,show scN ρ (t.getD i dNd) = t.getD i dNd by unfold scN; rw [hl]; rfl,← scI_get (ρ := ρ) h]
 have hi : i < (scI ρ t i).length := by rw [scI_len]; exact h
 rw [zo,zr hi,Option.getD_some,List.set_getElem_self]
theorem boost_l2 {f g tr j dep lst : Int} {rows : List (List RC)} {V : List RQt} {ts : List (List RNd)} {w : RQt} {T : List RNd} {k : Nat} (hk : k ≤ 40000000000) (hw : SmQ w 3) (hT : T.length ≤ 1000) (hs : SmT T k) : ∀ (n i : Nat),i + n = T.length →
  LP FF [(8,1),(11,4),(12,4),(13,1),(5,0),(7,0),(44,0),(45,0),(54,0),(55,0)] [(8,1),(11,4),(12,4),(5,0),(7,0),(13,0),(44,0),(45,0)] b276_2 [.ownp [(AV.i .i64 0),.l 1 []],.ownp [(AV.i .i64 f),.l 1 (rows.map eRw),.own true 3 (V.map eQ)],.ownp [(AV.i .i64 g),.own true 1 (ts.map eTr)],.own true 14 ((scI (vQ w) T i).map eNd),.tp [(AV.i .i64 dep),(AV.i .i64 lst)] 0,.tp [.b w.1,.l 1 (w.2.1.map u),.l 1 (w.2.2.map u)] 0,(AV.i .i64 tr),(AV.i .i64 j),(AV.i .i64 ((T.length : Int))),(AV.i .i64 ((i : Int)))] =
   some (.exit 2,[.ownp [(AV.i .i64 0),.l 1 []],.ownp [(AV.i .i64 f),.l 1 (rows.map eRw),.own true 3 (V.map eQ)],.ownp [(AV.i .i64 g),.own true 1 (ts.map eTr)],.tp [(AV.i .i64 dep),(AV.i .i64 lst)] 0,.tp [.b w.1,.l 1 (w.2.1.map u),.l 1 (w.2.2.map u)] 0,.l 14 ((scT (vQ w) T).map eNd),(AV.i .i64 tr),(AV.i .i64 j)]) := by
 intro n
 induction n with
 | zero =>
  intro i hi
  have c1 : ¬ (i : Int) < (T.length : Int) := by omega
  have mt : zQ V.length (List.map eQ V) = List.map eQ V := zp (by rw [zC]; exact zz _)
  have mt2 : zQ ts.length (List.map eTr ts) = List.map eTr ts := zp (by rw [zC]; exact zz _)
  rw [show scI (vQ w) T i = scT (vQ w) T by unfold scI; rw [show i = T.length by omega,zp (zz _),zW (zz _),List.append_nil]]
  generalize scT (vQ w) T = F at *
  rw [LP_go FF b276_2.eq_1]
  simp only [RB,RL,un,St.none,za,zd,ze,zf,zb,zj,zk,zm,zn,zc,zg,zh,zi,↓reduceIte,reduceCtorEq,pack,pid,parN,lid,chkK,apartV,Heap.none,c1,eNd_rules,eNd_row,eTr_rules,eTr_row,eQ_rules,eQ_row,eRw_rules,eRw_row,Row.freeze,nJ,nK,mt,mt2,zt]
 | succ n ih =>
  intro i hi
  have hlt : i < T.length := by omega
  have c1 : (i : Int) < (T.length : Int) := by omega
  have e2 : IntKind.i64.wrap ((i : Int) + 1) = ((i + 1 : Nat) : Int) := w64succ (by omega)
  have h9 := ih (i + 1) (by omega)
  have hmem := getD_mem' dNd hlt
  have hv := (hs _ hmem).2.2
  have hg := scI_get (ρ := vQ w) hlt
  have hset := scI_set (ρ := vQ w) hlt
  have hsame := scI_same (ρ := vQ w) hlt
  have hlen := scI_len (vQ w) T i
  have mt : zQ V.length (List.map eQ V) = List.map eQ V := zp (by rw [zC]; exact zz _)
  have mt2 : zQ ts.length (List.map eTr ts) = List.map eTr ts := zp (by rw [zC]; exact zz _)
  obtain ⟨x,hx⟩ : ∃ x,x = T.getD i dNd := ⟨_,rfl⟩
  rw [← hx] at hv hg hset hsame
  obtain ⟨xl,xf,xc,xa,xb,xm,xv,xw⟩ := x
  simp only at hv hsame
  have f1 := qmul_s (q := xv.1) (r := w.1) hv hw hk (by omega)
  change R FF 94 [(AV.agg [AV.b xv.1,(AV.l 1 (List.map u xv.2.1)),(AV.l 1 (List.map u xv.2.2))]),(AV.agg [AV.b w.1,(AV.l 1 (List.map u w.2.1)),(AV.l 1 (List.map u w.2.2))])] = some (AV.agg [AV.b (ng (zV ((vQ xv * vQ w)))),(AV.l 1 (List.map u (D (zM (zV ((vQ xv * vQ w))))))),(AV.l 1 (List.map u (D (Rat.den ((vQ xv * vQ w))))))]) at f1
  cases xl with
  | false =>
   rw [← hsame rfl] at h9
   generalize scI (vQ w) T i = A at *
   have c2 : (i : Int) < (A.length : Int) := by omega
   have m3 : zQ T.length A = A := zp (by omega)
   rw [LP_go FF b276_2.eq_1]
   simp only [RB,RL,un,St.none,za,zd,ze,zf,zb,zj,zk,zm,zn,zc,zg,zh,zi,↓reduceIte,reduceCtorEq,pack,pid,parN,lid,chkK,apartV,Heap.none,c1,c2,hg,hlen,eNd_rules,eNd_row,eNd,eTr_rules,eTr_row,eQ_rules,eQ_row,eRw_rules,eRw_row,nJ,nK,mt,mt2,zq,e2,hlt,m3]
   exact h9
  | true =>
   rw [show scN (vQ w) ⟨true,xf,xc,xa,xb,xm,xv,xw⟩ = ⟨true,xf,xc,xa,xb,xm,rQ (vQ xv * vQ w),xw⟩ from rfl] at hset
   generalize vQ xv * vQ w = v at *
   rw [← hset] at h9
   generalize scI (vQ w) T i = A at *
   have c2 : (i : Int) < (A.length : Int) := by omega
   have m1 : putC 14 (List.map eNd A) i 8 [AV.b (ng v.num),AV.l 1 (List.map u (D v.num.natAbs)),AV.l 1 (List.map u (D v.den))] = List.map eNd (A.set i ⟨true,xf,xc,xa,xb,xm,rQ v,xw⟩) := by
    have hg2 : (List.map eNd A).getD i [] = eNd ⟨true,xf,xc,xa,xb,xm,xv,xw⟩ := by
     rw [← hg,zo,List.getElem?_map,zo,zr (by omega)]; rfl
    rw [putC,if_neg (show ¬ (8 = 0 ∧ _) from fun h => absurd h.1 (by decide)),hg2,List.map_set]
    rfl
   have m4 : zQ T.length (List.map eNd (A.set i ⟨true,xf,xc,xa,xb,xm,rQ v,xw⟩)) = List.map eNd (A.set i ⟨true,xf,xc,xa,xb,xm,rQ v,xw⟩) := zp (by rw [zC,zU]; omega)
   rw [LP_go FF b276_2.eq_1]
   simp only [RB,RL,un,St.none,za,zd,ze,zf,zb,zj,zk,zm,zn,zc,zg,zh,zi,↓reduceIte,reduceCtorEq,pack,pid,parN,lid,chkK,apartV,Heap.none,c1,c2,hg,hlen,eNd_rules,eNd_row,eNd,eTr_rules,eTr_row,eQ_rules,eQ_row,eRw_rules,eRw_row,nJ,nK,mt,mt2,zq,e2,f1,m1,m4,hlt]
   exact h9
def lfI (L : List Rat) (V : List RQt) (i : Nat) : List RQt := (L.take i).map rQ ++ V.drop i
theorem lfI_len {L : List Rat} {V : List RQt} (h : L.length = V.length) (i : Nat) : (lfI L V i).length = V.length := by
 unfold lfI
 rw [zx,zC,zD,jd]; omega
theorem lfI_get {L : List Rat} {V : List RQt} {i : Nat} (h : L.length = V.length) (hi : i < V.length) : (lfI L V i).getD i dQ = V.getD i dQ := by
 unfold lfI
 rw [zo,jc (by rw [zC,zD]; omega),zC,zD,jh (by omega),Nat.sub_self,List.getElem?_drop,zo,Nat.add_zero]
theorem lfI_set {L : List Rat} {V : List RQt} {i : Nat} (h : L.length = V.length) (hi : i < V.length) : (lfI L V i).set i (rQ (L.getD i 0)) = lfI L V (i + 1) := by
 unfold lfI
 rw [List.set_append_right _ _ (by rw [zC,zD]; omega),zC,zD,jh (by omega),Nat.sub_self,List.drop_eq_getElem_cons hi,List.set_cons_zero,List.take_add_one,zr (show i < L.length by omega),jb,List.append_assoc,zo,zr (show i < L.length by omega)]
 rfl
theorem nxV_get {d : RD} {T : List RNd} {i : Nat} (hi : i < d.2.1.length) : (nxV d T).getD i 0 = vQ (d.2.2.getD i dQ) - valT T (d.2.1.getD i []) := by
 unfold nxV
 rw [zo,List.getElem?_map,List.getElem?_range hi]; rfl
theorem boost_l1 {g tr j dep lst : Int} {d : RD} {ts : List (List RNd)} {w : RQt} {T : List RNd} {k kT : Nat} (hk : k ≤ 40000000000) (hkT : kT ≤ 10000000000) (hw : SmQ w 3) (hT : T.length ≤ 1000) (hT1 : 1 ≤ T.length) (hs : SmT T kT) (hV : SmL d.2.2 k) (hl : d.2.1.length = d.2.2.length) (hl9 : d.2.1.length ≤ 900) (hr : ∀ r ∈ d.2.1,SmW r kT ∧ (r.length : Int) = d.1) (hv : VT T d.1) (h1k : 1 ≤ kT) (hc : ∀ x ∈ T,x.leaf = true → x.val = rQ (vQ x.val)) : ∀ (n i : Nat),i + n = d.2.1.length →
  LP FF [(8,1),(11,4),(12,4),(5,0),(7,0),(13,0),(44,0),(45,0),(76,0),(77,0),(78,0)] [(8,1),(11,4),(12,4),(5,0),(7,0),(13,0),(44,0),(45,0)] b276_1 [.ownp [(AV.i .i64 0),.l 1 []],.ownp [(AV.i .i64 d.1),.l 1 (d.2.1.map eRw),.own true 3 ((lfI (nxV d T) d.2.2 i).map eQ)],.ownp [(AV.i .i64 g),.own true 1 (ts.map eTr)],.tp [(AV.i .i64 dep),(AV.i .i64 lst)] 0,.tp [.b w.1,.l 1 (w.2.1.map u),.l 1 (w.2.2.map u)] 0,.l 14 (T.map eNd),(AV.i .i64 tr),(AV.i .i64 j),.l 1 (d.2.1.map eRw),(AV.i .i64 ((d.2.1.length : Int))),(AV.i .i64 ((i : Int)))] =
   some (.exit 4,[.ownp [(AV.i .i64 0),.l 1 []],.ownp [(AV.i .i64 d.1),.l 1 (d.2.1.map eRw),.own true 3 (((nxV d T).map rQ).map eQ)],.ownp [(AV.i .i64 g),.own true 1 (ts.map eTr)],.tp [(AV.i .i64 dep),(AV.i .i64 lst)] 0,.tp [.b w.1,.l 1 (w.2.1.map u),.l 1 (w.2.2.map u)] 0,.l 14 (T.map eNd),(AV.i .i64 tr),(AV.i .i64 j)]) := by
 have hL := nxV_len d T
 have hget := fun i hi => nxV_get (d := d) (T := T) (i := i) hi
 obtain ⟨f,rows,V⟩ := d
 have hV : SmL V k := hV
 have hl : rows.length = V.length := hl
 have hl9 : rows.length ≤ 900 := hl9
 have hr : ∀ r ∈ rows,SmW r kT ∧ (r.length : Int) = f := hr
 have hL : (nxV (f,rows,V) T).length = rows.length := hL
 have hget : ∀ i,i < rows.length → (nxV (f,rows,V) T).getD i 0 = vQ (V.getD i dQ) - valT T (rows.getD i []) := hget
 have mt2 : zQ ts.length (List.map eTr ts) = List.map eTr ts := zp (by rw [zC]; exact zz _)
 generalize nxV (f,rows,V) T = L at *
 intro n
 induction n with
 | zero =>
  intro i hi
  have hi : i + 0 = rows.length := hi
  have c1 : ¬ (i : Int) < (rows.length : Int) := by omega
  rw [show lfI L V i = L.map rQ by unfold lfI; rw [show i = L.length by omega,zp (zz _),zW (by omega),List.append_nil]]
  have hF : (L.map rQ).length = L.length := zC ..
  generalize L.map rQ = F at *
  have mt : zQ L.length (List.map eQ F) = List.map eQ F := zp (by rw [zC]; omega)
  rw [LP_go FF b276_1.eq_1]
  simp only [RB,RL,un,St.none,za,zd,ze,zf,zb,zj,zk,zm,zn,zc,zg,zh,zi,↓reduceIte,reduceCtorEq,pack,pid,parN,lid,chkK,apartV,Heap.none,c1,eNd_rules,eNd_row,eTr_rules,eTr_row,eQ_rules,eQ_row,eRw_rules,eRw_row,Row.freeze,nJ,nK,mt,mt2,hF,zt]
 | succ n ih =>
  intro i hi
  have hi : i + (n + 1) = rows.length := hi
  have hlt : i < V.length := by omega
  have c1 : (i : Int) < (rows.length : Int) := by omega
  have c2 : (i : Int) < (V.length : Int) := by omega
  have e2 : IntKind.i64.wrap ((i : Int) + 1) = ((i + 1 : Nat) : Int) := w64succ (by omega)
  have h9 := ih (i + 1) (by show i + 1 + n = rows.length; omega)
  have hx := hr _ (getD_mem' ([] : List RC) (show i < rows.length by omega))
  have f1 := gvalue_c (t := T) (row := rows.getD i []) (by omega) hT1 (by omega) hs hx.1 hv hx.2 hc
  have hv1 := hV _ (getD_mem' dQ hlt)
  have hsq := valT_sq (row := rows.getD i []) h1k hT1 hs hv
  have f2 := qsub_s (q := (V.getD i dQ).1) (r := ng (valT T (rows.getD i [])).num) hv1 (sm_cq hsq) hk (by omega)
  change R FF 55 [_,(AV.agg [AV.b (ng (zV ((valT T (rows.getD i []))))),(AV.l 1 (List.map u (D (zM (zV ((valT T (rows.getD i [])))))))),(AV.l 1 (List.map u (D (Rat.den ((valT T (rows.getD i [])))))))])] = some (AV.agg [AV.b (ng (zV ((vQ (V.getD i dQ) - vQ (rQ (valT T (rows.getD i []))))))),(AV.l 1 (List.map u (D (zM (zV ((vQ (V.getD i dQ) - vQ (rQ (valT T (rows.getD i [])))))))))),(AV.l 1 (List.map u (D (Rat.den ((vQ (V.getD i dQ) - vQ (rQ (valT T (rows.getD i [])))))))))]) at f2
  rw [vQ_rQ,← hget i (by omega)] at f2
  have hg := lfI_get (L := L) (V := V) (by omega) hlt
  have hset := lfI_set (L := L) (V := V) (by omega) hlt
  have hlen := lfI_len (L := L) (V := V) (by omega) i
  generalize valT T (rows.getD i []) = y at *
  generalize L.getD i 0 = z at *
  rw [← hset] at h9
  generalize lfI L V i = A at *
  have hpc := eQ_row.2.2.2.1 A i (rQ z)
  change putC 3 (A.map eQ) i 0 [AV.b (ng z.num),AV.l 1 (List.map u (D z.num.natAbs)),AV.l 1 (List.map u (D z.den))] = _ at hpc
  have hlen2 : (A.set i (rQ z)).length = V.length := by rw [zU]; exact hlen
  have mt : zQ V.length (List.map eQ (A.set i (rQ z))) = List.map eQ (A.set i (rQ z)) := zp (by rw [zC]; omega)
  rw [LP_go FF b276_1.eq_1]
  simp only [RB,RL,un,St.none,za,zd,ze,zf,zb,zj,zk,zm,zn,zc,zg,zh,zi,↓reduceIte,reduceCtorEq,pack,pid,parN,lid,chkK,apartV,Heap.none,c1,c2,hg,hlen,hlen2,eNd_rules,eNd_row,eTr_rules,eTr_row,eQ_rules,eQ_row,eRw_rules,eRw_row,nJ,nK,mt,mt2,zq,e2,f1,f2,hpc,hlt,zt]
  exact h9
def tsP (r : RR) (ρ : Rat) : Nat → RD → List (List RNd)
 | 0,_ => []
 | n + 1,d => scT ρ (trP d r) :: tsP r ρ n (nxD d r ρ)
def fine : Nat → Nat → Prop
 | 0,_ => True
 | n + 1,k => 3 ≤ k ∧ k ≤ 300 ∧ fine n (7 * k + 13)
theorem tsP_len (r : RR) (ρ : Rat) : ∀ (n : Nat) (d : RD),(tsP r ρ n d).length = n := by
 intro n
 induction n with
 | zero => intro d; rfl
 | succ n ih => intro d; rw [tsP,zF,ih]
theorem okg_rows {d : RD} {r : RR} {k j : Nat} (h : OkG d r k) (hj : k ≤ j) : ∀ x ∈ d.2.1,SmW x j ∧ (x.length : Int) = d.1 := by
 intro x hx
 obtain ⟨f1,f2,f3,f4⟩ := h.facts
 have hx4 := f4 x hx
 refine ⟨fun c hc => ?_,hx4⟩
 obtain ⟨i,hi,rfl⟩ := List.getElem_of_mem hx
 obtain ⟨f,hf,rfl⟩ := List.getElem_of_mem hc
 obtain ⟨_,_,h9⟩ := h.wf f (by omega) i (List.mem_range.2 hi)
 have e : cellD d.2.1 f i = d.2.1[i][f] := by
  unfold cellD
  rw [zo (l := d.2.1),zr hi,Option.getD_some,zo,zr hf,Option.getD_some]
 rw [e] at h9
 exact Sm.mono h9 hj
theorem lis_Nd (T : List RNd) : ((T.map eNd).all fun r => r.all liC) = true := by
 rw [List.all_eq_true]
 intro x hx
 obtain ⟨y,_,rfl⟩ := List.mem_map.1 hx
 have hu : ∀ l : List Int,liC (.l 1 (l.map u)) = true := by
  intro l
  cases l with
  | nil => rfl
  | cons a l =>
   refine (Bool.true_and _).trans (List.all_eq_true.2 fun z hz => ?_)
   obtain ⟨a',_,rfl⟩ := List.mem_map.1 hz
   rfl
 simp only [eNd,List.all_cons,List.all_nil,hu,Bool.and_true,Bool.true_and]
 rfl
theorem nis_Q (V : List RQt) : ((V.map eQ).all fun r => r.all niC) = true := by
 rw [List.all_eq_true]
 intro x hx
 obtain ⟨y,_,rfl⟩ := List.mem_map.1 hx
 rfl
theorem boost_l0 {tr dep lst : Int} {w : RQt} (hw : SmQ w 3) (htr : tr ≤ 64) : ∀ (n : Nat) (d : RD) (k : Nat) (ts : List (List RNd)),fine n k → OkG d (dep,lst) k → (ts.length : Int) + n = tr →
  LP FF [(8,1),(11,4),(12,4),(5,0),(7,0),(44,0),(45,0)] [(8,1),(12,0)] b276_0 [.ownp [(AV.i .i64 0),.l 1 []],.ownp [(AV.i .i64 d.1),.l 1 (d.2.1.map eRw),.own true 3 (d.2.2.map eQ)],.ownp [(AV.i .i64 d.1),.own true 1 (ts.map eTr)],.tp [(AV.i .i64 dep),(AV.i .i64 lst)] 0,.tp [.b w.1,.l 1 (w.2.1.map u),.l 1 (w.2.2.map u)] 0,(AV.i .i64 tr),(AV.i .i64 ((ts.length : Int)))] =
   some (.exit 0,[.ownp [(AV.i .i64 0),.l 1 []],.tp [(AV.i .i64 d.1),.l 1 ((ts ++ tsP (dep,lst) (vQ w) n d).map eTr)] 0]) := by
 intro n
 induction n with
 | zero =>
  intro d k ts hf hg he
  have c1 : ¬ (ts.length : Int) < tr := by omega
  have mt : zQ d.2.2.length (List.map eQ d.2.2) = List.map eQ d.2.2 := zp (by rw [zC]; exact zz _)
  have mt2 : zQ ts.length (List.map eTr ts) = List.map eTr ts := zp (by rw [zC]; exact zz _)
  rw [show ts ++ tsP (dep,lst) (vQ w) 0 d = ts from List.append_nil _]
  obtain ⟨f,rows,V⟩ := d
  simp only at mt ⊢
  rw [LP_go FF b276_0.eq_1]
  simp only [RB,RL,un,St.none,za,zd,ze,zf,zb,zj,zk,zm,zn,zc,zg,zh,zi,↓reduceIte,reduceCtorEq,pack,pid,parN,lid,chkK,apartV,Heap.none,c1,eNd_rules,eNd_row,eTr_rules,eTr_row,eQ_rules,eQ_row,eRw_rules,eRw_row,Row.freeze,nJ,nK,mt,mt2,zt]
 | succ n ih =>
  intro d k ts hf hg he
  obtain ⟨k1,k2,k3⟩ := hf
  have c1 : (ts.length : Int) < tr := by omega
  have e2 : IntKind.i64.wrap ((ts.length : Int) + 1) = ((ts.length + 1 : Nat) : Int) := w64succ (by omega)
  have hρ : sq (vQ w) ≤ 3 := vQ_sq hw (by omega)
  obtain ⟨g1,g2,g3,g4⟩ := hg.facts
  have h6 := hg.n
  have rn := rnd_ok (ρ := vQ w) k2 k1 hg hρ
  have h9 := ih (nxD d (dep,lst) (vQ w)) (7 * k + 13) (ts ++ [scT (vQ w) (trP d (dep,lst))]) k3 (nx_ok (by omega) hg rn) (by rw [zx,jg]; omega)
  have f1 := Tree9_c k2 k1 hg
  obtain ⟨_,_,_,h2⟩ := trP9_sub k2 k1 hg
  have hsT : SmT (trP d (dep,lst)) (6 * k + 12) := by
   have hsm := All2.left (Q := fun x => SmQ x.cov (6 * k + 12) ∧ SmQ x.cut (6 * k + 12) ∧ SmQ x.val (6 * k + 12)) (fun x y (hxy : Two d.2.2 k x y) => by
    have hcov : ∀ l : List Nat,l.length ≤ 6 → SmQ (rQ (((l.length : Nat) : Int) : Rat)) (6 * k + 12) := fun l hn => sm_cq (zE (sq_int (l.length : Int) (by omega)) (by omega))
    rcases hxy with ⟨l,_,hn,hl,rfl,rfl⟩ | ⟨l,f,c,m,a,b,_,hn,hc,rfl,rfl⟩
    ·have h1 := mean_sq (by omega) hg.hV hl hn
     exact ⟨hcov l hn,SmQ_dQ _,sm_cq (by omega)⟩
    ·exact ⟨hcov l hn,sm_cq (zE (vQ_sq hc (by omega)) (by omega)),SmQ_dQ _⟩) h2
   exact hsm
  have l2 := boost_l2 (f := d.1) (g := d.1) (tr := tr) (j := (ts.length : Int)) (dep := dep) (lst := lst) (rows := d.2.1) (V := d.2.2) (ts := ts) (k := 6 * k + 12) (by omega) hw (by have := rn.len; omega) hsT (trP d (dep,lst)).length 0 (by omega)
  have l1 := boost_l1 (g := d.1) (tr := tr) (j := (ts.length : Int)) (dep := dep) (lst := lst) (d := d) (ts := ts) (T := scT (vQ w) (trP d (dep,lst))) (k := k) (kT := 6 * k + 12) (by omega) (by omega) hw (by have := rn.len; rw [scT_len]; omega) (by rw [scT_len]; exact rn.one) rn.smP hg.hV g2 (by omega) (okg_rows hg (by omega)) (rn.vmP.all _ (List.mem_singleton.2 rfl)) (by omega) sc_val d.2.1.length 0 (by omega)
  rw [zI,show scI (vQ w) (trP d (dep,lst)) 0 = trP d (dep,lst) from rfl] at l2
  rw [zI,show lfI (nxV d (scT (vQ w) (trP d (dep,lst)))) d.2.2 0 = d.2.2 from rfl] at l1
  rw [show ts ++ tsP (dep,lst) (vQ w) (n + 1) d = ts ++ [scT (vQ w) (trP d (dep,lst))] ++ tsP (dep,lst) (vQ w) n (nxD d (dep,lst) (vQ w)) by rw [List.append_assoc]; rfl]
  have hz : (nxD d (dep,lst) (vQ w)).2.2 = (nxV d (scT (vQ w) (trP d (dep,lst)))).map rQ := rfl
  have hz1 : (nxD d (dep,lst) (vQ w)).1 = d.1 := rfl
  have hz2 : (nxD d (dep,lst) (vQ w)).2.1 = d.2.1 := rfl
  rw [hz1,hz2,hz,zx,jg] at h9
  have hnl := nxV_len d (scT (vQ w) (trP d (dep,lst)))
  generalize tsP (dep,lst) (vQ w) n (nxD d (dep,lst) (vQ w)) = R at *
  generalize scT (vQ w) (trP d (dep,lst)) = T' at *
  generalize trP d (dep,lst) = T at *
  have hF : ((nxV d T').map rQ).length = d.2.1.length := by rw [zC]; exact hnl
  generalize (nxV d T').map rQ = F at *
  have hli := lis_Nd T
  have hni := nis_Q d.2.2
  obtain ⟨f,rows,V⟩ := d
  simp only [eD,eR] at f1 l1 l2 h9 hF hni g2 ⊢
  have b2 : (ts.length + 1) * 24 ≤ 140737488355328 := by omega
  have mt : zQ V.length (List.map eQ V) = List.map eQ V := zp (by rw [zC]; exact zz _)
  have mt2 : zQ ts.length (List.map eTr ts) = List.map eTr ts := zp (by rw [zC]; exact zz _)
  have mt3 : zQ rows.length (List.map eQ F) = List.map eQ F := zp (by rw [zC]; omega)
  have mt4 : zQ T.length (List.map eNd T) = List.map eNd T := zp (by rw [zC]; exact zz _)
  have m2 : zQ (ts.length + 1) (ts ++ [T']) = ts ++ [T'] := zp (by rw [zx]; exact zz _)
  have m1 : List.map eTr ts ++ [[AV.l 14 (T'.map eNd)]] = List.map eTr (ts ++ [T']) := by rw [jb (f := eTr)]; rfl
  rw [LP_go FF b276_0.eq_1]
  simp only [RB,RL,un,St.none,za,zd,ze,zf,zb,zj,zk,zm,zn,zc,zg,zh,zi,↓reduceIte,reduceCtorEq,pack,pid,parN,lid,chkK,apartV,Heap.none,c1,f1,l1,l2,hli,hni,hF,eNd_rules,eNd_row,eTr_rules,eTr_row,eQ_rules,eQ_row,eRw_rules,eRw_row,Row.freeze,nJ,nK,mt,mt2,mt3,mt4,m1,m2,b2,e2,n64,zq,zt]
  exact h9
theorem boost_c {d : RD} {r : RR} {tr : Int} {w : RQt} {k : Nat} (hw : SmQ w 3) (ht : 0 ≤ tr ∧ tr ≤ 64) (hf : fine tr.toNat k) (hg : OkG d r k) : R FF 276 [.agg (eD d),.agg (eR r),(AV.i .i64 tr),.agg (eQ w)] = some (.tup [.agg (eM (d.1,tsP r (vQ w) tr.toNat d)),(AV.i .i64 0)]) := by
 have f1 := gright_c (d := d) (r := r) (by have := hg.n; omega)
 rw [hg.rt] at f1
 have h6 := hg.n
 obtain ⟨g1,g2,g3,g4⟩ := hg.facts
 obtain ⟨dep,lst⟩ := r
 have l0 := boost_l0 (tr := tr) (w := w) hw ht.2 tr.toNat d k [] hf hg (by show ((0 : Nat) : Int) + _ = _; omega)
 have em : ∀ ts : List (List RNd),eM (d.1,ts) = [AV.i .i64 d.1,AV.l 1 (ts.map eTr)] := fun _ => rfl
 rw [em]
 rw [List.nil_append,List.length_nil,zI] at l0
 generalize tsP (dep,lst) (vQ w) tr.toNat d = R at *
 obtain ⟨f,rows,V⟩ := d
 have g2 : rows.length = V.length := g2
 have h6 : rows.length ≤ 6 := h6
 simp only [eD,eR,eQ,zR] at f1 l0 ⊢
 have c1 : ¬ tr < 0 := by omega
 have c2 : ¬ 64 < tr := by omega
 have b1 : (0 + V.length) * 56 ≤ 140737488355328 := by omega
 have b2 : V.length * 56 ≤ 140737488355328 := by omega
 have mt : zQ V.length (List.map eQ V) = List.map eQ V := zp (by rw [zC]; exact zz _)
 rw [R_go FF F276 c276.eq_1]
 simp only [RB,RL,un,St.none,za,zd,ze,zf,zb,zj,zk,zm,zn,zc,zg,zh,zi,↓reduceIte,reduceCtorEq,pack,pid,parN,lid,chkK,apartV,Heap.none,f1,l0,c1,c2,b1,b2,mt,eQ_rules,eQ_row,eRw_rules,eRw_row,eTr_rules,eTr_row,Row.freeze,nJ,nK,n64,List.nil_append,zX,zt]
theorem boost_bad {d : RD} {r : RR} {tr : Int} {w : RQt} (hd : d.2.1.length ≤ 1000) (h : rtV d r ≠ 0 ∨ tr < 0 ∨ 64 < tr) : R FF 276 [.agg (eD d),.agg (eR r),(AV.i .i64 tr),.agg (eQ w)] = some (.tup [.agg [(AV.i .i64 0),.l 1 []],(AV.i .i64 ((if rtV d r = 0 then 16 else rtV d r)))]) := by
 have f1 := gright_c (d := d) (r := r) hd
 by_cases h0 : rtV d r = 0
 ·rw [h0] at f1
  rw [if_pos h0]
  obtain ⟨dep,lst⟩ := r
  obtain ⟨f,rows,V⟩ := d
  simp only [eD,eR,eQ] at f1 ⊢
  by_cases c1 : tr < 0
  ·rw [R_go FF F276 c276.eq_1]
   simp only [RB,RL,un,St.none,za,zd,ze,zf,zb,zj,zk,zm,zn,zc,zg,zh,zi,↓reduceIte,reduceCtorEq,pack,pid,parN,lid,chkK,apartV,Heap.none,f1,c1,n64,Row.freeze]
  ·have c2 : 64 < tr := by omega
   rw [R_go FF F276 c276.eq_1]
   simp only [RB,RL,un,St.none,za,zd,ze,zf,zb,zj,zk,zm,zn,zc,zg,zh,zi,↓reduceIte,reduceCtorEq,pack,pid,parN,lid,chkK,apartV,Heap.none,f1,c1,c2,n64,Row.freeze]
 ·rw [if_neg h0]
  generalize rtV d r = v at *
  obtain ⟨dep,lst⟩ := r
  obtain ⟨f,rows,V⟩ := d
  simp only [eD,eR,eQ] at f1 ⊢
  rw [R_go FF F276 c276.eq_1]
  simp only [RB,RL,un,St.none,za,zd,ze,zf,zb,zj,zk,zm,zn,zc,zg,zh,zi,↓reduceIte,reduceCtorEq,pack,pid,parN,lid,chkK,apartV,Heap.none,f1,h0,n64,Row.freeze]
theorem Boosts_l2 {d : RD} {r : RR} {m : RM} {tr j : Int} {w : RQt} {T : List RNd} {k : Nat} (hk : k ≤ 40000000000) (hw : SmQ w 3) (hT : T.length ≤ 1000) (hs : SmT T k) : ∀ (n i : Nat),i + n = T.length →
  LP FF [(4,1),(13,1),(2,0),(5,0),(7,0),(9,0),(12,0),(14,0)] [(4,1),(2,0),(5,0),(7,0),(9,0),(12,0),(13,0)] b268_2 [.ownp [(AV.i .i64 d.1),.l 1 (d.2.1.map eRw),.l 3 (d.2.2.map eQ)],.own true 14 ((scI (vQ w) T i).map eNd),(AV.i .i64 tr),.tp [(AV.i .i64 r.1),(AV.i .i64 r.2)] 0,.tp [.b w.1,.l 1 (w.2.1.map u),.l 1 (w.2.2.map u)] 0,.tp [(AV.i .i64 m.1),.l 1 (m.2.map eTr)] 0,(AV.i .i64 j),(AV.i .i64 ((i : Int)))] =
   some (.exit 2,[.ownp [(AV.i .i64 d.1),.l 1 (d.2.1.map eRw),.l 3 (d.2.2.map eQ)],(AV.i .i64 tr),.tp [(AV.i .i64 r.1),(AV.i .i64 r.2)] 0,.tp [.b w.1,.l 1 (w.2.1.map u),.l 1 (w.2.2.map u)] 0,.tp [(AV.i .i64 m.1),.l 1 (m.2.map eTr)] 0,(AV.i .i64 j),.l 14 ((scT (vQ w) T).map eNd)]) := by
 obtain ⟨f,rows,V⟩ := d
 obtain ⟨dep,lst⟩ := r
 obtain ⟨g,ts⟩ := m
 intro n
 induction n with
 | zero =>
  intro i hi
  have c1 : ¬ (i : Int) < (T.length : Int) := by omega
  rw [show scI (vQ w) T i = scT (vQ w) T by unfold scI; rw [show i = T.length by omega,zp (zz _),zW (zz _),List.append_nil]]
  have hlen := scT_len (vQ w) T
  generalize scT (vQ w) T = F at *
  have mt : zQ T.length (List.map eNd F) = List.map eNd F := zp (by rw [zC]; omega)
  rw [LP_go FF b268_2.eq_1]
  simp only [RB,RL,un,St.none,za,zd,ze,zf,zb,zj,zk,zm,zn,zc,zg,zh,zi,↓reduceIte,reduceCtorEq,pack,pid,parN,lid,chkK,apartV,Heap.none,c1,hlen,mt,eNd_rules,eNd_row,eTr_rules,eTr_row,eQ_rules,eQ_row,eRw_rules,eRw_row,Row.freeze,zt]
 | succ n ih =>
  intro i hi
  have hlt : i < T.length := by omega
  have c1 : (i : Int) < (T.length : Int) := by omega
  have e2 : IntKind.i64.wrap ((i : Int) + 1) = ((i + 1 : Nat) : Int) := w64succ (by omega)
  have h9 := ih (i + 1) (by omega)
  have hmem := getD_mem' dNd hlt
  have hv := (hs _ hmem).2.2
  have hg := scI_get (ρ := vQ w) hlt
  have hset := scI_set (ρ := vQ w) hlt
  have hsame := scI_same (ρ := vQ w) hlt
  have hlen := scI_len (vQ w) T i
  obtain ⟨x,hx⟩ : ∃ x,x = T.getD i dNd := ⟨_,rfl⟩
  rw [← hx] at hv hg hset hsame
  obtain ⟨xl,xf,xc,xa,xb,xm,xv,xw⟩ := x
  simp only at hv hsame
  have f1 := qmul_s (q := xv.1) (r := w.1) hv hw hk (by omega)
  change R FF 94 [(AV.agg [AV.b xv.1,(AV.l 1 (List.map u xv.2.1)),(AV.l 1 (List.map u xv.2.2))]),(AV.agg [AV.b w.1,(AV.l 1 (List.map u w.2.1)),(AV.l 1 (List.map u w.2.2))])] = some (AV.agg [AV.b (ng (zV ((vQ xv * vQ w)))),(AV.l 1 (List.map u (D (zM (zV ((vQ xv * vQ w))))))),(AV.l 1 (List.map u (D (Rat.den ((vQ xv * vQ w))))))]) at f1
  cases xl with
  | false =>
   rw [← hsame rfl] at h9
   generalize scI (vQ w) T i = A at *
   have c2 : (i : Int) < (A.length : Int) := by omega
   have m3 : zQ T.length A = A := zp (by omega)
   rw [LP_go FF b268_2.eq_1]
   simp only [RB,RL,un,St.none,za,zd,ze,zf,zb,zj,zk,zm,zn,zc,zg,zh,zi,↓reduceIte,reduceCtorEq,pack,pid,parN,lid,chkK,apartV,Heap.none,c1,c2,hg,hlen,eNd_rules,eNd_row,eNd,eTr_rules,eTr_row,eQ_rules,eQ_row,eRw_rules,eRw_row,zq,e2,hlt,m3]
   exact h9
  | true =>
   rw [show scN (vQ w) ⟨true,xf,xc,xa,xb,xm,xv,xw⟩ = ⟨true,xf,xc,xa,xb,xm,rQ (vQ xv * vQ w),xw⟩ from rfl] at hset
   generalize vQ xv * vQ w = v at *
   rw [← hset] at h9
   generalize scI (vQ w) T i = A at *
   have c2 : (i : Int) < (A.length : Int) := by omega
   have m1 : putC 14 (List.map eNd A) i 8 [AV.b (ng v.num),AV.l 1 (List.map u (D v.num.natAbs)),AV.l 1 (List.map u (D v.den))] = List.map eNd (A.set i ⟨true,xf,xc,xa,xb,xm,rQ v,xw⟩) := by
    have hg2 : (List.map eNd A).getD i [] = eNd ⟨true,xf,xc,xa,xb,xm,xv,xw⟩ := by
     rw [← hg,zo,List.getElem?_map,zo,zr (by omega)]; rfl
    rw [putC,if_neg (show ¬ (8 = 0 ∧ _) from fun h => absurd h.1 (by decide)),hg2,List.map_set]
    rfl
   have m4 : zQ T.length (List.map eNd (A.set i ⟨true,xf,xc,xa,xb,xm,rQ v,xw⟩)) = List.map eNd (A.set i ⟨true,xf,xc,xa,xb,xm,rQ v,xw⟩) := zp (by rw [zC,zU]; omega)
   rw [LP_go FF b268_2.eq_1]
   simp only [RB,RL,un,St.none,za,zd,ze,zf,zb,zj,zk,zm,zn,zc,zg,zh,zi,↓reduceIte,reduceCtorEq,pack,pid,parN,lid,chkK,apartV,Heap.none,c1,c2,hg,hlen,eNd_rules,eNd_row,eNd,eTr_rules,eTr_row,eQ_rules,eQ_row,eRw_rules,eRw_row,zq,e2,f1,m1,m4,hlt]
   exact h9
theorem Boosts_l1 {d : RD} {r : RR} {m : RM} {tr j : Int} {w : RQt} {T : List RNd} {k : Nat} (hk : k ≤ 1000000) (h1k : 1 ≤ k) (hT : T.length ≤ 1000) (hT1 : 1 ≤ T.length) (hs : SmT T k) (hV : SmL d.2.2 k) (hl : d.2.1.length = d.2.2.length) (hl9 : d.2.1.length ≤ 900) (hr : ∀ r ∈ d.2.1,SmW r k ∧ (r.length : Int) = d.1) (hv : VM (d.1,[T])) : ∀ (n i : Nat),i + n = d.2.1.length →
  LP FF [(4,1),(15,4),(2,0),(5,0),(7,0),(9,0),(12,0),(13,0),(16,0)] [(4,1),(2,0),(5,0),(7,0),(9,0),(12,0),(15,0)] b268_1 [.ownp [(AV.i .i64 d.1),.l 1 (d.2.1.map eRw),.l 3 (d.2.2.map eQ)],.ownp [(AV.i .i64 d.1),.l 1 (d.2.1.map eRw),.own true 3 ((((nxV d T).take i).map rQ).map eQ)],(AV.i .i64 tr),.tp [(AV.i .i64 r.1),(AV.i .i64 r.2)] 0,.tp [.b w.1,.l 1 (w.2.1.map u),.l 1 (w.2.2.map u)] 0,.tp [(AV.i .i64 m.1),.l 1 (m.2.map eTr)] 0,(AV.i .i64 j),.l 14 (T.map eNd),(AV.i .i64 ((i : Int)))] =
   some (.exit 4,[.ownp [(AV.i .i64 d.1),.l 1 (d.2.1.map eRw),.l 3 (d.2.2.map eQ)],(AV.i .i64 tr),.tp [(AV.i .i64 r.1),(AV.i .i64 r.2)] 0,.tp [.b w.1,.l 1 (w.2.1.map u),.l 1 (w.2.2.map u)] 0,.tp [(AV.i .i64 m.1),.l 1 (m.2.map eTr)] 0,(AV.i .i64 j),.tp [(AV.i .i64 d.1),.l 1 (d.2.1.map eRw),.l 3 (((nxV d T).map rQ).map eQ)] 0]) := by
 have hL := nxV_len d T
 have hget := fun i hi => nxV_get (d := d) (T := T) (i := i) hi
 obtain ⟨f,rows,V⟩ := d
 obtain ⟨dep,lst⟩ := r
 obtain ⟨g,ts⟩ := m
 have hV : SmL V k := hV
 have hl : rows.length = V.length := hl
 have hl9 : rows.length ≤ 900 := hl9
 have hr : ∀ r ∈ rows,SmW r k ∧ (r.length : Int) = f := hr
 have hL : (nxV (f,rows,V) T).length = rows.length := hL
 have hget : ∀ i,i < rows.length → (nxV (f,rows,V) T).getD i 0 = vQ (V.getD i dQ) - valT T (rows.getD i []) := hget
 have hv : VM (f,[T]) := hv
 generalize nxV (f,rows,V) T = L at *
 intro n
 induction n with
 | zero =>
  intro i hi
  have hi : i + 0 = rows.length := hi
  have c1 : ¬ (i : Int) < (rows.length : Int) := by omega
  rw [zp (show L.length ≤ i by omega)]
  have hF : (L.map rQ).length = rows.length := by rw [zC]; exact hL
  generalize L.map rQ = F at *
  have mt : zQ rows.length (List.map eQ F) = List.map eQ F := zp (by rw [zC]; omega)
  rw [LP_go FF b268_1.eq_1]
  simp only [RB,RL,un,St.none,za,zd,ze,zf,zb,zj,zk,zm,zn,zc,zg,zh,zi,↓reduceIte,reduceCtorEq,pack,pid,parN,lid,chkK,apartV,Heap.none,c1,eNd_rules,eNd_row,eTr_rules,eTr_row,eQ_rules,eQ_row,eRw_rules,eRw_row,Row.freeze,nJ,nK,mt,hF,zt]
 | succ n ih =>
  intro i hi
  have hi : i + (n + 1) = rows.length := hi
  have hlt : i < V.length := by omega
  have c1 : (i : Int) < (rows.length : Int) := by omega
  have c2 : (i : Int) < (V.length : Int) := by omega
  have e2 : IntKind.i64.wrap ((i : Int) + 1) = ((i + 1 : Nat) : Int) := w64succ (by omega)
  have h9 := ih (i + 1) (by show i + 1 + n = rows.length; omega)
  have hx := hr _ (getD_mem' ([] : List RC) (show i < rows.length by omega))
  have hm : SmM (f,[T]) k := ⟨by show 1 ≤ 1000; omega,fun t ht => by rw [List.mem_singleton.1 ht]; exact ⟨by omega,hs⟩⟩
  have f1 := predict10_c (m := (f,[T])) (row := rows.getD i []) (by omega) h1k hm hx.1 hv hx.2
  have hp : predV [T] (rows.getD i []) = valT T (rows.getD i []) := by show valT T (rows.getD i []) + 0 = _; grind
  have em : eM (f,[T]) = [AV.i .i64 f,AV.l 1 [[AV.l 14 (T.map eNd)]]] := rfl
  rw [show ((f,[T]) : RM).2 = [T] from rfl,hp,em] at f1
  have hv1 := hV _ (getD_mem' dQ hlt)
  have hsq := valT_sq (row := rows.getD i []) h1k hT1 hs (hv.all _ (List.mem_singleton.2 rfl))
  have f2 := qsub_s (q := (V.getD i dQ).1) (r := ng (valT T (rows.getD i [])).num) hv1 (sm_cq hsq) (by omega) (by omega)
  change R FF 55 [_,(AV.agg [AV.b (ng (zV ((valT T (rows.getD i []))))),(AV.l 1 (List.map u (D (zM (zV ((valT T (rows.getD i [])))))))),(AV.l 1 (List.map u (D (Rat.den ((valT T (rows.getD i [])))))))])] = some (AV.agg [AV.b (ng (zV ((vQ (V.getD i dQ) - vQ (rQ (valT T (rows.getD i []))))))),(AV.l 1 (List.map u (D (zM (zV ((vQ (V.getD i dQ) - vQ (rQ (valT T (rows.getD i [])))))))))),(AV.l 1 (List.map u (D (Rat.den ((vQ (V.getD i dQ) - vQ (rQ (valT T (rows.getD i [])))))))))]) at f2
  rw [vQ_rQ,← hget i (by omega)] at f2
  have ht : (L.take (i + 1)).map rQ = (L.take i).map rQ ++ [rQ (L.getD i 0)] := by
   rw [List.take_add_one,zr (show i < L.length by omega),jb,zo,zr (show i < L.length by omega)]
   rfl
  rw [ht] at h9
  have hlen : ((L.take i).map rQ).length = i := by rw [zC,zD]; omega
  generalize valT T (rows.getD i []) = y at *
  generalize L.getD i 0 = z at *
  generalize (L.take i).map rQ = A at *
  have b2 : (i + 1) * 56 ≤ 140737488355328 := by omega
  have m1 : List.map eQ A ++ [[AV.b (ng z.num),AV.l 1 (List.map u (D z.num.natAbs)),AV.l 1 (List.map u (D z.den))]] = List.map eQ (A ++ [rQ z]) := by rw [jb (f := eQ)]; rfl
  have m2 : zQ (i + 1) (List.map eQ (A ++ [rQ z])) = List.map eQ (A ++ [rQ z]) := zp (by rw [zC,zx,hlen]; exact zz _)
  have m3 : zQ i (List.map eQ A) = List.map eQ A := zp (by rw [zC]; omega)
  have m4 : zQ i A = A := zp (by omega)
  have m5 : zQ (i + 1) (A ++ [rQ z]) = A ++ [rQ z] := zp (by rw [zx,hlen]; exact zz _)
  have hl5 : (A ++ [rQ z]).length = i + 1 := by rw [zx,hlen]; rfl
  rw [LP_go FF b268_1.eq_1]
  simp only [RB,RL,un,St.none,za,zd,ze,zf,zb,zj,zk,zm,zn,zc,zg,zh,zi,↓reduceIte,reduceCtorEq,pack,pid,parN,lid,chkK,apartV,Heap.none,c1,c2,hlen,n64,eNd_rules,eNd_row,eTr_rules,eTr_row,eQ_rules,eQ_row,eRw_rules,eRw_row,nJ,nK,zq,e2,f1,f2,b2,m1,m2,m3,m4,m5,hl5,hlt,zt]
  exact h9
theorem two_sm0 {V : List RQt} {k : Nat} {x y : RNd} (h1k : 1 ≤ k) (hV : SmL V k) (h : Two V k x y) : SmQ y.cov (6 * k + 12) ∧ SmQ y.cut (6 * k + 12) ∧ SmQ y.val (6 * k + 12) := by
 have hcov : ∀ l : List Nat,l.length ≤ 6 → SmQ (rQ (((l.length : Nat) : Int) : Rat)) (6 * k + 12) := fun l hn => sm_cq (zE (sq_int (l.length : Int) (by omega)) (by omega))
 rcases h with ⟨l,_,hn,hl,rfl,rfl⟩ | ⟨l,f,c,m,a,b,_,hn,hc,rfl,rfl⟩
 ·have h1 := mean_sq (by omega) hV hl hn
  exact ⟨hcov l hn,SmQ_dQ _,sm_cq (by omega)⟩
 ·exact ⟨hcov l hn,Sm.mono hc (by omega),SmQ_dQ _⟩
theorem Boosts_l0 {r : RR} {g tr : Int} {w : RQt} (hw : SmQ w 3) (htr : tr ≤ 64) : ∀ (n : Nat) (d : RD) (k : Nat) (ts : List (List RNd)),fine n k → OkG d r k → (ts.length : Int) + n = tr →
  LP FF [(4,1),(2,0),(5,0),(7,0),(9,0),(12,0)] [(8,0),(9,0)] b268_0 [.ownp [(AV.i .i64 d.1),.l 1 (d.2.1.map eRw),.l 3 (d.2.2.map eQ)],(AV.i .i64 tr),.tp [(AV.i .i64 r.1),(AV.i .i64 r.2)] 0,.tp [.b w.1,.l 1 (w.2.1.map u),.l 1 (w.2.2.map u)] 0,.tp [(AV.i .i64 g),.l 1 ((ts ++ tsP r (vQ w) n d).map eTr)] 0,(AV.i .i64 ((ts.length : Int)))] =
   some (.exit 0,[.junk,.tp [(AV.i .i64 g),.l 1 ((ts ++ tsP r (vQ w) n d).map eTr)] 0]) := by
 intro n
 induction n with
 | zero =>
  intro d k ts hf hg he
  have c1 : ¬ (ts.length : Int) < tr := by omega
  generalize ts ++ tsP r (vQ w) 0 d = R at *
  obtain ⟨f,rows,V⟩ := d
  obtain ⟨dep,lst⟩ := r
  rw [LP_go FF b268_0.eq_1]
  simp only [RB,RL,un,St.none,za,zd,ze,zf,zb,zj,zk,zm,zn,zc,zg,zh,zi,↓reduceIte,reduceCtorEq,pack,pid,parN,lid,chkK,apartV,Heap.none,c1,eTr_rules,eTr_row,eQ_rules,eQ_row,eRw_rules,eRw_row]
 | succ n ih =>
  intro d k ts hf hg he
  obtain ⟨k1,k2,k3⟩ := hf
  have c1 : (ts.length : Int) < tr := by omega
  have e2 : IntKind.i64.wrap ((ts.length : Int) + 1) = ((ts.length + 1 : Nat) : Int) := w64succ (by omega)
  have hρ : sq (vQ w) ≤ 3 := vQ_sq hw (by omega)
  obtain ⟨g1,g2,g3,g4⟩ := hg.facts
  have h6 := hg.n
  have rn := rnd_ok (ρ := vQ w) k2 k1 hg hρ
  have h20 := rn.len
  have h20b := rn.len2
  have h9 := ih (nxD d r (vQ w)) (7 * k + 13) (ts ++ [scT (vQ w) (trP d r)]) k3 (nx_ok (by omega) hg rn) (by rw [zx,jg]; omega)
  obtain ⟨_,_,_,h2⟩ := trP9_sub k2 k1 hg
  have hsT : SmT (trL d r) (6 * k + 12) := All2.right (Q := fun x => SmQ x.cov (6 * k + 12) ∧ SmQ x.cut (6 * k + 12) ∧ SmQ x.val (6 * k + 12)) (fun x y (hxy : Two d.2.2 k x y) => two_sm0 (by omega) hg.hV hxy) h2
  have f1 := every26_c (d := d) (by omega)
  have f2 := grownD_c k2 k1 hg
  have f3 := same_c (T := scT (vQ w) (trP d r)) (T' := scT (vQ w) (trL d r)) (k := 100000) (by omega) (by omega) (by rw [scT_len]; omega) rn.same.len rn.same.get
  rw [show ts ++ tsP r (vQ w) (n + 1) d = ts ++ scT (vQ w) (trP d r) :: tsP r (vQ w) n (nxD d r (vQ w)) from rfl]
  rw [show ts ++ [scT (vQ w) (trP d r)] ++ tsP r (vQ w) n (nxD d r (vQ w)) = ts ++ scT (vQ w) (trP d r) :: tsP r (vQ w) n (nxD d r (vQ w)) by rw [List.append_assoc]; rfl] at h9
  have hx : (ts ++ scT (vQ w) (trP d r) :: tsP r (vQ w) n (nxD d r (vQ w))).getD ts.length [] = scT (vQ w) (trP d r) := by
   rw [zo,jc (zz _),Nat.sub_self]; rfl
  have c2 : (ts.length : Int) < ((ts ++ scT (vQ w) (trP d r) :: tsP r (vQ w) n (nxD d r (vQ w))).length : Int) := by rw [zx,zF]; omega
  have l2 := Boosts_l2 (d := d) (r := r) (m := (g,ts ++ scT (vQ w) (trP d r) :: tsP r (vQ w) n (nxD d r (vQ w)))) (tr := tr) (j := (ts.length : Int)) (w := w) (T := trL d r) (k := 6 * k + 12) (by omega) hw (by omega) hsT (trL d r).length 0 (by omega)
  have l1 := Boosts_l1 (d := d) (r := r) (m := (g,ts ++ scT (vQ w) (trP d r) :: tsP r (vQ w) n (nxD d r (vQ w)))) (tr := tr) (j := (ts.length : Int)) (w := w) (T := scT (vQ w) (trL d r)) (k := 6 * k + 12) (by omega) (by omega) (by rw [scT_len]; omega) (by rw [scT_len,h20b]; exact rn.one) rn.smL (fun x hx => Sm.mono (hg.hV x hx) (by omega)) g2 (by omega) (okg_rows hg (by omega)) rn.vmL d.2.1.length 0 (by omega)
  have ev : nxV d (scT (vQ w) (trL d r)) = nxV d (scT (vQ w) (trP d r)) := by
   unfold nxV
   exact List.map_congr_left fun i _ => by rw [rn.eqv]
  rw [ev,jk,zI] at l1
  rw [zI,show scI (vQ w) (trL d r) 0 = trL d r from rfl] at l2
  simp only [zR] at l1
  have hz : (nxD d r (vQ w)).2.2 = (nxV d (scT (vQ w) (trP d r))).map rQ := rfl
  have hz1 : (nxD d r (vQ w)).1 = d.1 := rfl
  have hz2 : (nxD d r (vQ w)).2.1 = d.2.1 := rfl
  rw [hz1,hz2,hz,zx,jg] at h9
  generalize ts ++ scT (vQ w) (trP d r) :: tsP r (vQ w) n (nxD d r (vQ w)) = M at *
  generalize scT (vQ w) (trP d r) = S at *
  generalize scT (vQ w) (trL d r) = S' at *
  generalize trL d r = T at *
  generalize (nxV d S).map rQ = F at *
  generalize zT d.2.1.length = Z at *
  obtain ⟨f,rows,V⟩ := d
  obtain ⟨dep,lst⟩ := r
  simp only [eD] at f1 f2 l1 l2 h9 ⊢
  have mt4 : zQ T.length (List.map eNd T) = List.map eNd T := zp (by rw [zC]; exact zz _)
  rw [LP_go FF b268_0.eq_1]
  simp only [RB,RL,un,St.none,za,zd,ze,zf,zb,zj,zk,zm,zn,zc,zg,zh,zi,↓reduceIte,reduceCtorEq,pack,pid,parN,lid,chkK,apartV,Heap.none,c1,c2,hx,f1,f2,f3,l1,l2,eX_rules,eX_row,eNd_rules,eNd_row,eTr_rules,eTr_row,eQ_rules,eQ_row,eRw_rules,eRw_row,Row.freeze,nJ,nK,mt4,e2,n64,zq,zt]
  exact h9
theorem tsP_vm {r : RR} {ρ : Rat} (hρ : sq ρ ≤ 3) : ∀ (n : Nat) (d : RD) (k : Nat),fine n k → OkG d r k → ∀ t ∈ tsP r ρ n d,VM (d.1,[t]) ∧ t.length ≤ 100000 ∧ SmT t 2000 := by
 intro n
 induction n with
 | zero => intro d k _ _ t ht; exact (zY ht).elim
 | succ n ih =>
  intro d k hf hg t ht
  obtain ⟨k1,k2,k3⟩ := hf
  have rn := rnd_ok k2 k1 hg hρ
  rcases List.mem_cons.1 ht with rfl | ht
  ·refine ⟨rn.vmP,by have := rn.len; rw [scT_len]; omega,fun x hx => ?_⟩
   obtain ⟨a,b,c⟩ := rn.smP x hx
   exact ⟨Sm.mono a (by omega),Sm.mono b (by omega),Sm.mono c (by omega)⟩
  ·exact ih _ _ k3 (nx_ok (by omega) hg rn) t ht
theorem vm_all {f : Int} {ts : List (List RNd)} (h0 : 0 ≤ f ∧ f ≤ 64) (hl : ts.length ≤ 64) (h : ∀ t ∈ ts,VM (f,[t])) : VM (f,ts) := by
 refine ⟨?_,fun t ht => (h t ht).all _ (List.mem_singleton.2 rfl)⟩
 have hb : ts.any bdT = false := by
  rw [List.any_eq_false]
  intro t ht
  have h1 := (h t ht).fit
  have e : fitB (f,[t]) = !(decide (f < 0) || decide (64 < f) || decide (64 < (([t] : List (List RNd)).length : Int)) || [t].any bdT) := rfl
  rw [e,List.any_cons,List.any_nil,Bool.or_false] at h1
  intro h2
  rw [h2,Bool.or_true] at h1
  cases h1
 have e : fitB (f,ts) = !(decide (f < 0) || decide (64 < f) || decide (64 < (ts.length : Int)) || ts.any bdT) := rfl
 rw [e,hb,decide_eq_false (by omega),decide_eq_false (by omega),decide_eq_false (by omega)]
 rfl
end Go.Pe
