/- Part 3 of the texts of GrowBoosts: words, the machine's side of functions (written by a program), plain lemmas. -/
import Derived.Test.YtmdlpmhkpnobeaaGreatDoorBGrowBoosts2
import Derived.Deep.LoopGhost
import Derived.Laws.RangeAny
import Derived.ChangeArms
import Derived.DataReads
import Derived.WideShapes
import Derived.Below
import Derived.WalkKit
set_option linter.unusedVariables false
set_option linter.unusedSimpArgs false
open Nat renaming reduceEqDiff → za, reduceLeDiff → zb, reduceAdd → zd, reduceMul → ze, reduceMod → zf, reduceLT → zj, le_refl → zz, le_trans → zE, mul_le_mul_right → zK, zero_add → zX, add_mul → zZ, lt_of_lt_of_le → je, min_eq_left → jh, lt_or_ge → jl
open Int renaming reduceToNat → zc, reduceSub → zg, reduceNeg → zh, reduceAdd → zi, reduceLT → zk, reduceLE → zm, reduceEq → zn, natCast_nonneg → zq, ofNat_zero → zI, mul_le_mul_of_nonneg_right → zJ, natAbs → zM
open List renaming getD_eq_getElem?_getD → zo, take_of_length_le → zp, getElem?_eq_getElem → zr, take_length → zt, length_append → zx, length_map → zC, length_take → zD, length_cons → zF, mem_cons_self → zG, mem_cons_of_mem → zH, replicate → zL, length_replicate → zP, take → zQ, map_nil → zR, range → zT, length_set → zU, drop_of_length_le → zW, not_mem_nil → zY, mem_singleton → ja, map_append → jb, getElem?_append_right → jc, length_drop → jd, getElem?_eq_none → jf, length_singleton → jg, take_zero → jk
open Bool renaming and_eq_true → zu, false_eq_true → ji
open Option renaming map_eq_some_iff → zw, bind_eq_some_iff → zy, bind_some → zN, map_some → jj
open Rat renaming num → zV
open Go
namespace Go.Pe
def opIs (o : Oper) (d : Nat) (g : Option (Nat × Bool)) : Bool := decide (o.dst = some d) && decide (o.guard = g)
def oMv (o : Oper) (d s : Nat) (g : Option (Nat × Bool)) : Bool := opIs o d g && (match o.op with | .move (.tmp k) | .assign (.tmp k) => k == s | _ => false)
def oRange (P : Program) (o : Oper) (d s : Nat) : Bool := opIs o d none && (match o.op with | .range t (.tmp k) => k == s && (match P.underlying t with | some .string => true | _ => false) | _ => false)
def oNext (o : Oper) (d s : Nat) : Bool := opIs o d none && (match o.op with | .next (.tmp k) true => k == s | _ => false)
def oExt (o : Oper) (d s n : Nat) : Bool := opIs o d none && (match o.op with | .extract (.tmp k) m => k == s && m == n | _ => false)
def oBin (o : Oper) (b : BinOp) (d s : Nat) (n : Int) (g : Option (Nat × Bool)) : Bool := opIs o d g && (match o.op with | .binOp b' _ (.tmp k) (.const (.int .i32 m)) _ => decide (b' = b) && k == s && decide (m = n) | _ => false)
def oPick (o : Oper) (d c s : Nat) : Bool := opIs o d none && (match o.op with | .pick (.tmp k) (.const (.bool true)) (.tmp m) => k == c && m == s | _ => false)
def digO (P : Program) : List Oper → List Oper → List Oper → List Oper → Bool
 | [p1,p2],[q1,q2],[r1,r2],[s1,s2,s3,s4,s5,s6] => oMv p1 13 0 none && oRange P p2 14 13 && oNext q1 15 14 && oExt q2 16 15 0 && oExt r1 17 15 2 && oMv r2 5 17 none
  && oMv s1 18 5 none && oBin s2 .lss 19 18 48 none && oMv s3 20 19 none && oMv s4 21 5 (some (2,false)) && oBin s5 .gtr 22 21 57 (some (2,false)) && oPick s6 23 20 22
 | _,_,_,_ => false
def digM (P : Program) : Code → Option Code
 | .seq (.region _ o3 false) (.block b0 (.loop (.seq (.region _ o4 false) (.seq (.cond (.tmp 16) .skip (.exit b1)) (.block _ (.seq (.region _ o5 false) (.seq (.region _ o6 false) (.cond (.tmp 23) y .skip)))))))) =>
  if b0 == b1 && digO P o3.toList o4.toList o5.toList o6.toList then some y else none
 | _ => none
section
variable {P : Program} {a : Act} {w : World}
theorem opIs_spec {o : Oper} {d : Nat} {g : Option (Nat × Bool)} (h : opIs o d g = true) : o.dst = some d ∧ o.guard = g := by simpa [opIs] using h
theorem oMv_run {o : Oper} {d s : Nat} {g : Option (Nat × Bool)} (h : oMv o d s g = true) : (o.dst = some d ∧ o.guard = g) ∧ ∀ (a : Act) (w : World),(execOp a.eval o).run P w = .ok (.value (a.tmps.getD s undef)) w := by
 simp only [oMv,zu] at h
 refine ⟨opIs_spec h.1,fun a w => ?_⟩
 have h2 := h.2
 split at h2
 ·rename_i k ho; simp only [beq_iff_eq] at h2; subst h2; simp [execOp,ho,Act.eval]
 ·rename_i k ho; simp only [beq_iff_eq] at h2; subst h2; simp [execOp,ho,Act.eval]
 ·cases h2
theorem oRange_run {o : Oper} {d s : Nat} (h : oRange P o d s = true) : (o.dst = some d ∧ o.guard = none) ∧ ∀ (a : Act) (w : World) (x : ByteArray),a.tmps.getD s undef = .string x → (execOp a.eval o).run P w = .ok (.value (.pointer (some ⟨w.heap.size,0,none⟩))) (w.iter x 0) := by
 simp only [oRange,zu] at h
 refine ⟨opIs_spec h.1,fun a w x hx => ?_⟩
 have h2 := h.2
 split at h2
 ·rename_i t k ho
  simp only [zu,beq_iff_eq] at h2
  obtain ⟨rfl,h2⟩ := h2
  split at h2
  ·rename_i hu
   have hx' : a.eval (.tmp k) = .string x := hx
   simp only [execOp,ho,hx',Sem.run_bind,run_range_string w t x hu,Result.andThen_ok,Sem.run_pure]
  ·cases h2
 ·cases h2
theorem oNext_run {o : Oper} {d s : Nat} (h : oNext o d s = true) : (o.dst = some d ∧ o.guard = none) ∧ ∀ (a : Act) (w : World) (x : ByteArray) (pos : Nat),a.tmps.getD s undef = .pointer (some ⟨w.heap.size,0,none⟩) →
  (∀ hp : pos < x.size,(execOp a.eval o).run P (w.iter x pos) = .ok (.value (.tuple #[.bool true,.int .i64 pos,.int .i32 (Utf8.decode x pos).1])) (w.iter x (pos + (Utf8.decode x pos).2))) ∧ (¬ pos < x.size → (execOp a.eval o).run P (w.iter x pos) = .ok (.value (.tuple #[.bool false])) (w.iter x pos)) := by
 simp only [oNext,zu] at h
 refine ⟨opIs_spec h.1,fun a w x pos hx => ?_⟩
 have h2 := h.2
 split at h2
 ·rename_i k ho
  simp only [beq_iff_eq] at h2
  subst h2
  have hx' : a.eval (.tmp k) = .pointer (some ⟨w.heap.size,0,none⟩) := hx
  refine ⟨fun hp => ?_,fun hp => ?_⟩
  ·simp only [execOp,ho,hx',Sem.run_bind,run_next_any w x pos _ hp,Result.andThen_ok,Sem.run_pure]
  ·simp only [execOp,ho,hx',Sem.run_bind,run_next_end w x pos _ hp,Result.andThen_ok,Sem.run_pure]
 ·cases h2
theorem oExt_run {o : Oper} {d s n : Nat} (h : oExt o d s n = true) : (o.dst = some d ∧ o.guard = none) ∧ ∀ (a : Act) (w : World) (vs : Array Value) (v : Value),a.tmps.getD s undef = .tuple vs → vs[n]? = some v → (execOp a.eval o).run P w = .ok (.value v) w := by
 simp only [oExt,zu] at h
 refine ⟨opIs_spec h.1,fun a w vs v hx hv => ?_⟩
 have h2 := h.2
 split at h2
 ·rename_i k m ho
  simp only [zu,beq_iff_eq] at h2
  obtain ⟨rfl,rfl⟩ := h2
  have hx' : a.eval (.tmp k) = .tuple vs := hx
  simp [execOp,ho,hx',Instr.extract,hv]
 ·cases h2
theorem oBin_run {o : Oper} {b : BinOp} {d s : Nat} {n : Int} {g : Option (Nat × Bool)} (h : oBin o b d s n g = true) : (o.dst = some d ∧ o.guard = g) ∧ ∀ (a : Act) (w : World) (c : Int),a.tmps.getD s undef = .int .i32 c →
  (b = .lss → (execOp a.eval o).run P w = .ok (.value (.bool (decide (c < n)))) w) ∧ (b = .gtr → (execOp a.eval o).run P w = .ok (.value (.bool (decide (n < c)))) w) := by
 simp only [oBin,zu] at h
 refine ⟨opIs_spec h.1,fun a w c hx => ?_⟩
 have h2 := h.2
 split at h2
 ·rename_i b' t k m t' ho
  simp only [zu,beq_iff_eq,decide_eq_true_eq] at h2
  obtain ⟨⟨rfl,rfl⟩,rfl⟩ := h2
  have hx' : a.eval (.tmp k) = .int .i32 c := hx
  have e2 : a.eval (.const (.int .i32 m)) = .int .i32 m := rfl
  refine ⟨fun hb => ?_,fun hb => ?_⟩
  ·subst hb
   obtain ⟨v,h3,h4⟩ := run_binI (P := P) (w := w) (T := fun _ => False) (ρ := Rho.none) (t := t) (op := .lss) (q := .i32) (x := c) (y := m) rfl ⟨by decide,by decide⟩
   rw [inv_b h4] at h3
   simp only [execOp,ho,hx',e2,eqG,Sem.run_bind,Sem.run_pure,Result.andThen_ok,h3]
  ·subst hb
   obtain ⟨v,h3,h4⟩ := run_binI (P := P) (w := w) (T := fun _ => False) (ρ := Rho.none) (t := t) (op := .gtr) (q := .i32) (x := c) (y := m) rfl ⟨by decide,by decide⟩
   rw [inv_b h4] at h3
   simp only [execOp,ho,hx',e2,eqG,Sem.run_bind,Sem.run_pure,Result.andThen_ok,h3]
 ·cases h2
theorem oPick_run {o : Oper} {d c s : Nat} (h : oPick o d c s = true) : (o.dst = some d ∧ o.guard = none) ∧ ∀ (a : Act) (w : World) (z : Bool),a.tmps.getD c undef = .bool z → (execOp a.eval o).run P w = .ok (.value (if z then .bool true else a.tmps.getD s undef)) w := by
 simp only [oPick,zu] at h
 refine ⟨opIs_spec h.1,fun a w z hx => ?_⟩
 have h2 := h.2
 split at h2
 ·rename_i k m ho
  simp only [zu,beq_iff_eq] at h2
  obtain ⟨rfl,rfl⟩ := h2
  have hx' : a.eval (.tmp k) = .bool z := hx
  simp only [execOp,ho,hx',asBool]
  cases z <;> simp [Act.eval]
 ·cases h2
variable {ops : Array Oper} {Q : Exit → Act → World → Prop} {i : Nat} {rest : List Nat} {o : Oper} {v : Value} {w' : World}
theorem ops1 (ho : ops[i]? = some o) {d : Nat} (hd : o.dst = some d ∧ o.guard = none) (hr : (execOp a.eval o).run P w = .ok (.value v) w') (h : wpOps P ops Q rest (a.put (some d) v) w') : wpOps P ops Q (i :: rest) a w := by
 simp only [wpOps,ho,Region.wanted,hd.2,if_true]
 refine .inl ?_
 unfold Oper.wp
 rw [hr]
 show wpOps P ops Q rest (a.put o.dst v) w'
 rw [hd.1]
 exact h
theorem yield_at {g d : Nat} {z : Bool} (hg : (ops[g]?).bind (·.dst) = some d) (hz : a.tmps.getD d undef = .bool z) : yielded ops a.tmps g = some z := by
 unfold yielded
 rw [hg]
 show (match (some d).bind (fun x => a.tmps[x]?) with | some (.bool b) => some b | _ => none) = some z
 have : a.tmps[d]? = some (.bool z) := by
  cases hx : a.tmps[d]? with
  | none => simp [hx,undef] at hz
  | some y => simp [hx] at hz; rw [hz]
 simp only [zN,this]
theorem ops2 (ho : ops[i]? = some o) {d g : Nat} {q : Bool} (hd : o.dst = some d ∧ o.guard = some (g,q)) (hy : yielded ops a.tmps g = some q) (hr : (execOp a.eval o).run P w = .ok (.value v) w') (h : wpOps P ops Q rest (a.put (some d) v) w') : wpOps P ops Q (i :: rest) a w := by
 simp only [wpOps,ho,Region.wanted,hd.2,hy,beq_self_eq_true,if_true]
 refine .inl ?_
 unfold Oper.wp
 rw [hr]
 show wpOps P ops Q rest (a.put o.dst v) w'
 rw [hd.1]
 exact h
theorem ops3 (ho : ops[i]? = some o) {d g : Nat} {q z : Bool} (hd : o.dst = some d ∧ o.guard = some (g,q)) (hy : yielded ops a.tmps g = some z) (hz : z ≠ q) (h : wpOps P ops Q rest (a.put (some d) undef) w) : wpOps P ops Q (i :: rest) a w := by
 have : (some z == some q) = false := by simpa using hz
 simp only [wpOps,ho,Region.wanted,hd.2,hy,this,ji,if_false,hd.1]
 exact h
theorem put_at {d t : Nat} (hd : d < a.tmps.size) : (a.put (some d) v).tmps.getD t undef = if t = d then v else a.tmps.getD t undef := by
 show (a.tmps.setIfInBounds d v).getD t undef = _
 by_cases h : t = d
 ·subst h; simp [hd]
 ·have h2 : ¬ d = t := fun e => h e.symm
  simp [Array.getElem?_setIfInBounds,h2,h]
def AE (a a' : Act) : Prop := a'.tmps.size = a.tmps.size ∧ a'.defers = a.defers ∧ ∀ t,t ∉ digT → a'.tmps.getD t undef = a.tmps.getD t undef
theorem AE.refl (a : Act) : AE a a := ⟨rfl,rfl,fun _ _ => rfl⟩
theorem AE.put {a' : Act} (h : AE a a') (hs : 24 ≤ a.tmps.size) {d : Nat} (hd : d ∈ digT) (v : Value) : AE a (a'.put (some d) v) := by
 have hlt : d < a'.tmps.size := by
  rw [h.1]
  have : ∀ x ∈ digT,x < 24 := by decide
  exact je (this d hd) hs
 refine ⟨by rw [← h.1]; simp [Act.put],h.2.1,fun t ht => ?_⟩
 have hne : ¬ t = d := by
  intro e
  subst e
  exact ht hd
 rw [put_at hlt,if_neg hne,h.2.2 t ht]
theorem digit_of (s : ByteArray) (pos : Nat) (h : pos < s.size) : (48 ≤ (Utf8.decode s pos).1 ∧ (Utf8.decode s pos).1 ≤ 57 → (Utf8.decode s pos).2 = 1 ∧ 48 ≤ (s[pos]'h).toNat ∧ (s[pos]'h).toNat ≤ 57) ∧ (¬ (48 ≤ (Utf8.decode s pos).1 ∧ (Utf8.decode s pos).1 ≤ 57) → ¬ (48 ≤ (s[pos]'h).toNat ∧ (s[pos]'h).toNat ≤ 57)) := by
 rcases jl (s[pos]'h).toNat 128 with h1 | h1
 ·rw [decode_ascii s pos h h1]
  exact ⟨fun g => ⟨rfl,g⟩,fun g => g⟩
 ·have := decode_high s pos h h1
  exact ⟨fun g => by omega,fun g => by omega⟩
theorem digsB_iff (s : ByteArray) : digsB s = true ↔ ∀ i (h : i < s.size),48 ≤ (s[i]'h).toNat ∧ (s[i]'h).toNat ≤ 57 := by
 unfold digsB
 simp only [List.all_eq_true,zu,decide_eq_true_eq]
 constructor
 ·intro h i hi
  exact h _ (by
   have : i < s.data.toList.length := by rw [Array.length_toList]; exact hi
   have := List.getElem_mem this
   rwa [Array.getElem_toList] at this)
 ·intro h b hb
  obtain ⟨i,hi,rfl⟩ := List.getElem_of_mem hb
  rw [Array.getElem_toList]
  exact h i (by rw [Array.length_toList] at hi; exact hi)
theorem arrL {α : Type} {x : Array α} {l : List α} (h : x.toList = l) : x = l.toArray := by subst h; simp
theorem old_iter (w : World) (s : ByteArray) (pos : Nat) : Old w (w.iter s pos) := Old.alloc w _
theorem digs_wp {c y : Code} (hm : digM P c = some y) {s : ByteArray} (hx : a.tmps.getD 0 undef = .string s) (hs : 24 ≤ a.tmps.size) {Q : Exit → Act → World → Prop}
  (h1 : digsB s = true → ∀ a' w',Old w w' → AE a a' → Q .normal a' w')
  (h2 : digsB s = false → ∀ a' w',Old w w' → AE a a' → y.wp P (fun e a w => e = .ret ∧ Q .ret a w) a' w') : c.wp P Q a w := by
 unfold digM at hm
 split at hm
 ·rename_i i3 o3 b0 i4 o4 b1 ib i5 o5 i6 o6 y'
  split at hm
  ·rename_i hd
   cases hm
   simp only [zu,beq_iff_eq] at hd
   obtain ⟨rfl,hd⟩ := hd
   unfold digO at hd
   split at hd
   ·rename_i p1 p2 q1 q2 r1 r2 s1 s2 s3 s4 s5 s6 e3 e4 e5 e6
    simp only [zu] at hd
    obtain ⟨⟨⟨⟨⟨⟨⟨⟨⟨⟨⟨m1,m2⟩,m3⟩,m4⟩,m5⟩,m6⟩,m7⟩,m8⟩,m9⟩,m10⟩,m11⟩,m12⟩ := hd
    have m1 := oMv_run (P := P) m1
    have m2 := oRange_run m2
    have m3 := oNext_run (P := P) m3
    have m4 := oExt_run (P := P) m4
    have m5 := oExt_run (P := P) m5
    have m6 := oMv_run (P := P) m6
    have m7 := oMv_run (P := P) m7
    have m8 := oBin_run (P := P) m8
    have m9 := oMv_run (P := P) m9
    have m10 := oMv_run (P := P) m10
    have m11 := oBin_run (P := P) m11
    have m12 := oPick_run (P := P) m12
    have e3 := arrL e3
    have e4 := arrL e4
    have e5 := arrL e5
    have e6 := arrL e6
    subst e3 e4 e5 e6
    have lt : ∀ {a' : Act} (h : AE a a') (d : Nat),d < 24 → d < a'.tmps.size := fun h d hd => by rw [h.1]; exact je hd hs
    have aA := (AE.refl a).put hs (show 13 ∈ digT by decide) (.string s)
    have aB := aA.put hs (show 14 ∈ digT by decide) (.pointer (some ⟨w.heap.size,0,none⟩))
    refine wp_seq (wp_region ?_)
    show wpOps P [p1,p2].toArray _ [0,1] a w
    refine ops1 rfl m1.1 (m1.2 a w) ?_
    rw [hx]
    refine ops1 rfl m2.1 (m2.2 _ w s ?_) ?_
    ·rw [put_at (lt (AE.refl a) 13 (by decide)),if_pos rfl]
    simp only [wpOps]
    refine wp_block ?_
    refine wp_loop_ghost (fun j a' w' => ∃ pos,j + pos = s.size ∧ w' = w.iter s pos ∧ AE a a' ∧ a'.tmps.getD 14 undef = .pointer (some ⟨w.heap.size,0,none⟩) ∧ ∀ i (h : i < s.size),i < pos → 48 ≤ (s[i]'h).toNat ∧ (s[i]'h).toNat ≤ 57) s.size
     ⟨0,rfl,rfl,aB,by rw [put_at (lt aA 14 (by decide)),if_pos rfl],fun i h hi => by omega⟩ ?_
    rintro j a' w' ⟨pos,hj,rfl,hae,h14,hdig⟩
    refine wp_seq (wp_region ?_)
    show wpOps P [q1,q2].toArray _ [0,1] a' _
    by_cases hp : pos < s.size
    ·refine ops1 rfl m3.1 ((m3.2 a' w s pos h14).1 hp) ?_
     have a1 := hae.put hs (show 15 ∈ digT by decide) (.tuple #[.bool true,.int .i64 pos,.int .i32 (Utf8.decode s pos).1])
     have g15 : (a'.put (some 15) (.tuple #[.bool true,.int .i64 pos,.int .i32 (Utf8.decode s pos).1])).tmps.getD 15 undef = .tuple #[.bool true,.int .i64 pos,.int .i32 (Utf8.decode s pos).1] := by rw [put_at (lt hae 15 (by decide)),if_pos rfl]
     have g14 : (a'.put (some 15) (.tuple #[.bool true,.int .i64 pos,.int .i32 (Utf8.decode s pos).1])).tmps.getD 14 undef = .pointer (some ⟨w.heap.size,0,none⟩) := by rw [put_at (lt hae 15 (by decide)),if_neg (by decide),h14]
     generalize a'.put (some 15) (.tuple #[.bool true,.int .i64 pos,.int .i32 (Utf8.decode s pos).1]) = b1 at a1 g15 g14
     refine ops1 rfl m4.1 (m4.2 _ _ _ (.bool true) g15 rfl) ?_
     have a2 := a1.put hs (show 16 ∈ digT by decide) (.bool true)
     have k15 : (b1.put (some 16) (.bool true)).tmps.getD 15 undef = .tuple #[.bool true,.int .i64 pos,.int .i32 (Utf8.decode s pos).1] := by rw [put_at (lt a1 16 (by decide)),if_neg (by decide),g15]
     have k14 : (b1.put (some 16) (.bool true)).tmps.getD 14 undef = .pointer (some ⟨w.heap.size,0,none⟩) := by rw [put_at (lt a1 16 (by decide)),if_neg (by decide),g14]
     have k16 : (b1.put (some 16) (.bool true)).tmps.getD 16 undef = .bool true := by rw [put_at (lt a1 16 (by decide)),if_pos rfl]
     generalize b1.put (some 16) (.bool true) = b2 at a2 k15 k14 k16
     simp only [wpOps]
     refine wp_seq (wp_cond (show Act.eval b2 (.tmp 16) = .bool true from k16) (wp_skip ?_))
     refine wp_block ?_
     refine wp_seq (wp_region ?_)
     show wpOps P [r1,r2].toArray _ [0,1] b2 _
     refine ops1 rfl m5.1 (m5.2 _ _ _ (.int .i32 (Utf8.decode s pos).1) k15 rfl) ?_
     have a3 := a2.put hs (show 17 ∈ digT by decide) (.int .i32 (Utf8.decode s pos).1)
     have l17 : (b2.put (some 17) (.int .i32 (Utf8.decode s pos).1)).tmps.getD 17 undef = .int .i32 (Utf8.decode s pos).1 := by rw [put_at (lt a2 17 (by decide)),if_pos rfl]
     have l14 : (b2.put (some 17) (.int .i32 (Utf8.decode s pos).1)).tmps.getD 14 undef = .pointer (some ⟨w.heap.size,0,none⟩) := by rw [put_at (lt a2 17 (by decide)),if_neg (by decide),k14]
     generalize b2.put (some 17) (.int .i32 (Utf8.decode s pos).1) = b3 at a3 l17 l14
     refine ops1 rfl m6.1 (m6.2 _ _) ?_
     rw [l17]
     have a4 := a3.put hs (show 5 ∈ digT by decide) (.int .i32 (Utf8.decode s pos).1)
     have n5 : (b3.put (some 5) (.int .i32 (Utf8.decode s pos).1)).tmps.getD 5 undef = .int .i32 (Utf8.decode s pos).1 := by rw [put_at (lt a3 5 (by decide)),if_pos rfl]
     have n14 : (b3.put (some 5) (.int .i32 (Utf8.decode s pos).1)).tmps.getD 14 undef = .pointer (some ⟨w.heap.size,0,none⟩) := by rw [put_at (lt a3 5 (by decide)),if_neg (by decide),l14]
     generalize b3.put (some 5) (.int .i32 (Utf8.decode s pos).1) = b4 at a4 n5 n14
     simp only [wpOps]
     refine wp_seq (wp_region ?_)
     show wpOps P [s1,s2,s3,s4,s5,s6].toArray _ [0,1,2,3,4,5] b4 _
     refine ops1 rfl m7.1 (m7.2 _ _) ?_
     rw [n5]
     have a5 := a4.put hs (show 18 ∈ digT by decide) (.int .i32 (Utf8.decode s pos).1)
     have q5 : (b4.put (some 18) (.int .i32 (Utf8.decode s pos).1)).tmps.getD 5 undef = .int .i32 (Utf8.decode s pos).1 := by rw [put_at (lt a4 18 (by decide)),if_neg (by decide),n5]
     have q18 : (b4.put (some 18) (.int .i32 (Utf8.decode s pos).1)).tmps.getD 18 undef = .int .i32 (Utf8.decode s pos).1 := by rw [put_at (lt a4 18 (by decide)),if_pos rfl]
     have q14 : (b4.put (some 18) (.int .i32 (Utf8.decode s pos).1)).tmps.getD 14 undef = .pointer (some ⟨w.heap.size,0,none⟩) := by rw [put_at (lt a4 18 (by decide)),if_neg (by decide),n14]
     generalize b4.put (some 18) (.int .i32 (Utf8.decode s pos).1) = b5 at a5 q5 q18 q14
     refine ops1 rfl m8.1 ((m8.2 _ _ _ q18).1 rfl) ?_
     generalize hz : decide (((Utf8.decode s pos).1 : Int) < 48) = z
     have a6 := a5.put hs (show 19 ∈ digT by decide) (.bool z)
     have t5 : (b5.put (some 19) (.bool z)).tmps.getD 5 undef = .int .i32 (Utf8.decode s pos).1 := by rw [put_at (lt a5 19 (by decide)),if_neg (by decide),q5]
     have t19 : (b5.put (some 19) (.bool z)).tmps.getD 19 undef = .bool z := by rw [put_at (lt a5 19 (by decide)),if_pos rfl]
     have t14 : (b5.put (some 19) (.bool z)).tmps.getD 14 undef = .pointer (some ⟨w.heap.size,0,none⟩) := by rw [put_at (lt a5 19 (by decide)),if_neg (by decide),q14]
     generalize b5.put (some 19) (.bool z) = b6 at a6 t5 t19 t14
     refine ops1 rfl m9.1 (m9.2 _ _) ?_
     rw [t19]
     have a7 := a6.put hs (show 20 ∈ digT by decide) (.bool z)
     have u5 : (b6.put (some 20) (.bool z)).tmps.getD 5 undef = .int .i32 (Utf8.decode s pos).1 := by rw [put_at (lt a6 20 (by decide)),if_neg (by decide),t5]
     have u20 : (b6.put (some 20) (.bool z)).tmps.getD 20 undef = .bool z := by rw [put_at (lt a6 20 (by decide)),if_pos rfl]
     have u14 : (b6.put (some 20) (.bool z)).tmps.getD 14 undef = .pointer (some ⟨w.heap.size,0,none⟩) := by rw [put_at (lt a6 20 (by decide)),if_neg (by decide),t14]
     generalize b6.put (some 20) (.bool z) = b7 at a7 u5 u20 u14
     have hdst : ([s1,s2,s3,s4,s5,s6].toArray[2]?).bind (·.dst) = some 20 := m9.1.1
     have hc48 := hz
     have nodig : ¬ (48 ≤ (Utf8.decode s pos).1 ∧ (Utf8.decode s pos).1 ≤ 57) → digsB s = false := by
      intro hn
      cases hb : digsB s with
      | false => rfl
      | true => exact absurd ((digsB_iff s).1 hb pos hp) ((digit_of s pos hp).2 hn)
     cases z with
     | true =>
      refine ops3 (z := true) rfl m10.1 (yield_at hdst u20) (by decide) ?_
      have a8 := a7.put hs (show 21 ∈ digT by decide) undef
      have v20 : (b7.put (some 21) undef).tmps.getD 20 undef = .bool true := by rw [put_at (lt a7 21 (by decide)),if_neg (by decide),u20]
      generalize b7.put (some 21) undef = b8 at a8 v20
      refine ops3 (z := true) rfl m11.1 (yield_at hdst v20) (by decide) ?_
      have a9 := a8.put hs (show 22 ∈ digT by decide) undef
      have x20 : (b8.put (some 22) undef).tmps.getD 20 undef = .bool true := by rw [put_at (lt a8 22 (by decide)),if_neg (by decide),v20]
      generalize b8.put (some 22) undef = b9 at a9 x20
      refine ops1 rfl m12.1 (m12.2 _ _ _ x20) ?_
      simp only [if_true]
      have a10 := a9.put hs (show 23 ∈ digT by decide) (.bool true)
      have y23 : (b9.put (some 23) (.bool true)).tmps.getD 23 undef = .bool true := by rw [put_at (lt a9 23 (by decide)),if_pos rfl]
      generalize b9.put (some 23) (.bool true) = b10 at a10 y23
      simp only [wpOps]
      refine wp_cond (show Act.eval b10 (.tmp 23) = .bool true from y23) ?_
      show y.wp P _ _ _
      refine wp_mono (h2 (nodig (by have := of_decide_eq_true hc48; omega)) _ _ (old_iter w s _) a10) ?_
      rintro e a3 w3 ⟨rfl,hq⟩
      exact hq
     | false =>
      have hlow : 48 ≤ (Utf8.decode s pos).1 := by have := of_decide_eq_false hc48; omega
      refine ops2 rfl m10.1 (yield_at hdst u20) (m10.2 _ _) ?_
      rw [u5]
      have a8 := a7.put hs (show 21 ∈ digT by decide) (.int .i32 (Utf8.decode s pos).1)
      have v20 : (b7.put (some 21) (.int .i32 (Utf8.decode s pos).1)).tmps.getD 20 undef = .bool false := by rw [put_at (lt a7 21 (by decide)),if_neg (by decide),u20]
      have v21 : (b7.put (some 21) (.int .i32 (Utf8.decode s pos).1)).tmps.getD 21 undef = .int .i32 (Utf8.decode s pos).1 := by rw [put_at (lt a7 21 (by decide)),if_pos rfl]
      have v14 : (b7.put (some 21) (.int .i32 (Utf8.decode s pos).1)).tmps.getD 14 undef = .pointer (some ⟨w.heap.size,0,none⟩) := by rw [put_at (lt a7 21 (by decide)),if_neg (by decide),u14]
      generalize b7.put (some 21) (.int .i32 (Utf8.decode s pos).1) = b8 at a8 v20 v21 v14
      refine ops2 rfl m11.1 (yield_at hdst v20) ((m11.2 _ _ _ v21).2 rfl) ?_
      generalize hz2 : decide (57 < ((Utf8.decode s pos).1 : Int)) = z2
      have a9 := a8.put hs (show 22 ∈ digT by decide) (.bool z2)
      have x20 : (b8.put (some 22) (.bool z2)).tmps.getD 20 undef = .bool false := by rw [put_at (lt a8 22 (by decide)),if_neg (by decide),v20]
      have x22 : (b8.put (some 22) (.bool z2)).tmps.getD 22 undef = .bool z2 := by rw [put_at (lt a8 22 (by decide)),if_pos rfl]
      have x14 : (b8.put (some 22) (.bool z2)).tmps.getD 14 undef = .pointer (some ⟨w.heap.size,0,none⟩) := by rw [put_at (lt a8 22 (by decide)),if_neg (by decide),v14]
      generalize b8.put (some 22) (.bool z2) = b9 at a9 x20 x22 x14
      refine ops1 rfl m12.1 (m12.2 _ _ _ x20) ?_
      simp only [ji,if_false]
      rw [x22]
      have a10 := a9.put hs (show 23 ∈ digT by decide) (.bool z2)
      have y23 : (b9.put (some 23) (.bool z2)).tmps.getD 23 undef = .bool z2 := by rw [put_at (lt a9 23 (by decide)),if_pos rfl]
      have y14 : (b9.put (some 23) (.bool z2)).tmps.getD 14 undef = .pointer (some ⟨w.heap.size,0,none⟩) := by rw [put_at (lt a9 23 (by decide)),if_neg (by decide),x14]
      generalize b9.put (some 23) (.bool z2) = b10 at a10 y23 y14
      simp only [wpOps]
      refine wp_cond (show Act.eval b10 (.tmp 23) = .bool z2 from y23) ?_
      cases z2 with
      | true =>
       have hc2 := of_decide_eq_true hz2
       show y.wp P _ _ _
       refine wp_mono (h2 (nodig (by omega)) _ _ (old_iter w s _) a10) ?_
       rintro e a3 w3 ⟨rfl,hq⟩
       exact hq
      | false =>
       have hc2 := of_decide_eq_false hz2
       have hdg := (digit_of s pos hp).1 ⟨hlow,by omega⟩
       show (Code.skip).wp P _ _ _
       refine wp_skip ?_
       refine ⟨j - 1,by omega,pos + 1,by omega,by rw [hdg.1],a10,y14,fun i h hi => ?_⟩
       rcases jl i pos with h3 | h3
       ·exact hdig i h h3
       ·have : i = pos := by omega
        subst this
        exact hdg.2
    ·refine ops1 rfl m3.1 ((m3.2 a' w s pos h14).2 hp) ?_
     have a1 := hae.put hs (show 15 ∈ digT by decide) (.tuple #[.bool false])
     refine ops1 rfl m4.1 (m4.2 _ _ _ (.bool false) (by rw [put_at (lt hae 15 (by decide)),if_pos rfl]) rfl) ?_
     have a2 := a1.put hs (show 16 ∈ digT by decide) (.bool false)
     have k16 := put_at (a := a'.put (some 15) (.tuple #[.bool false])) (v := .bool false) (d := 16) (t := 16) (lt a1 16 (by decide))
     rw [if_pos rfl] at k16
     simp only [wpOps]
     refine wp_seq (wp_cond (show Act.eval _ (.tmp 16) = .bool false from k16) (wp_exit ?_))
     have hall : digsB s = true := (digsB_iff s).2 fun i h => hdig i h (by omega)
     show if b0 = b0 then Q .normal _ _ else _
     rw [if_pos rfl]
     exact h1 hall _ _ (old_iter w s _) a2
   ·cases hd
  ·cases hm
 ·cases hm
end
def nodB : List Nat → Bool
 | [] => true
 | x :: l => !l.contains x && nodB l
theorem nodB_spec : ∀ {l : List Nat},nodB l = true → l.Nodup
 | [],_ => List.nodup_nil
 | x :: l,h => by
  simp only [nodB,zu,Bool.not_eq_true',List.contains_eq_mem,decide_eq_false_iff_not] at h
  exact List.nodup_cons.2 ⟨h.1,nodB_spec h.2⟩
def listOk (lids : List Nat) (l : List (Nat × Nat)) : Bool := okL lids [] l && nodB (l.map idOf)
def toExit : Ex → Exit
 | .normal => .normal
 | .exit i => .exit i
 | .ret => .ret
def mt (P : Program) (F : Fns) (tabs : List (Nat × List AV)) (lids : List Nat) (nt : Nat) : PC → Code → Bool
 | .skip,.skip => true
 | .reg chk ps,.region _ ops draw => mposL P F tabs nt ops ops.toList ps && (!draw || drawOk chk ops.toList ps)
 | .seq x y,.seq c d => mt P F tabs lids nt x c && mt P F tabs lids nt y d
 | .cond b x y,.cond b' c d => ma tabs b' b && mt P F tabs lids nt x c && mt P F tabs lids nt y d
 | .block i x,.block j c => i == j && mt P F tabs lids nt x c
 | .loop live out x,.loop c => listOk lids live && listOk lids out && mt P F tabs lids nt x c
 | .join out x,c => listOk lids out && mt P F tabs lids nt x c
 | .exit i,.exit j => i == j
 | .ret,.ret => true
 | .digs y,c => decide (24 ≤ nt) && (match digM P c with | some d => mt P F tabs lids nt y d | none => false)
 | _,_ => false
section
variable {P : Program} {F : Fns} {f : Fr} {nt : Nat}
theorem canon_sim {w : World} {st : St} {a : Act} (hs : Sim f nt w st a) {l : List (Nat × Nat)} (hl : listOk f.lids l = true) {vs : List AV} (hp : pack st.env [] st.h l = some vs) : Sim f nt w (un l vs) a := by
 simp only [listOk,zu] at hl
 obtain ⟨h1,h2,T,ρ,k,he⟩ := hs
 obtain ⟨T',ρ',k',e',_⟩ := canon k he hl.1 (nodB_spec hl.2) hp
 exact ⟨h1,h2,T',ρ',k',e'⟩
def LoopsOk (P : Program) (F : Fns) (f : Fr) (nt : Nat) (lp : List (Nat × Nat) → List (Nat × Nat) → PC → List AV → Option (Ex × List AV)) : Prop :=
 ∀ live out x c vs ex outs,listOk f.lids live = true → listOk f.lids out = true → mt P F f.tabs f.lids nt x c = true → lp live out x vs = some (ex,outs) →
  ∀ (w : World) (a : Act) (Q : Exit → Act → World → Prop),Sim f nt w (un live vs) a → (∀ a' w',Sim f nt w' (un out outs) a' → Q (toExit ex) a' w') → (Code.loop c).wp P Q a w
theorem pc_sound (hmo : P.follows .mixedOrders = true) {call : Call} (hc : CallsOk P F f.tabs call) {lp : List (Nat × Nat) → List (Nat × Nat) → PC → List AV → Option (Ex × List AV)} (hlp : LoopsOk P F f nt lp) :
  ∀ (x : PC) (c : Code),mt P F f.tabs f.lids nt x c = true → ∀ (st : St) (ex : Ex) (st' : St),PC.ev call lp x st = some (ex,st') →
   ∀ (w : World) (a : Act) (Q : Exit → Act → World → Prop),Sim f nt w st a → (∀ a' w',Sim f nt w' st' a' → Q (toExit ex) a' w') → c.wp P Q a w := by
 intro x
 induction x with
 | skip =>
  intro c hm st ex st' hv w a Q hs hQ
  cases c <;> simp only [mt] at hm <;> try (cases hm; done)
  simp only [PC.ev] at hv
  cases hv
  exact wp_skip (hQ a w hs)
 | ret =>
  intro c hm st ex st' hv w a Q hs hQ
  cases c <;> simp only [mt] at hm <;> try (cases hm; done)
  simp only [PC.ev] at hv
  cases hv
  exact wp_ret (hQ a w hs)
 | exit i =>
  intro c hm st ex st' hv w a Q hs hQ
  cases c <;> simp only [mt] at hm <;> try (cases hm; done)
  simp only [beq_iff_eq] at hm
  subst hm
  simp only [PC.ev] at hv
  cases hv
  exact wp_exit (hQ a w hs)
 | reg chk ps =>
  intro c hm st ex st' hv w a Q hs hQ
  cases c <;> simp only [mt] at hm <;> try (cases hm; done)
  rename_i id ops draw
  simp only [zu,Bool.or_eq_true,Bool.not_eq_true'] at hm
  simp only [PC.ev,zy] at hv
  obtain ⟨s1,h1,h2⟩ := hv
  split at h2
  ·rename_i hap
   cases h2
   cases draw with
   | false => exact region_seq hm.1 hc Q (fun a w hs => hQ a w hs) hs h1
   | true => exact region_draw hmo hm.1 (by simpa using hm.2) hc Q (fun a w hs => hQ a w hs) hap hs h1
  ·cases h2
 | seq x y hx hy =>
  intro c hm st ex st' hv w a Q hs hQ
  cases c <;> simp only [mt] at hm <;> try (cases hm; done)
  simp only [zu] at hm
  simp only [PC.ev,zy] at hv
  obtain ⟨⟨e1,s1⟩,h1,h2⟩ := hv
  refine wp_seq (hx _ hm.1 st e1 s1 h1 w a _ hs fun a' w' hs' => ?_)
  cases e1 with
  | normal => exact hy _ hm.2 s1 ex st' h2 w' a' Q hs' hQ
  | exit i => cases h2; exact hQ a' w' hs'
  | ret => cases h2; exact hQ a' w' hs'
 | cond b x y hx hy =>
  intro c hm st ex st' hv w a Q hs hQ
  cases c <;> simp only [mt] at hm <;> try (cases hm; done)
  simp only [zu] at hm
  obtain ⟨⟨hb,hmx⟩,hmy⟩ := hm
  simp only [PC.ev] at hv
  split at hv
  ·rename_i q hq
   have hs0 := hs
   obtain ⟨_,_,T,ρ,k,he⟩ := hs0
   have := ma_rv k he hb
   rw [hq] at this
   refine wp_cond (inv_b this) ?_
   cases q with
   | true => exact hx _ hmx st ex st' hv w a Q hs hQ
   | false => exact hy _ hmy st ex st' hv w a Q hs hQ
  ·cases hv
 | block i x hx =>
  intro c hm st ex st' hv w a Q hs hQ
  cases c <;> simp only [mt] at hm <;> try (cases hm; done)
  simp only [zu,beq_iff_eq] at hm
  obtain ⟨rfl,hm⟩ := hm
  simp only [PC.ev,zw] at hv
  obtain ⟨⟨e1,s1⟩,h1,h2⟩ := hv
  refine wp_block (hx _ hm st e1 s1 h1 w a _ hs fun a' w' hs' => ?_)
  cases e1 with
  | normal => cases h2; exact hQ a' w' hs'
  | ret => cases h2; exact hQ a' w' hs'
  | exit j =>
   show if j = i then Q .normal a' w' else Q (.exit j) a' w'
   simp only at h2
   split at h2
   ·rename_i hj; rw [if_pos hj]; cases h2; exact hQ a' w' hs'
   ·rename_i hj; rw [if_neg hj]; cases h2; exact hQ a' w' hs'
 | loop live out x hx =>
  intro c hm st ex st' hv w a Q hs hQ
  cases c <;> simp only [mt] at hm <;> try (cases hm; done)
  simp only [zu] at hm
  obtain ⟨⟨hl,ho⟩,hm⟩ := hm
  simp only [PC.ev,zy,zw] at hv
  obtain ⟨vs,h1,⟨e1,outs⟩,h2,h3⟩ := hv
  cases h3
  exact hlp live out x _ vs e1 outs hl ho hm h2 w a Q (canon_sim hs hl h1) hQ
 | join out x hx =>
  intro c hm st ex st' hv w a Q hs hQ
  simp only [mt,zu] at hm
  simp only [PC.ev,zy,zw] at hv
  obtain ⟨⟨e1,s1⟩,h1,vs,h2,h3⟩ := hv
  cases h3
  exact hx c hm.2 st e1 s1 h1 w a Q hs fun a' w' hs' => hQ a' w' (canon_sim hs' hm.1 h2)
 | digs y hy =>
  intro c hm st ex st' hv w a Q hs hQ
  simp only [mt,zu,decide_eq_true_eq] at hm
  obtain ⟨hnt,hm⟩ := hm
  split at hm
  ·rename_i d hd
   simp only [PC.ev] at hv
   split at hv
   ·rename_i s hst
    have hs0 := hs
    obtain ⟨hsz,hdf,T,ρ,k,he⟩ := hs0
    have h0 := he 0
    rw [hst] at h0
    have hsim : ∀ a' w',Old w w' → AE a a' → Sim f nt w' ⟨junkE digT st.env,st.h⟩ a' := by
     intro a' w' ho hae
     have := hs.old ho
     obtain ⟨g1,g2,T',ρ',k',e'⟩ := this
     refine ⟨by rw [hae.1]; exact g1,by rw [hae.2.1]; exact g2,T',ρ',k',fun t => ?_⟩
     show Rv w' T' ρ' (if t ∈ digT then .junk else st.env t) _
     split
     ·exact .junk
     ·rename_i ht
      rw [hae.2.2 t ht]
      exact e' t
    refine digs_wp hd (inv_s h0) (zE hnt hsz) (fun hb a' w' ho hae => ?_) fun hb a' w' ho hae => ?_
    ·rw [if_pos hb] at hv
     cases hv
     exact hQ a' w' (hsim a' w' ho hae)
    ·rw [if_neg (by simp [hb])] at hv
     simp only [zy] at hv
     obtain ⟨⟨e1,s1⟩,h1,h2⟩ := hv
     cases e1 with
     | ret =>
      cases h2
      exact hy _ hm _ _ _ h1 w' a' _ (hsim a' w' ho hae) fun a3 w3 hs3 => ⟨rfl,hQ a3 w3 hs3⟩
     | normal => cases h2
     | exit i => cases h2
   ·cases hv
  ·cases hm
theorem loops_ok (hmo : P.follows .mixedOrders = true) {call : Call} (hc : CallsOk P F f.tabs call) : ∀ n k,k ≤ n → LoopsOk P F f nt (loopF call k) := by
 intro n
 induction n with
 | zero =>
  intro k hk live out x c vs ex outs _ _ _ hv
  have : k = 0 := by omega
  subst this
  cases hv
 | succ n ih =>
  intro k hk live out x c vs ex outs hl ho hm hv w a Q hs hQ
  refine wp_loop_ghost (fun j a w => j ≤ k ∧ ∃ vs,loopF call j live out x vs = some (ex,outs) ∧ Sim f nt w (un live vs) a) k ⟨zz _,vs,hv,hs⟩ ?_
  rintro j a w ⟨hj,vs,hv,hs⟩
  cases j with
  | zero => cases hv
  | succ j =>
   simp only [loopF,zy] at hv
   obtain ⟨⟨e1,s1⟩,h1,h2⟩ := hv
   refine pc_sound hmo hc (ih j (by omega)) x c hm (un live vs) e1 s1 h1 w a _ hs fun a' w' hs' => ?_
   cases e1 with
   | normal =>
    simp only [round,zy] at h2
    obtain ⟨vs',h3,h4⟩ := h2
    exact ⟨j,Nat.lt_succ_self j,by omega,vs',h4,canon_sim hs' hl h3⟩
   | exit i =>
    simp only [round,zw] at h2
    obtain ⟨vs',h3,h4⟩ := h2
    cases h4
    exact hQ a' w' (canon_sim hs' ho h3)
   | ret =>
    simp only [round,zw] at h2
    obtain ⟨vs',h3,h4⟩ := h2
    cases h4
    exact hQ a' w' (canon_sim hs' ho h3)
end
def mres (P : Program) : List ResultVar → List (PR × Nat) → Bool
 | [],[] => true
 | .tmp t :: l,(.tmp t',_) :: m => t == t' && mres P l m
 | .cell t ty :: l,(.cell t' ag sz,_) :: m => t == t' && decide (aggT P ty = some ag) && decide (szT P ty = some sz) && mres P l m
 | _,_ => false
def fnOk (P : Program) (F : Fns) (tabs : List (Nat × List AV)) (f : Nat) (p : PF) : Bool := match P.funcs[F.2 f]? with
 | some fn => match fn.body with
  | some c => mt P F tabs (p.lent.map lid) fn.ntmps p.body c && mres P fn.results.toList p.res && listOk (p.lent.map lid) (resL p.res p.lent)
  | none => false
 | none => false
section
variable {P : Program} {F : Fns} {f : Fr} {nt : Nat} {w : World} {T : Nat → Prop} {ρ : Rho} {h : Heap} {e : Nat → AV} {a : Act}
def resOne (P : Program) (tmps : Array Value) : ResultVar → Sem Value
 | .tmp t => pure (tmps.getD t undef)
 | .cell a t => do loadVar t (← asAddr (tmps.getD a undef))
theorem res_run (k : WInv f w T ρ h) (he : Env w T ρ e a) : ∀ {l : List ResultVar} {m : List (PR × Nat)} {rs : List AV},mres P l m = true → resV ⟨e,h⟩ m = some rs →
  ∃ vs : List Value,(l.mapM (resOne P a.tmps)).run P w = .ok vs w ∧ vs.length = l.length ∧ l.length = m.length ∧ rs.length = m.length ∧ ∀ j,j < rs.length → Rv w T ρ (rs.getD j .junk) (vs.getD j undef) := by
 intro l
 induction l with
 | nil =>
  intro m rs hm hr
  cases m with
  | nil => cases hr; exact ⟨[],rfl,rfl,rfl,rfl,fun j hj => by cases hj⟩
  | cons => cases hm
 | cons x l ih =>
  intro m rs hm hr
  cases m with
  | nil => cases x <;> cases hm
  | cons y m =>
   obtain ⟨pr,q⟩ := y
   simp only [resV,zy,zw] at hr
   obtain ⟨v,h1,rs',h2,rfl⟩ := hr
   have one : (∃ u,(resOne P a.tmps x).run P w = .ok u w ∧ Rv w T ρ v u) ∧ mres P l m = true := by
    cases x with
    | tmp t =>
     cases pr with
     | cell => cases hm
     | tmp t' =>
      simp only [mres,zu,beq_iff_eq] at hm
      obtain ⟨rfl,hm⟩ := hm
      cases h1
      exact ⟨⟨_,rfl,he t⟩,hm⟩
    | cell t ty =>
     cases pr with
     | tmp => cases hm
     | cell t' ag sz =>
      simp only [mres,zu,beq_iff_eq,decide_eq_true_eq] at hm
      obtain ⟨⟨⟨rfl,h3⟩,h4⟩,hm⟩ := hm
      refine ⟨?_,hm⟩
      simp only [PR.ev,ldV,zy] at h1
      obtain ⟨⟨cs,i⟩,hp,hc⟩ := h1
      obtain ⟨b,base,hx,hcell⟩ := ptr_cells k (he t) hp
      obtain ⟨u,h5,h6,_⟩ := load_var h3 h4 hcell hc
      have hx' : a.tmps.getD t undef = .pointer (some ⟨b,base + i,none⟩) := hx
      exact ⟨u,by simp only [resOne,hx',asAddr]; simpa using h5,h6⟩
   obtain ⟨⟨u,h3,h4⟩,hm'⟩ := one
   obtain ⟨vs,h5,h6,h7,h8,h9⟩ := ih hm' h2
   refine ⟨u :: vs,?_,by simp [h6],by simp [h7],by simp [h8],fun j hj => ?_⟩
   ·simp [h3,h5]
   ·cases j with
    | zero => exact h4
    | succ j => exact h9 j (by simpa using hj)
theorem results_run (k : WInv f w T ρ h) (he : Env w T ρ e a) {fn : Func} {m : List (PR × Nat)} {rs : List AV} (hm : mres P fn.results.toList m = true) (hr : resV ⟨e,h⟩ m = some rs) :
  ∃ vs : Array Value,(results fn a.tmps).run P w = .ok (oneR vs) w ∧ vs.size = m.length ∧ rs.length = m.length ∧ ∀ j,j < rs.length → Rv w T ρ (rs.getD j .junk) (vs.getD j undef) := by
 obtain ⟨vs,h1,h2,h3,h4,h5⟩ := res_run k he hm hr
 refine ⟨vs.toArray,?_,by simp [h2,h3],h4,fun j hj => by simpa [zo] using h5 j hj⟩
 have e1 : results fn a.tmps = (fn.results.mapM (resOne P a.tmps) >>= fun vs => pure (oneR vs)) := rfl
 have e2 : fn.results.mapM (resOne P a.tmps) = List.toArray <$> fn.results.toList.mapM (resOne P a.tmps) := by
  rw [← List.mapM_toArray]
 rw [e1,e2]
 simp [h1]
theorem envL_get : ∀ (l : List AV) (k t : Nat),envL k l t = if k ≤ t then l.getD (t - k) .junk else .junk := by
 intro l
 induction l with
 | nil => intro k t; simp [envL]
 | cons x l ih =>
  intro k t
  simp only [envL,upd,ih]
  by_cases h1 : t = k
  ·subst h1; simp
  ·simp only [h1,if_false]
   by_cases h2 : k + 1 ≤ t
   ·rw [if_pos h2,if_pos (by omega),show t - k = (t - (k + 1)) + 1 by omega]; rfl
   ·rw [if_neg h2,if_neg (by omega)]
theorem pack_length {e : Nat → AV} : ∀ {l : List (Nat × Nat)} {ls : List Nat} {h : Heap} {vs : List AV},pack e ls h l = some vs → vs.length = l.length := by
 intro l
 induction l with
 | nil => intro ls h vs hp; cases hp; rfl
 | cons p l ih =>
  intro ls h vs hp
  obtain ⟨t,q⟩ := p
  match q with
  | 0 =>
   simp only [pack,zw] at hp
   obtain ⟨us,h1,rfl⟩ := hp
   simp [ih h1]
  | 1 =>
   simp only [pack,zy,zw] at hp
   obtain ⟨q,_,us,h1,rfl⟩ := hp
   simp [ih h1]
  | 2 =>
   simp only [pack,zy,zw] at hp
   obtain ⟨q,_,us,h1,rfl⟩ := hp
   simp [ih h1]
  | 3 =>
   simp only [pack,zy,zw] at hp
   obtain ⟨q,_,us,h1,rfl⟩ := hp
   simp [ih h1]
  | 4 =>
   simp only [pack,zy,zw] at hp
   obtain ⟨q,_,us,h1,rfl⟩ := hp
   simp [ih h1]
  | 5 =>
   simp only [pack,zy,zw] at hp
   obtain ⟨q,_,us,h1,rfl⟩ := hp
   simp [ih h1]
  | n + 6 =>
   simp only [pack,zy,zw] at hp
   obtain ⟨q,_,us,h1,rfl⟩ := hp
   simp [ih h1]
theorem fn_sound (hmo : P.follows .mixedOrders = true) {tabs : List (Nat × List AV)} {g : Nat} {p : PF} (hf : fnOk P F tabs g p = true) {call : Call} (hc : CallsOk P F tabs call) {n : Nat} {xs : List AV} {r : AV}
  (hv : (p.body.ev call (loopF call n) (un (parN p.lent 0 xs) xs)).bind (finE p) = some r) : CallOk P (F.2 g) p.res p.lent tabs xs r := by
 intro fr ρ vs ht hl hsz hw he
 unfold fnOk at hf
 cases hfn : P.funcs[F.2 g]? with
 | none => rw [hfn] at hf; cases hf
 | some fn =>
  rw [hfn] at hf
  simp only at hf
  cases hb : fn.body with
  | none => rw [hb] at hf; cases hf
  | some c =>
   rw [hb] at hf
   simp only [zu] at hf
   obtain ⟨⟨h1,h2⟩,h3⟩ := hf
   subst ht
   rw [← hl] at h1 h3
   simp only [zy] at hv
   obtain ⟨⟨ex,st⟩,h4,h5⟩ := hv
   refine calls_of_wp hfn hb ?_
   have hs : Sim fr fn.ntmps fr.w0 (un (parN p.lent 0 xs) xs) { tmps := vs ++ Array.replicate (fn.ntmps - vs.size) undef,defers := [] } := by
    refine ⟨by simp; omega,rfl,fr.T0,ρ,hw,fun t => ?_⟩
    have := he t
    have e1 : (vs ++ Array.replicate (fn.ntmps - vs.size) undef).getD t undef = vs.getD t undef := by
     by_cases h : t < vs.size
     ·simp [Array.getElem?_append,h]
     ·simp only [Array.getD_eq_getD_getElem?,Array.getElem?_append,h,if_false]
      rw [Array.getElem?_eq_none (show vs.size ≤ t by omega)]
      cases hq : (Array.replicate (fn.ntmps - vs.size) undef)[t - vs.size]? with
      | none => rfl
      | some u =>
       have := Array.getElem?_eq_some_iff.1 hq
       obtain ⟨h6,h7⟩ := this
       simp at h7
       simp [← h7]
    rw [e1]
    exact this
   refine pc_sound hmo hc (loops_ok hmo hc n n (zz _)) p.body c h1 _ ex st h4 fr.w0 _ _ hs fun a' w' hs' => ?_
   have fine : finE p (.ret,st) = some r → a'.defers = [] ∧ ∃ v,(results fn a'.tmps).run P w' = .ok v w' ∧ ∃ out vals T' ρ',Ending.returned v = .returned (oneR vals) ∧ vals.size = p.res.length ∧ out.length = (resL p.res p.lent).length ∧ r = retV p.lent out ∧
     WInv fr w' T' ρ' (un (resL p.res p.lent) out).h ∧ Env w' T' ρ' (un (resL p.res p.lent) out).env ⟨vals,[]⟩ ∧ Flat w' T' (un (resL p.res p.lent) out).env ⟨vals,[]⟩ := by
    intro h5
    obtain ⟨_,hd,T,ρ1,k,he1⟩ := hs'
    refine ⟨hd,?_⟩
    simp only [finE,fin,zy,zw] at h5
    obtain ⟨rs,h6,out,h7,rfl⟩ := h5
    obtain ⟨vals,h8,h9,h10,h11⟩ := results_run k he1 h2 h6
    have he2 : Env w' T ρ1 (envL 0 rs) ⟨vals,[]⟩ := by
     intro t
     rw [envL_get]
     simp only [Nat.zero_le,if_true,Nat.sub_zero]
     by_cases h12 : t < rs.length
     ·exact h11 t h12
     ·rw [zo,jf (by omega)]; exact .junk
    simp only [listOk,zu] at h3
    obtain ⟨T',ρ',k',e',fl⟩ := canon k he2 h3.1 (nodB_spec h3.2) h7
    exact ⟨oneR vals,h8,out,vals,T',ρ',rfl,h9,pack_length h7,rfl,k',e',fl⟩
   cases ex with
   | exit i => cases h5
   | normal => exact fine h5
   | ret => exact fine h5
theorem runF_okE (hmo : P.follows .mixedOrders = true) {tabs : List (Nat × List AV)} {G : Nat → Option PF} (hF : ∀ g p,F.1 g = some p → (fnOk P F tabs g p = true ∧ G g = some p) ∨ ∀ xs r,xs.length = arOf P (F.2 g) → R G g xs = some r → CallOk P (F.2 g) p.res p.lent tabs xs r) : ∀ k,CallsOk P F tabs (runF G k) := by
 intro k
 induction k with
 | zero => intro g p xs r _ _ hv; cases hv
 | succ k ih =>
  intro g p xs r hp har hv
  rcases hF g p hp with ⟨h1,h2⟩ | h1
  ·simp only [runF,h2,zN] at hv
   exact fn_sound hmo h1 ih hv
  ·exact h1 xs r har ((R_some G).2 ⟨k + 1,hv⟩)
theorem runF_ok (hmo : P.follows .mixedOrders = true) {tabs : List (Nat × List AV)} {G : Nat → Option PF} (hF : ∀ g p,F.1 g = some p → fnOk P F tabs g p = true ∧ G g = some p) : ∀ k,CallsOk P F tabs (runF G k) := runF_okE hmo fun g p hp => .inl (hF g p hp)
theorem R_ok (hmo : P.follows .mixedOrders = true) {tabs : List (Nat × List AV)} {G : Nat → Option PF} (hF : ∀ g p,F.1 g = some p → fnOk P F tabs g p = true ∧ G g = some p) : CallsOk P F tabs (R G) := by
 intro g p xs r hp har hv
 obtain ⟨k,hk⟩ := (R_some G).1 hv
 exact runF_ok hmo hF k g p xs r hp har hk
end
inductive CK where
 | int (k : IntKind)
 | bool
 | str
 | sl (cs : List CK)
 deriving Inhabited
inductive Fit : CK → AV → Prop
 | int {k n} (h : (Lit.int k n).wf = true) : Fit (.int k) (.i k n)
 | bool {b} : Fit .bool (.b b)
 | str {s : ByteArray} (h : s.size ≤ maxLen) : Fit .str (.s s)
 | sl {cs es} (hl : es.length ≤ maxLen) (hz : ∀ j,j < es.length → (es.getD j []).length = cs.length) (hv : ∀ j c,j < es.length → c < cs.length → Fit (cs.getD c default) ((es.getD j []).getD c .junk)) : Fit (.sl cs) (.l cs.length es)
def fieldsOk (r : TypeId → List CK → Bool) (P : Program) : List Field → Nat → List CK → Bool
 | [],_,cs => cs.isEmpty
 | f :: fs,o,cs => decide (f.offset = o) && decide (P.cellsOf f.type ≤ cs.length) && r f.type (cs.take (P.cellsOf f.type)) && fieldsOk r P fs (o + P.cellsOf f.type) (cs.drop (P.cellsOf f.type))
def tyOk (P : Program) : Nat → TypeId → List CK → Bool
 | 0,_,_ => false
 | n + 1,t,cs => match P.underlying t,cs with
  | some .bool,[.bool] => true
  | some (.int k),[.int k'] => decide (k = k')
  | some .string,[.str] => true
  | some (.slice e),[.sl ds] => decide (P.cellsOf e = ds.length) && decide (0 < ds.length) && tyOk P n e ds
  | some (.struct fs),cs => decide (cs.length = P.cellsOf t) && fieldsOk (tyOk P n) P fs.toList 0 cs
  | _,_ => false
structure CellsRv (w : World) (ks : List CK) (acs : List AV) (cs : List Value) : Prop where
 l1 : acs.length = ks.length
 l2 : cs.length = ks.length
 fit : ∀ c,c < ks.length → Fit (ks.getD c default) (acs.getD c .junk)
 rv : ∀ c,c < ks.length → Rv w (fun _ => False) Rho.none (acs.getD c .junk) (cs.getD c undef) ∧ (cs.getD c undef).oneCell' = true
theorem CellsRv.one {w : World} {k : CK} {x : AV} {v : Value} (h1 : Fit k x) (h2 : Rv w (fun _ => False) Rho.none x v) (h3 : v.oneCell' = true) : CellsRv w [k] [x] [v] := by
 refine ⟨rfl,rfl,fun c hc => ?_,fun c hc => ?_⟩
 ·cases c with
  | zero => exact h1
  | succ c => simp at hc
 ·cases c with
  | zero => exact ⟨h2,h3⟩
  | succ c => simp at hc
theorem CellsRv.append {w : World} {k1 k2 : List CK} {a1 a2 : List AV} {c1 c2 : List Value} (x : CellsRv w k1 a1 c1) (y : CellsRv w k2 a2 c2) : CellsRv w (k1 ++ k2) (a1 ++ a2) (c1 ++ c2) := by
 have g : ∀ {α : Type} (l m : List α) (i : Nat) (d : α),(l ++ m).getD i d = if i < l.length then l.getD i d else m.getD (i - l.length) d := by
  intro α l m i d
  simp only [zo,List.getElem?_append]
  split <;> rfl
 refine ⟨by simp [x.l1,y.l1],by simp [x.l2,y.l2],fun c hc => ?_,fun c hc => ?_⟩
 ·rw [g,g,x.l1]
  rw [zx] at hc
  split
  ·rename_i h; exact x.fit c h
  ·exact y.fit _ (by omega)
 ·rw [g,g,x.l1,x.l2]
  rw [zx] at hc
  split
  ·rename_i h; exact x.rv c h
  ·exact y.rv _ (by omega)
section
variable {H : Type} {enc : TypeId × Value → H} {P : Program} {w : World} {base : Nat} {spare : Nat → Bool} {held : Bool}
theorem fields_rv {fuel : Nat} {r : TypeId → List CK → Bool} (ih : ∀ t cs x ks,DataW.trod enc P w base spare held fuel t cs = some x → r t ks = true → ∃ acs,CellsRv w ks acs cs) {cs : List Value} : ∀ (fs : List Field) (o : Nat) (ks : List CK),fieldsOk r P fs o ks = true →
  (∀ f ∈ fs,∃ y,DataW.trod enc P w base spare held fuel f.type ((cs.drop f.offset).take (P.cellsOf f.type)) = some y) → cs.length = o + ks.length → ∃ acs,CellsRv w ks acs (cs.drop o) := by
 intro fs
 induction fs with
 | nil =>
  intro o ks hf _ hl
  have : ks = [] := by simpa [fieldsOk] using hf
  subst this
  rw [zW (by simp at hl; omega)]
  exact ⟨[],rfl,rfl,fun c hc => (by cases hc),fun c hc => (by cases hc)⟩
 | cons f fs ihf =>
  intro o ks hf hy hl
  simp only [fieldsOk,zu,decide_eq_true_eq] at hf
  obtain ⟨⟨⟨h1,h2⟩,h3⟩,h4⟩ := hf
  obtain ⟨y,hy1⟩ := hy f zG
  rw [h1] at hy1
  obtain ⟨a1,r1⟩ := ih _ _ _ _ hy1 h3
  obtain ⟨a2,r2⟩ := ihf _ _ h4 (fun f hf => hy f (zH _ hf)) (by rw [jd]; omega)
  have := r1.append r2
  rw [List.take_append_drop] at this
  refine ⟨a1 ++ a2,?_⟩
  have e : (cs.drop o).take (P.cellsOf f.type) ++ cs.drop (o + P.cellsOf f.type) = cs.drop o := by
   rw [← List.drop_drop,List.take_append_drop]
  rw [e] at this
  exact this
theorem choose_list {α : Type} (d : α) {n : Nat} {Q : Nat → α → Prop} (h : ∀ j,j < n → ∃ x,Q j x) : ∃ l : List α,l.length = n ∧ ∀ j,j < n → Q j (l.getD j d) := by
 induction n with
 | zero => exact ⟨[],rfl,fun j hj => by cases hj⟩
 | succ n ih =>
  obtain ⟨l,h1,h2⟩ := ih fun j hj => h j (by omega)
  obtain ⟨x,hx⟩ := h n (by omega)
  refine ⟨l ++ [x],by simp [h1],fun j hj => ?_⟩
  rcases jl j n with hlt | hge
  ·rw [zo,List.getElem?_append_left (by omega),← zo]
   exact h2 j hlt
  ·have : j = n := by omega
   subst this
   rw [zo,jc (by omega),h1,Nat.sub_self]
   exact hx
theorem cells?_each {a : Addr} {n : Nat} {l : List Value} (h : w.cells? base a n = some l) : l.length = n ∧ ∀ i,i < n → w.cell? (a.add i) = l[i]? := by
 unfold World.cells? at h
 split at h
 ·exact ⟨by simpa using mapM_some_length h,fun i hi => by simpa using mapM_some_get h i i (by simp [hi])⟩
 ·cases h
theorem spot_none {a : Addr} {v : Value} (h : w.cell? a = some v) : a.spot = none := by
 unfold World.cell? at h
 split at h
 ·cases hs : a.spot with
  | none => rfl
  | some s => rw [hs] at h; simp at h
 ·cases h
theorem cell_lt {a : Addr} {v : Value} (h : w.cell? a = some v) : a.block < w.heap.size := by
 unfold World.cell? at h
 split at h
 ·rename_i c e fr hc
  exact (Array.getElem?_eq_some_iff.1 hc).1
 ·cases h
theorem trod_rv : ∀ (fuel n : Nat) (t : TypeId) (cs : List Value) (x : DataW H × List MemPlace) (ks : List CK),DataW.trod enc P w base spare held fuel t cs = some x → tyOk P n t ks = true → ∃ acs,CellsRv w ks acs cs := by
 intro fuel
 induction fuel with
 | zero => intro n t cs x ks h; simp [DataW.trod] at h
 | succ fuel ih =>
  intro n t cs x ks h hty
  cases n with
  | zero => simp [tyOk] at hty
  | succ n =>
   have h0 := h
   unfold tyOk at hty
   split at hty
   ·rename_i hu
    unfold DataW.trod at h
    rw [hu] at h
    split at h <;> simp_all
    exact ⟨_,.one .bool .b rfl⟩
   ·rename_i k k' hu
    simp only [decide_eq_true_eq] at hty
    subst hty
    unfold DataW.trod at h
    rw [hu] at h
    split at h <;> simp_all
    obtain ⟨⟨rfl,hw⟩,_⟩ := h
    exact ⟨_,.one (.int hw) .i rfl⟩
   ·rename_i hu
    unfold DataW.trod at h
    rw [hu] at h
    split at h <;> simp_all
    exact ⟨_,.one (.str h.1) .s rfl⟩
   ·rename_i e ds hu
    simp only [zu,decide_eq_true_eq] at hty
    obtain ⟨⟨hz,hpos⟩,hty⟩ := hty
    rcases DataW.trod_slice hu h0 with ⟨rfl,_⟩ | ⟨a,len,cap,elems,rest,m,hm,rfl,_,hb,hl,hc,hlen,hel,_,_⟩
    ·exact ⟨[.l ds.length []],.one (.sl (Nat.zero_le _) (fun j hj => by cases hj) (fun j c hj => by cases hj)) .lnil0 rfl⟩
    ·have : m = fuel := by omega
     subst this
     rcases Nat.eq_zero_or_pos len with hz0 | hpos0
     ·subst hz0
      exact ⟨[.l ds.length []],.one (.sl (Nat.zero_le _) (fun j hj => by cases hj) (fun j c hj => by cases hj)) (.lnil (fun h => by cases h) hc) rfl⟩
     ·have each : ∀ i,i < len → ∃ acs,∃ ci : List Value,CellsRv w ds acs ci ∧ ∀ c,c < ds.length → w.cell? ((a.add (i * ds.length)).add c) = ci[c]? := by
       intro i hi
       have h1 := hel i hi
       rw [hz] at h1
       have h2 : ∃ y,elems[i]? = some y := ⟨elems[i]'(by omega),zr (by omega)⟩
       obtain ⟨y,hy⟩ := h2
       rw [hy,zy] at h1
       obtain ⟨ci,h3,h4⟩ := h1
       obtain ⟨acs,h5⟩ := ih n e ci y ds h4 hty
       exact ⟨acs,ci,h5,(cells?_each h3).2⟩
      obtain ⟨es,hes,hq⟩ := choose_list (α := List AV) [] each
      have first : ∃ v,w.cell? ((a.add (0 * ds.length)).add 0) = some v := by
       obtain ⟨ci,h1,h2⟩ := hq 0 hpos0
       have h3 := h2 0 hpos
       rw [zr (by rw [h1.l2]; exact hpos)] at h3
       exact ⟨_,h3⟩
      obtain ⟨v0,hv0⟩ := first
      have hsp := spot_none hv0
      rw [show (a.add (0 * ds.length)).add 0 = a by simp [Addr.add]] at hsp
      obtain ⟨ab,ao,asp⟩ := a
      simp only at hsp
      subst hsp
      have hlt := cell_lt hv0
      rw [add_at,add_at] at hlt
      have hcell : ∀ j c,j < es.length → c < ds.length → ∃ v,w.cell? ⟨ab,ao + j * ds.length + c,none⟩ = some v ∧ v.oneCell' = true ∧ Rv w (fun _ => False) Rho.none ((es.getD j []).getD c .junk) v := by
       intro j c hj hc'
       obtain ⟨ci,h1,h2⟩ := hq j (by omega)
       have h3 := h2 c hc'
       rw [add_at,add_at] at h3
       have h4 := h1.rv c hc'
       rw [zr (by rw [h1.l2]; exact hc')] at h3
       have h5 : ci.getD c undef = ci[c]'(by rw [h1.l2]; exact hc') := by
        rw [zo,zr (by rw [h1.l2]; exact hc')]; rfl
       rw [h5] at h4
       exact ⟨_,h3,h4.2,h4.1⟩
      refine ⟨[.l ds.length es],.one (.sl (by omega) (fun j hj => ?_) (fun j c hj hc' => ?_)) ?_ rfl⟩
      ·obtain ⟨ci,h1,h2⟩ := hq j (by omega)
       exact h1.l1
      ·obtain ⟨ci,h1,h2⟩ := hq j (by omega)
       exact h1.fit c hc'
      ·have := Rv.l (w := w) (T := fun _ => False) (ρ := Rho.none) (z := ds.length) (es := es) (b := ab) (base := ao) (cap := cap) (fun j c => (w.cell? ⟨ab,ao + j * ds.length + c,none⟩).getD undef) (fun h => h) hlt (by omega) hc
        (fun j hj => by
         obtain ⟨ci,h1,h2⟩ := hq j (by omega)
         exact h1.l1)
        (fun j c hj hc' => by
         obtain ⟨v,h1,h2,h3⟩ := hcell j c hj hc'
         rw [h1]
         exact ⟨rfl,h2⟩)
        (fun j c hj hc' => by
         obtain ⟨v,h1,h2,h3⟩ := hcell j c hj hc'
         rw [h1]
         exact h3)
       rw [hes] at this
       exact this
   ·rename_i ks _ _ fs hu
    simp only [zu,decide_eq_true_eq] at hty
    obtain ⟨hl,hty⟩ := hty
    have h1 : cs.length = P.cellsOf t ∧ ∀ f ∈ fs.toList,∃ y,DataW.trod enc P w base spare held fuel f.type ((cs.drop f.offset).take (P.cellsOf f.type)) = some y := by
     unfold DataW.trod at h
     rw [hu] at h
     simp only at h
     split at h
     ·rename_i hcl
      simp only [zw] at h
      obtain ⟨ys,hys,_⟩ := h
      refine ⟨hcl,fun f hf => ?_⟩
      obtain ⟨i,hi,rfl⟩ := List.getElem_of_mem hf
      have h2 := mapM_some_get hys i _ (zr hi)
      have h3 := mapM_some_length hys
      exact ⟨_,h2.trans (zr (by omega))⟩
     ·cases h
    obtain ⟨acs,h2⟩ := fields_rv (fun t cs x ks => ih n t cs x ks) fs.toList 0 ks hty h1.2 (by omega)
    rw [List.drop_zero] at h2
    exact ⟨acs,h2⟩
   ·cases hty
end
theorem Old.below {w w' : World} (h : Old w w') : RowKit.Below w.heap.size w w' := ⟨h.os,h.tape,h.output,h.size,h.block⟩
theorem law_calls {P : Program} {F : Fns} {C : Call} {tabs : List (Nat × List AV)} (hC : CallsOk P F tabs C) {g : Nat} {p : PF} (hg : F.1 g = some p) (hl : p.lent = []) (hk : ∀ x ∈ p.res,x.2 ≤ 1) {xs : List AV} {r : AV} (har : xs.length = arOf P (F.2 g)) (hr : C g xs = some r) {w : World} {vs : Array Value}
  (ht : ∀ q ∈ tabs,Rv w (fun _ => False) Rho.none (.tp q.2 0) (.pointer (some ⟨q.1,0,none⟩))) (hvl : vs.size = xs.length) (hx : ∀ j,j < xs.length → Rv w (fun _ => False) Rho.none (xs.getD j .junk) (vs.getD j undef)) :
  Calls P (F.2 g) vs w fun e w' => ∃ v,e = .returned v ∧ Old w w' ∧ Rv w' (fun _ => False) Rho.none (demoteT r) v := by
 have hc := hC g p xs r hg har hr
 rw [hl] at hc
 have k : WInv ⟨w,fun _ _ => False,fun _ => False,[],fun _ => ⟨0,0,none⟩,tabs,fun _ => False,fun _ h => (by cases h),fun _ h => h.elim⟩ w (fun _ => False) Rho.none Heap.none :=
  ⟨Keeps.refl _ _,fun b hb => hb.elim,fun _ _ h => (by cases h),fun _ _ => rfl,fun _ _ _ _ _ h => (by cases h),fun _ _ _ _ _ h => (by cases h),fun b hb => hb.elim,fun _ h => (by cases h),fun _ _ _ _ _ _ h => (by cases h),fun b hb => hb.elim,fun _ h => (by cases h),ht⟩
 exact call_told k hk hc hvl hx
theorem law_true {P : Program} {F : Fns} {C : Call} {tabs : List (Nat × List AV)} (hC : CallsOk P F tabs C) {g : Nat} {p : PF} (hg : F.1 g = some p) (hl : p.lent = []) (hk : ∀ x ∈ p.res,x.2 ≤ 1) {xs : List AV} (har : xs.length = arOf P (F.2 g)) (hr : C g xs = some (.b true)) {w : World} {vs : Array Value}
  (ht : ∀ q ∈ tabs,Rv w (fun _ => False) Rho.none (.tp q.2 0) (.pointer (some ⟨q.1,0,none⟩))) (hvl : vs.size = xs.length) (hx : ∀ j,j < xs.length → Rv w (fun _ => False) Rho.none (xs.getD j .junk) (vs.getD j undef)) :
  Calls P (F.2 g) vs w fun e w' => e = .returned (.bool true) ∧ RowKit.Below w.heap.size w w' := by
 refine (law_calls hC hg hl hk har hr ht hvl hx).mono fun e w' hh => ?_
 obtain ⟨v,rfl,ho,hv⟩ := hh
 have h2 : Rv w' (fun _ => False) Rho.none (.b true) v := hv
 cases h2
 exact ⟨rfl,ho.below⟩
def isStr (P : Program) (t : TypeId) : Bool := match P.underlying t with
 | some (.struct _) => true
 | _ => false
theorem CellsRv.single {w : World} {ks : List CK} {acs : List AV} {v : Value} (h : CellsRv w ks acs [v]) : Rv w (fun _ => False) Rho.none (acs.getD 0 .junk) v := by
 have h2 := h.l2
 exact (h.rv 0 (by simp at h2; omega)).1
theorem arg_rv {H : Type} {enc : TypeId × Value → H} {P : Program} {w : World} {base b0 : Nat} {spare : Nat → Bool} {held : Bool} {r : Reach} {t : TypeId} {v : Value} {d : DataW H} {ps : List MemPlace} {n : Nat} {ks : List CK}
  (hval : Value.okWide P w r b0 t v) (hd : DataW.Trod enc P w base spare held t v d ps) (hty : tyOk P (n + 1) t ks = true) :
  ∃ acs : List AV,acs.length = ks.length ∧ (∀ c,c < ks.length → Fit (ks.getD c default) (acs.getD c .junk)) ∧ Rv w (fun _ => False) Rho.none (if isStr P t then .agg acs else acs.getD 0 .junk) v := by
 obtain ⟨fuel,hf⟩ := hd
 obtain ⟨acs,h⟩ := trod_rv fuel (n + 1) t _ _ ks hf hty
 refine ⟨acs,h.l1,h.fit,?_⟩
 unfold tyOk at hty
 unfold isStr
 split at hty
 ·rename_i hu
  obtain ⟨b,rfl⟩ := WideShapes.okWide_bool hu hval
  rw [hu]
  exact h.single
 ·rename_i k k' hu
  obtain ⟨m,rfl⟩ := WideShapes.okWide_int hu hval
  rw [hu]
  exact h.single
 ·rename_i hu
  obtain ⟨m,rfl⟩ := WideShapes.okWide_string hu hval
  rw [hu]
  exact h.single
 ·rename_i e ds hu
  obtain ⟨a,len,cap,rfl⟩ := WideShapes.okWide_slice hu hval
  rw [hu]
  exact h.single
 ·rename_i ks _ _ fs hu
  obtain ⟨cs,rfl,hcs⟩ := WideShapes.okWide_struct hu hval
  rw [hu]
  have h' : CellsRv w ks acs cs.toList := h
  refine .agg cs (by rw [h'.l1,← h'.l2]; simp) (fun c hc => ?_) fun c hc => ?_
  ·rw [toList_getD]; exact (h'.rv c (by rw [← h'.l1]; exact hc)).2
  ·rw [toList_getD]; exact (h'.rv c (by rw [← h'.l1]; exact hc)).1
 ·cases hty
theorem Fit.inv_int {k : IntKind} {x : AV} (h : Fit (.int k) x) : ∃ n,x = .i k n ∧ (Lit.int k n).wf = true := by cases h; exact ⟨_,rfl,by assumption⟩
theorem Fit.inv_bool {x : AV} (h : Fit .bool x) : ∃ b,x = .b b := by cases h; exact ⟨_,rfl⟩
theorem Fit.inv_sl {ks : List CK} {x : AV} (h : Fit (.sl ks) x) {α : Type} [Inhabited α] (f : α → List AV) (Q : α → Prop) (hf : ∀ acs : List AV,acs.length = ks.length → (∀ c,c < ks.length → Fit (ks.getD c default) (acs.getD c .junk)) → ∃ a,acs = f a ∧ Q a) :
  ∃ l : List α,x = .l ks.length (l.map f) ∧ l.length ≤ maxLen ∧ ∀ a ∈ l,Q a := by
 cases h with
 | @sl _ es hl hz hv =>
  have each : ∀ j,j < es.length → ∃ a,es.getD j [] = f a ∧ Q a := fun j hj => hf _ (hz j hj) fun c hc => hv j c hj hc
  obtain ⟨l,h1,h2⟩ := choose_list (α := α) default each
  have e : es = l.map f := by
   apply List.ext_getElem (by simp [h1])
   intro j hj hj2
   have := (h2 j hj).1
   rw [zo,zr hj,zo,zr (by omega)] at this
   simpa using this
  refine ⟨l,by rw [← e],by omega,fun a ha => ?_⟩
  obtain ⟨j,hj,rfl⟩ := List.getElem_of_mem ha
  have := (h2 j (by omega)).2
  rw [zo,zr hj] at this
  simpa using this
end Go.Pe
namespace Dg
def vl (B : Int) : List Int → Int
 | [] => 0
 | x :: r => x + B * vl B r
def Dig (B : Int) (l : List Int) : Prop := ∀ x,x ∈ l → 0 ≤ x ∧ x < B
def dg (B : Nat) (n : Nat) : List Int :=
 if h : n = 0 ∨ B < 2 then [] else ((n % B : Nat) : Int) :: dg B (n / B)
termination_by n
decreasing_by exact Nat.div_lt_self (by omega) (by omega)
theorem dg_zero (B : Nat) : dg B 0 = [] := by unfold dg; simp
theorem dg_succ {B n : Nat} (hB : 2 ≤ B) (hn : n ≠ 0) : dg B n = ((n % B : Nat) : Int) :: dg B (n / B) := by
 conv => lhs; unfold dg
 rw [dif_neg (by omega)]
theorem vl_nil (B : Int) : vl B [] = 0 := rfl
theorem vl_cons (B x : Int) (r : List Int) : vl B (x :: r) = x + B * vl B r := rfl
theorem vl_append (B : Int) (l m : List Int) : vl B (l ++ m) = vl B l + B ^ l.length * vl B m := by
 induction l with
 | nil => simp [vl]
 | cons x r ih => simp only [List.cons_append,vl,ih,zF,Int.pow_succ]; grind
theorem vl_take_succ (B : Int) (l : List Int) (n : Nat) : vl B (l.take (n + 1)) = vl B (l.take n) + l.getD n 0 * B ^ n := by
 induction l generalizing n with
 | nil => simp [vl]
 | cons x r ih =>
  cases n with
  | zero => simp [vl]
  | succ n => simp only [List.take_succ_cons,vl,ih,List.getD_cons_succ,Int.pow_succ]; grind
theorem vl_drop_succ (B : Int) (l : List Int) (n : Nat) : vl B (l.drop n) = l.getD n 0 + B * vl B (l.drop (n + 1)) := by
 induction l generalizing n with
 | nil => simp [vl]
 | cons x r ih =>
  cases n with
  | zero => simp [vl]
  | succ n => simpa using ih n
theorem vl_take_drop (B : Int) (l : List Int) (n : Nat) : vl B l = vl B (l.take n) + B ^ n * vl B (l.drop n) := by
 induction n with
 | zero => simp [vl]
 | succ n ih => rw [vl_take_succ,ih,vl_drop_succ B l n,Int.pow_succ]; grind
theorem vl_take_set (B : Int) (l : List Int) (i n : Nat) (v : Int) (h : n ≤ i) : vl B ((l.set i v).take n) = vl B (l.take n) := by
 rw [List.take_set_of_le h]
theorem getD_set (l : List Int) (i j : Nat) (v : Int) (h : i < l.length) : (l.set i v).getD j 0 = if i = j then v else l.getD j 0 := by
 simp only [zo,List.getElem?_set]
 split
 ·rename_i h1; subst h1; simp
 ·rfl
theorem vl_drop_set (B : Int) (l : List Int) (i n : Nat) (v : Int) (h : i < n) : vl B ((l.set i v).drop n) = vl B (l.drop n) := by
 rw [List.drop_set_of_lt h]
theorem vl_set (B : Int) (l : List Int) (i : Nat) (v : Int) (h : i < l.length) : vl B (l.set i v) = vl B l + (v - l.getD i 0) * B ^ i := by
 rw [vl_take_drop B (l.set i v) i,vl_take_drop B l i,vl_take_set _ _ _ _ _ (zz _),vl_drop_succ,vl_drop_succ B l i,vl_drop_set _ _ _ _ _ (Nat.lt_succ_self _),getD_set _ _ _ _ h]
 grind
theorem Dig.getD {B : Int} {l : List Int} (h : Dig B l) (hB : 0 < B) (n : Nat) : 0 ≤ l.getD n 0 ∧ l.getD n 0 < B := by
 rw [zo]
 rcases jl n l.length with hn | hn
 ·rw [zr hn]; exact h _ (List.getElem_mem hn)
 ·rw [jf hn]; simp; exact hB
theorem Dig.take {B : Int} {l : List Int} (h : Dig B l) (n : Nat) : Dig B (l.take n) := fun x hx => h x (List.mem_of_mem_take hx)
theorem Dig.drop {B : Int} {l : List Int} (h : Dig B l) (n : Nat) : Dig B (l.drop n) := fun x hx => h x (List.mem_of_mem_drop hx)
theorem Dig.set {B : Int} {l : List Int} (h : Dig B l) (n : Nat) {v : Int} (h0 : 0 ≤ v) (h1 : v < B) : Dig B (l.set n v) := by
 intro x hx
 rcases List.mem_or_eq_of_mem_set hx with hx | rfl
 ·exact h x hx
 ·exact ⟨h0,h1⟩
theorem Dig.nil {B : Int} : Dig B [] := fun x hx => by simp at hx
theorem Dig.cons {B x : Int} {r : List Int} (h0 : 0 ≤ x) (h1 : x < B) (h : Dig B r) : Dig B (x :: r) := by
 intro y hy
 rcases List.mem_cons.1 hy with rfl | hy
 ·exact ⟨h0,h1⟩
 ·exact h y hy
theorem Dig.append {B : Int} {l m : List Int} (h : Dig B l) (k : Dig B m) : Dig B (l ++ m) := by
 intro y hy
 rcases List.mem_append.1 hy with hy | hy
 ·exact h y hy
 ·exact k y hy
theorem Dig.replicate {B : Int} (hB : 0 < B) (n : Nat) : Dig B (zL n 0) := by
 intro y hy
 rw [List.mem_replicate] at hy
 omega
theorem vl_nonneg {B : Int} {l : List Int} (h : Dig B l) (hB : 0 < B) : 0 ≤ vl B l := by
 induction l with
 | nil => simp [vl]
 | cons x r ih =>
  have h1 := h x (by simp)
  have h2 := ih (fun y hy => h y (by simp [hy]))
  have := Int.mul_nonneg (Int.le_of_lt hB) h2
  simp only [vl]; omega
theorem vl_lt {B : Int} {l : List Int} (h : Dig B l) (hB : 0 < B) : vl B l < B ^ l.length := by
 induction l with
 | nil => simp [vl]
 | cons x r ih =>
  have h1 := h x (by simp)
  have h2 := ih (fun y hy => h y (by simp [hy]))
  have h3 : B * (vl B r + 1) ≤ B * B ^ r.length := Int.mul_le_mul_of_nonneg_left (by omega) (by omega)
  rw [zF,Int.pow_succ,Int.mul_comm _ B]
  simp only [vl]
  have h4 : B * (vl B r + 1) = B * vl B r + B := by grind
  omega
theorem vl_replicate_zero (B : Int) (n : Nat) : vl B (zL n 0) = 0 := by
 induction n with
 | zero => rfl
 | succ n ih => rw [List.replicate_succ,vl,ih]; simp
theorem dg_dig {B : Nat} (hB : 2 ≤ B) (n : Nat) : Dig B (dg B n) := by
 induction n using Nat.strongRecOn with
 | _ n ih =>
  by_cases hn : n = 0
  ·subst hn; rw [dg_zero]; exact Dig.nil
  ·rw [dg_succ hB hn]
   have := Nat.mod_lt n (show 0 < B by omega)
   exact Dig.cons (by omega) (by omega) (ih _ (Nat.div_lt_self (by omega) (by omega)))
theorem vl_dg {B : Nat} (hB : 2 ≤ B) (n : Nat) : vl B (dg B n) = n := by
 induction n using Nat.strongRecOn with
 | _ n ih =>
  by_cases hn : n = 0
  ·subst hn; rw [dg_zero]; rfl
  ·rw [dg_succ hB hn,vl,ih _ (Nat.div_lt_self (by omega) (by omega))]
   have := Nat.mod_add_div n B
   exact_mod_cast this
def Top (l : List Int) : Prop := l ≠ [] → l.getD (l.length - 1) 0 ≠ 0
theorem Top.nil : Top [] := fun h => absurd rfl h
theorem Top.tail {x y : Int} {r : List Int} (h : Top (x :: y :: r)) : Top (y :: r) := by
 intro _
 have := h (by simp)
 simpa using this
theorem dg_eq_nil {B n : Nat} (hB : 2 ≤ B) : dg B n = [] ↔ n = 0 := by
 constructor
 ·intro h
  by_cases hn : n = 0
  ·exact hn
  ·rw [dg_succ hB hn] at h; cases h
 ·rintro rfl; exact dg_zero B
theorem dg_vl {B : Nat} (hB : 2 ≤ B) {l : List Int} (hd : Dig B l) (ht : Top l) : dg B (vl B l).toNat = l := by
 induction l with
 | nil => simp [vl,dg_zero]
 | cons x r ih =>
  have h1 := hd x (by simp)
  have hr : Dig B r := fun y hy => hd y (by simp [hy])
  have hn := vl_nonneg hr (by omega)
  obtain ⟨v,hv⟩ := Int.eq_ofNat_of_zero_le hn
  obtain ⟨y,rfl⟩ := Int.eq_ofNat_of_zero_le h1.1
  have hyB : y < B := by omega
  have htr : Top r := by
   cases r with
   | nil => exact Top.nil
   | cons z r => exact ht.tail
  have ih := ih hr htr
  rw [hv] at ih
  have hval : (vl B ((y : Int) :: r)).toNat = y + B * v := by
   rw [vl,hv]; norm_cast
  rw [hval]
  have hne : y + B * v ≠ 0 := by
   cases r with
   | nil =>
    have := ht (by simp)
    simp at this
    omega
   | cons z r =>
    intro h0
    have hv0 : v = 0 := by
     have : B * v = 0 := by omega
     rcases Nat.mul_eq_zero.1 this with h | h <;> omega
    subst hv0
    simp [dg_zero] at ih
  have hm : (y + B * v) % B = y := by rw [Nat.add_mul_mod_self_left,Nat.mod_eq_of_lt hyB]
  have hq : (y + B * v) / B = v := by rw [Nat.add_mul_div_left _ _ (by omega),Nat.div_eq_of_lt hyB,zX]
  rw [dg_succ hB hne,hm,hq]
  have : (v : Int).toNat = v := by simp
  rw [this] at ih
  rw [ih]
theorem dg_top {B : Nat} (hB : 2 ≤ B) (n : Nat) : Top (dg B n) := by
 induction n using Nat.strongRecOn with
 | _ n ih =>
  by_cases hn : n = 0
  ·subst hn; rw [dg_zero]; exact Top.nil
  ·rw [dg_succ hB hn]
   intro _
   have hlt := Nat.div_lt_self (n := n) (k := B) (by omega) (by omega)
   by_cases h0 : n / B = 0
   ·rw [h0,dg_zero]
    simp
    have := Nat.mod_add_div n B
    rw [h0] at this
    omega
   ·have h2 := ih _ hlt
    rw [dg_succ hB h0] at h2 ⊢
    have := h2 (by simp)
    simpa using this
theorem top_unique {B : Nat} (hB : 2 ≤ B) {l m : List Int} (hl : Dig B l) (hm : Dig B m) (tl : Top l) (tm : Top m) (h : vl B l = vl B m) : l = m := by
 rw [← dg_vl hB hl tl,← dg_vl hB hm tm,h]
end Dg
namespace Go.Pe
theorem w64 {x : Int} (h0 : -9223372036854775808 ≤ x) (h1 : x ≤ 9223372036854775807) : IntKind.i64.wrap x = x := by rw [IntKind.wrap_i64]; omega
theorem w64add {i m : Nat} (h : i + m ≤ 9223372036854775807) : IntKind.i64.wrap ((i : Int) + (m : Int)) = ((i + m : Nat) : Int) := by rw [w64 (by omega) (by omega)]; omega
theorem w64succ {i : Nat} (h : i + 1 ≤ 9223372036854775807) : IntKind.i64.wrap ((i : Int) + 1) = ((i + 1 : Nat) : Int) := by rw [w64 (by omega) (by omega)]; omega
theorem u64w {x : Int} (h0 : 0 ≤ x) (h1 : x ≤ 18446744073709551615) : IntKind.u64.wrap x = x := by
 have : IntKind.u64.wrap x = x % 18446744073709551616 := by simp [IntKind.wrap,IntKind.bits,IntKind.signed]
 rw [this]; omega
theorem u64m (x : Int) : IntKind.u64.wrap x = x % 18446744073709551616 := by simp [IntKind.wrap,IntKind.bits,IntKind.signed]
theorem u64_id (n : Int) (h₀ : 0 ≤ n) (h₁ : n < 2 ^ 64) : IntKind.u64.wrap n = n := by rw [u64m]; omega
theorem and32 {x : Int} (h0 : 0 ≤ x) (h1 : x ≤ 18446744073709551615) : Go.bits .and .u64 x 4294967295 = x % 4294967296 :=
 bits_mask .u64 64 (by decide) u64_id 32 (by decide) x h0 (by omega)
theorem or32 {x y : Int} (hx : 0 ≤ x) (h1 : x ≤ 4294967295) (h2 : 0 ≤ y) (h3 : y ≤ 4294967295) : Go.bits .or .u64 (x * 4294967296) y = x * 4294967296 + y :=
 bits_join .u64 64 (by decide) u64_id 32 (x * 4294967296) y (by omega) (by omega) (by omega) h2 (by omega) (by omega)
theorem wf_u64 {x : Int} (h : (Lit.int .u64 x).wf = true) : 0 ≤ x ∧ x ≤ 18446744073709551615 := by
 simp [Lit.wf,IntKind.min,IntKind.max,IntKind.signed,IntKind.bits] at h
 omega
theorem wf_i64 {x : Int} (h : (Lit.int .i64 x).wf = true) : -9223372036854775808 ≤ x ∧ x ≤ 9223372036854775807 := by
 simp [Lit.wf,IntKind.min,IntKind.max,IntKind.signed,IntKind.bits] at h
 omega
def D (n : Nat) : List Int := Dg.dg 4294967296 n
def E (n : Nat) : List Int := Dg.dg 10000 n
def W (l : List Int) : Nat := (Dg.vl 4294967296 (l.map (· % 4294967296))).toNat
def U (l : List Int) : Prop := ∀ x,x ∈ l → 0 ≤ x ∧ x ≤ 18446744073709551615
theorem D_dig (n : Nat) : Dg.Dig 4294967296 (D n) := Dg.dg_dig (by decide) n
theorem E_dig (n : Nat) : Dg.Dig 10000 (E n) := Dg.dg_dig (by decide) n
theorem D_top (n : Nat) : Dg.Top (D n) := Dg.dg_top (by decide) n
theorem E_top (n : Nat) : Dg.Top (E n) := Dg.dg_top (by decide) n
theorem D_vl (n : Nat) : Dg.vl 4294967296 (D n) = n := Dg.vl_dg (by decide) n
theorem E_vl (n : Nat) : Dg.vl 10000 (E n) = n := Dg.vl_dg (by decide) n
theorem D_U (n : Nat) : U (D n) := fun x hx => by have := D_dig n x hx; omega
theorem D_get (n i : Nat) : 0 ≤ (D n).getD i 0 ∧ (D n).getD i 0 < 4294967296 := (D_dig n).getD (by decide) i
theorem E_get (n i : Nat) : 0 ≤ (E n).getD i 0 ∧ (E n).getD i 0 < 10000 := (E_dig n).getD (by decide) i
theorem D_zero : D 0 = [] := Dg.dg_zero _
theorem E_zero : E 0 = [] := Dg.dg_zero _
theorem D_nil {n : Nat} : D n = [] ↔ n = 0 := Dg.dg_eq_nil (by decide)
theorem E_nil {n : Nat} : E n = [] ↔ n = 0 := Dg.dg_eq_nil (by decide)
theorem map_mod_dig {l : List Int} (h : Dg.Dig 4294967296 l) : l.map (· % 4294967296) = l := by
 conv => rhs; rw [← List.map_id l]
 apply List.map_congr_left
 intro x hx
 have := h x hx
 simp only [id]
 omega
theorem W_dig {l : List Int} (h : Dg.Dig 4294967296 l) : (W l : Int) = Dg.vl 4294967296 l := by
 unfold W
 rw [map_mod_dig h]
 have := Dg.vl_nonneg h (by decide)
 omega
theorem W_D (n : Nat) : W (D n) = n := by
 have := W_dig (D_dig n)
 rw [D_vl] at this
 omega
theorem map_dig (l : List Int) : Dg.Dig 4294967296 (l.map (· % 4294967296)) := by
 intro x hx
 obtain ⟨y,_,rfl⟩ := List.mem_map.1 hx
 omega
theorem W_map (l : List Int) : (W l : Int) = Dg.vl 4294967296 (l.map (· % 4294967296)) := by
 unfold W
 have := Dg.vl_nonneg (map_dig l) (by decide)
 omega
theorem W_nil : W [] = 0 := by simp [W,Dg.vl]
theorem D_of {l : List Int} (hd : Dg.Dig 4294967296 l) (ht : Dg.Top l) {n : Nat} (hv : Dg.vl 4294967296 l = n) : l = D n :=
 Dg.top_unique (B := 4294967296) (by decide) hd (D_dig n) ht (D_top n) (hv.trans (D_vl n).symm)
theorem E_of {l : List Int} (hd : Dg.Dig 10000 l) (ht : Dg.Top l) {n : Nat} (hv : Dg.vl 10000 l = n) : l = E n :=
 Dg.top_unique (B := 10000) (by decide) hd (E_dig n) ht (E_top n) (hv.trans (E_vl n).symm)
theorem len_lt (B : Nat) (hB : 2 ≤ B) (n : Nat) : n < B ^ (Dg.dg B n).length := by
 have h := Dg.vl_lt (Dg.dg_dig hB n) (by omega)
 rw [Dg.vl_dg hB] at h
 exact_mod_cast h
theorem len_le_of_lt (B : Nat) (hB : 2 ≤ B) {n k : Nat} (h : n < B ^ k) : (Dg.dg B n).length ≤ k := by
 induction k generalizing n with
 | zero =>
  have : n = 0 := by simpa using h
  subst this
  rw [Dg.dg_zero]
  simp
 | succ k ih =>
  by_cases hn : n = 0
  ·subst hn
   rw [Dg.dg_zero]
   simp
  ·rw [Dg.dg_succ hB hn,zF]
   have : n / B < B ^ k := by
    rw [Nat.div_lt_iff_lt_mul (by omega)]
    rw [Nat.pow_succ] at h
    exact h
   have := ih this
   omega
theorem len_mono (B : Nat) (hB : 2 ≤ B) {m n : Nat} (h : m ≤ n) : (Dg.dg B m).length ≤ (Dg.dg B n).length :=
 len_le_of_lt B hB (Nat.lt_of_le_of_lt h (len_lt B hB n))
theorem len_lt_imp (B : Nat) (hB : 2 ≤ B) {m n : Nat} (h : (Dg.dg B m).length < (Dg.dg B n).length) : m < n := by
 apply Classical.byContradiction
 intro hc
 have := len_mono B hB (Nat.le_of_not_lt hc)
 omega
def L (n : Nat) : Nat := (D n).length
def LE (n : Nat) : Nat := (E n).length
theorem L_lt (n : Nat) : n < 4294967296 ^ L n := len_lt _ (by decide) n
theorem L_le {n k : Nat} (h : n < 4294967296 ^ k) : L n ≤ k := len_le_of_lt _ (by decide) h
theorem L_mono {m n : Nat} (h : m ≤ n) : L m ≤ L n := len_mono _ (by decide) h
theorem LE_lt (n : Nat) : n < 10000 ^ LE n := len_lt _ (by decide) n
theorem LE_le {n k : Nat} (h : n < 10000 ^ k) : LE n ≤ k := len_le_of_lt _ (by decide) h
theorem LE_mono {m n : Nat} (h : m ≤ n) : LE m ≤ LE n := len_mono _ (by decide) h
theorem add_lt_pow (B : Nat) (hB : 2 ≤ B) {a b i j : Nat} (ha : a < B ^ i) (hb : b < B ^ j) : a + b < B ^ (max i j + 1) := by
 have h1 : B ^ i ≤ B ^ max i j := Nat.pow_le_pow_right (by omega) (Nat.le_max_left _ _)
 have h2 : B ^ j ≤ B ^ max i j := Nat.pow_le_pow_right (by omega) (Nat.le_max_right _ _)
 rw [Nat.pow_succ]
 have h3 : B ^ max i j * 2 ≤ B ^ max i j * B := Nat.mul_le_mul_left _ hB
 omega
theorem mul_lt_pow (B : Nat) (hB : 2 ≤ B) {a b i j : Nat} (ha : a < B ^ i) (hb : b < B ^ j) : a * b < B ^ (i + j) := by
 rw [Nat.pow_add]
 rcases Nat.eq_zero_or_pos b with h | h
 ·subst h
  rw [Nat.mul_zero]
  exact Nat.mul_pos (Nat.pow_pos (by omega)) (Nat.pow_pos (by omega))
 ·exact je ((Nat.mul_lt_mul_right h).2 ha) (Nat.mul_le_mul_left _ (Nat.le_of_lt hb))
theorem L_add (a b : Nat) : L (a + b) ≤ max (L a) (L b) + 1 := L_le (add_lt_pow _ (by decide) (L_lt a) (L_lt b))
theorem L_mul (a b : Nat) : L (a * b) ≤ L a + L b := L_le (mul_lt_pow _ (by decide) (L_lt a) (L_lt b))
theorem LE_mul (a b : Nat) : LE (a * b) ≤ LE a + LE b := LE_le (mul_lt_pow _ (by decide) (LE_lt a) (LE_lt b))
theorem L_W (l : List Int) : L (W l) ≤ l.length := by
 apply L_le
 have := Dg.vl_lt (map_dig l) (by decide)
 rw [← W_map,zC,show (4294967296 : Int) = ((4294967296 : Nat) : Int) from rfl,← Int.natCast_pow] at this
 exact Int.ofNat_lt.1 this
def cmp (a b : Int) : Int := if a < b then -1 else if b < a then 1 else 0
theorem cmp_lt {a b : Int} (h : a < b) : cmp a b = -1 := by unfold cmp; rw [if_pos h]
theorem cmp_gt {a b : Int} (h : b < a) : cmp a b = 1 := by unfold cmp; rw [if_neg (by omega),if_pos h]
theorem cmp_eq {a b : Int} (h : a = b) : cmp a b = 0 := by unfold cmp; rw [if_neg (by omega),if_neg (by omega)]
theorem cmp_lt_iff {a b : Int} : cmp a b < 0 ↔ a < b := by unfold cmp; split <;> (try split) <;> omega
theorem cmp_le_iff {a b : Int} : cmp a b ≤ 0 ↔ a ≤ b := by unfold cmp; split <;> (try split) <;> omega
theorem cmp_eq_iff {a b : Int} : cmp a b = 0 ↔ a = b := by unfold cmp; split <;> (try split) <;> omega
theorem cmp_gt_iff {a b : Int} : 0 < cmp a b ↔ b < a := by unfold cmp; split <;> (try split) <;> omega
theorem cmp_top {B : Nat} {a b x y P : Int} (ha0 : 0 ≤ a) (ha : a < P) (hb0 : 0 ≤ b) (hb : b < P) (h : x < y) : a + x * P < b + y * P := by
 have : (x + 1) * P ≤ y * P := zJ (by omega) (by omega)
 rw [Int.add_mul] at this
 omega
theorem upd_same {e : Nat → AV} {t : Nat} {v : AV} (h : e t = v) : upd e t v = e := by
 funext s
 unfold upd
 split
 ·rename_i hs
  rw [hs,h]
 ·rfl
section
variable (F : Nat → Option PF)
noncomputable def thn (x : Option (Ex × St)) (y : PC) : Option (Ex × St) := x.bind fun p => match p.1 with
 | .normal => Ev F y p.2
 | e => some (e,p.2)
noncomputable def evR (k : List (Nat × Nat)) (os : List POp) (st : St) : Option (Ex × St) := (evs (R F) os st).bind fun st => if apartL st.env k then some (.normal,st) else none
def chkK (b : Bool) (x : Option (Ex × St)) : Option (Ex × St) := if b then x else none
noncomputable def stp (k : List (Nat × Nat)) (x : Option (AV × Heap)) (d : Option Nat) (os : List POp) (e : Nat → AV) : Option (Ex × St) := x.bind fun p => evR F k os ⟨setD e d p.1,p.2⟩
noncomputable def grd (k : List (Nat × Nat)) (z : AV) (t : Nat) (q : Bool) (d : Option Nat) (o : PO) (os : List POp) (e : Nat → AV) (h : Heap) : Option (Ex × St) := match z with
 | .b z => if z = q then stp F k (o.ev (R F) (upd e t (.b q)) h) d os (upd e t (.b q)) else evR F k os ⟨setD (upd e t (.b (!q))) d (.tup []),h⟩
 | .tup [] => evR F k os ⟨setD e d (.tup []),h⟩
 | _ => none
noncomputable def cnd (c : AV) (x y : PC) (st : St) : Option (Ex × St) := match c with
 | .b q => if q then Ev F x st else Ev F y st
 | _ => none
def blk (id : Nat) (x : Option (Ex × St)) : Option (Ex × St) := x.map fun p => match p.1 with
 | .exit j => if j = id then (.normal,p.2) else p
 | _ => p
def ot (e : Ex) (x : Option (List AV)) : Option (Ex × List AV) := x.map fun vs => (e,vs)
def unO (o : List (Nat × Nat)) (x : Option (Ex × List AV)) : Option (Ex × St) := x.map fun p => (p.1,un o p.2)
noncomputable def lpK (x : Option (List AV)) (l o : List (Nat × Nat)) (y : PC) : Option (Ex × St) := x.bind fun vs => unO o (LP F l o y vs)
def jp (o : List (Nat × Nat)) (x : Option (Ex × St)) : Option (Ex × List AV) := x.bind fun p => ot p.1 (pack p.2.env [] p.2.h o)
noncomputable def again (x : Option (List AV)) (l o : List (Nat × Nat)) (y : PC) : Option (Ex × List AV) := x.bind fun vs => LP F l o y vs
noncomputable def rnd (x : Option (Ex × St)) (l o : List (Nat × Nat)) (y : PC) : Option (Ex × List AV) := x.bind (round l o (LP F l o y))
def finB (lent : List Nat) (x : Option (List AV)) : Option AV := x.map (retV lent)
def finA (res : List (PR × Nat)) (lent : List Nat) (h : Heap) (x : Option (List AV)) : Option AV := x.bind fun vs => finB lent (pack (envL 0 vs) [] h (resL res lent))
theorem LP_go {x y : PC} (h : x = y) (l o : List (Nat × Nat)) (vs : List AV) : LP F l o x vs = rnd F (Ev F y (un l vs)) l o x := by subst h; exact LP_eq F l o x vs
def fn3 (res : List (PR × Nat)) (lent : List Nat) (x : Option (Ex × St)) : Option AV := x.bind (finE ⟨res,lent,.skip⟩)
theorem R_go {f : Nat} {res : List (PR × Nat)} {lent : List Nat} {c c' : PC} (h : F f = some ⟨res,lent,c⟩) (hc : c = c') (xs : List AV) : R F f xs = fn3 res lent (Ev F c' (un (parN lent 0 xs) xs)) := by
 subst hc
 rw [R_eq,h]
 have : finE ⟨res,lent,c⟩ = finE ⟨res,lent,.skip⟩ := by
  funext q
  obtain ⟨e,st⟩ := q
  cases e <;> rfl
 show (Ev F c _).bind (finE ⟨res,lent,c⟩) = (Ev F c _).bind (finE ⟨res,lent,.skip⟩)
 rw [this]
theorem rules :
  (∀ st,Ev F .skip st = some (.normal,st)) ∧ (∀ st,Ev F .ret st = some (.ret,st)) ∧ (∀ i st,Ev F (.exit i) st = some (.exit i,st)) ∧
  (∀ x y st,Ev F (.seq x y) st = thn F (Ev F x st) y) ∧ (∀ k os st,Ev F (.reg k os) st = evR F k os st) ∧
  (∀ c x y e h,Ev F (.cond c x y) ⟨e,h⟩ = cnd F (c.ev e) x y ⟨e,h⟩) ∧ (∀ i x st,Ev F (.block i x) st = blk i (Ev F x st)) ∧
  (∀ l o x e h,Ev F (.loop l o x) ⟨e,h⟩ = lpK F (pack e [] h l) l o x) ∧ (∀ o x st,Ev F (.join o x) st = unO o (jp o (Ev F x st))) ∧
  (∀ st y,thn F (some (.normal,st)) y = Ev F y st) ∧ (∀ st y,thn F (some (.ret,st)) y = some (.ret,st)) ∧ (∀ i st y,thn F (some (.exit i,st)) y = some (.exit i,st)) ∧
  (∀ s l r e h,evR F ((s,l) :: r) [] ⟨e,h⟩ = chkK (apartV (e s) (e l)) (evR F r [] ⟨e,h⟩)) ∧ (∀ st,evR F [] [] st = some (.normal,st)) ∧ (∀ k d o os e h,evR F k (⟨d,o,none⟩ :: os) ⟨e,h⟩ = stp F k (o.ev (R F) e h) d os e) ∧
  (∀ k d o t q os e h,evR F k (⟨d,o,some (t,q)⟩ :: os) ⟨e,h⟩ = grd F k (e t) t q d o os e h) ∧
  (∀ k v h d os e,stp F k (some (v,h)) (some d) os e = evR F k os ⟨upd e d v,h⟩) ∧ (∀ k v h os e,stp F k (some (v,h)) none os e = evR F k os ⟨e,h⟩) ∧
  (∀ k z t d o os e h,grd F k (.b z) t true (some d) o os e h = if z = true then stp F k (o.ev (R F) (upd e t (.b true)) h) (some d) os (upd e t (.b true)) else evR F k os ⟨upd (upd e t (.b false)) d (.tup []),h⟩) ∧
  (∀ k z t d o os e h,grd F k (.b z) t false (some d) o os e h = if z = true then evR F k os ⟨upd (upd e t (.b true)) d (.tup []),h⟩ else stp F k (o.ev (R F) (upd e t (.b false)) h) (some d) os (upd e t (.b false))) ∧
  (∀ k z t o os e h,grd F k (.b z) t true none o os e h = if z = true then stp F k (o.ev (R F) (upd e t (.b true)) h) none os (upd e t (.b true)) else evR F k os ⟨upd e t (.b false),h⟩) ∧
  (∀ k z t o os e h,grd F k (.b z) t false none o os e h = if z = true then evR F k os ⟨upd e t (.b true),h⟩ else stp F k (o.ev (R F) (upd e t (.b false)) h) none os (upd e t (.b false))) ∧
  (∀ k t q d o os e h,grd F k (.tup []) t q (some d) o os e h = evR F k os ⟨upd e d (.tup []),h⟩) ∧ (∀ k t q o os e h,grd F k (.tup []) t q none o os e h = evR F k os ⟨e,h⟩) ∧
  (∀ q x y st,cnd F (.b q) x y st = if q = true then Ev F x st else Ev F y st) ∧
  (∀ i st,blk i (some (.normal,st)) = some (.normal,st)) ∧ (∀ i st,blk i (some (.ret,st)) = some (.ret,st)) ∧
  (∀ i j st,blk i (some (.exit j,st)) = if j = i then some (.normal,st) else some (.exit j,st)) ∧
  (∀ vs l o y,lpK F (some vs) l o y = unO o (LP F l o y vs)) ∧ (∀ o e vs,unO o (some (e,vs)) = some (e,un o vs)) ∧
  (∀ o e f h,jp o (some (e,⟨f,h⟩)) = ot e (pack f [] h o)) ∧ (∀ e vs,ot e (some vs) = some (e,vs)) ∧
  (∀ vs l o y,again F (some vs) l o y = LP F l o y vs) ∧ (∀ f h l o y,rnd F (some (.normal,⟨f,h⟩)) l o y = again F (pack f [] h l) l o y) ∧
  (∀ f h l o y,rnd F (some (.ret,⟨f,h⟩)) l o y = ot .ret (pack f [] h o)) ∧ (∀ i f h l o y,rnd F (some (.exit i,⟨f,h⟩)) l o y = ot (.exit i) (pack f [] h o)) ∧
  (∀ r l e h,fn3 r l (some (.ret,⟨e,h⟩)) = finA r l h (resV ⟨e,h⟩ r)) ∧ (∀ r l e h,fn3 r l (some (.normal,⟨e,h⟩)) = finA r l h (resV ⟨e,h⟩ r)) ∧
  (∀ r l h vs,finA r l h (some vs) = finB l (pack (envL 0 vs) [] h (resL r l))) ∧ (∀ vs,finB [] (some vs) = some (oneV vs)) ∧ (∀ i o vs,finB [i] (some (o :: vs)) = some (.back (oneV vs) [o])) ∧ (∀ i j o q vs,finB [i,j] (some (o :: q :: vs)) = some (.back (oneV vs) [o,q])) := by
 refine ⟨?_,?_,?_,?_,?_,?_,?_,?_,?_,?_,?_,?_,?_,?_,?_,?_,?_,?_,?_,?_,?_,?_,?_,?_,?_,?_,?_,?_,?_,?_,?_,?_,?_,?_,?_,?_,?_,?_,?_,?_,?_,?_⟩
 all_goals first
  | (intros; rfl)
  | skip
 ·intro o x st
  simp only [Ev,PC.ev,unO,jp,ot,Option.map_bind,Function.comp_def,Option.map_map]
 ·intro s l r e h
  simp only [evR,evs,zN,apartL,chkK,zu]
  by_cases h1 : apartV (e s) (e l) = true <;> simp [h1]
 ·intro k d o os e h
  simp only [evR,evs,POp.ev,stp]
  cases o.ev (R F) e h <;> rfl
 ·intro k d o t q os e h
  simp only [evR,evs,POp.ev,grd]
  generalize hz : e t = z
  cases z
  case tup cs =>
   cases cs with
   | nil => simp [AV.yes]
   | cons => rfl
  case b z =>
   simp only [AV.yes]
   by_cases hq : z = q
   ·rw [if_pos hq,show (z == q) = true by rw [hq]; simp]
    simp only []
    have he : upd e t (.b q) = e := upd_same (by rw [hz,hq])
    simp only [stp,evR,he]
    cases o.ev (R F) e h <;> rfl
   ·rw [if_neg hq,show (z == q) = false by simpa using hq]
    simp only []
    have hq' : z = !q := by cases z <;> cases q <;> simp_all
    have he : upd e t (.b (!q)) = e := upd_same (by rw [hz,hq'])
    rw [he]
    rfl
  all_goals rfl
 ·intro k z t d o os e h
  cases z <;> rfl
 ·intro k z t o os e h
  cases z <;> rfl
 ·intro i j st
  simp only [blk,jj]
  split <;> rfl
theorem ites (c : Prop) [Decidable c] :
  (∀ x y z,thn F (if c then x else y) z = if c then thn F x z else thn F y z) ∧ (∀ k x y d os e,stp F k (if c then x else y) d os e = if c then stp F k x d os e else stp F k y d os e) ∧
  (∀ i x y,blk i (if c then x else y) = if c then blk i x else blk i y) ∧ (∀ o x y,unO o (if c then x else y) = if c then unO o x else unO o y) ∧
  (∀ o x y,jp o (if c then x else y) = if c then jp o x else jp o y) ∧ (∀ x y l o z,rnd F (if c then x else y) l o z = if c then rnd F x l o z else rnd F y l o z) ∧
  (∀ r l x y,fn3 r l (if c then x else y) = if c then fn3 r l x else fn3 r l y) := by
 refine ⟨?_,?_,?_,?_,?_,?_,?_⟩ <;> intros <;> split <;> rfl
theorem nones :
  (∀ y,thn F none y = none) ∧ (∀ k d os e,stp F k none d os e = none) ∧ (∀ x l o,lpK F none l o x = none) ∧ (∀ x l o,rnd F none l o x = none) ∧ (∀ x l o,again F none l o x = none) := ⟨fun _ => rfl,fun _ _ _ _ => rfl,fun _ _ _ => rfl,fun _ _ _ => rfl,fun _ _ _ => rfl⟩
theorem nones' : (∀ i,blk i none = none) ∧ (∀ o,unO o none = none) ∧ (∀ o,jp o none = none) ∧ (∀ e,ot e none = none) ∧ (∀ r l,fn3 r l none = none) := ⟨fun _ => rfl,fun _ => rfl,fun _ => rfl,fun _ => rfl,fun _ _ => rfl⟩
theorem merge (c : Prop) [Decidable c] :
  (∀ (d : Prop) [Decidable d] (x : Option (Ex × List AV)) (y : Ex × List AV),(if c then (if d then x else none) else some y) = if c → d then (if c then x else some y) else none) ∧
  (∀ (d : Prop) [Decidable d] (x : Option (Ex × List AV)) (y : Ex × List AV),(if c then some y else (if d then x else none)) = if ¬ c → d then (if c then some y else x) else none) ∧
  (∀ (d f : Prop) [Decidable d] [Decidable f] (x y : Option (Ex × List AV)),(if c then (if d then x else none) else (if f then y else none)) = if (c → d) ∧ (¬ c → f) then (if c then x else y) else none) ∧
  (∀ (e : Ex) (l m : List AV),(if c then some (e,l) else some (e,m)) = some (e,if c then l else m)) ∧
  (∀ (e : Ex) (l m : List AV),(if c then some (e,l) else some (e,m)) = some (e,if c then l else m)) ∧
  (∀ (x y : AV) (l m : List AV),(if c then x :: l else y :: m) = (if c then x else y) :: (if c then l else m)) ∧
  (∀ x y,(if c then AV.b x else AV.b y) = AV.b (if c then x else y)) ∧ (∀ k x y,(if c then AV.i k x else AV.i k y) = AV.i k (if c then x else y)) ∧
  (∀ z x y,(if c then AV.l z x else AV.l z y) = AV.l z (if c then x else y)) := by
 refine ⟨?_,?_,?_,?_,?_,?_,?_,?_,?_⟩
 ·intro d _ x y
  by_cases hc : c <;> by_cases hd : d <;> simp [hc,hd]
 ·intro d _ x y
  by_cases hc : c <;> by_cases hd : d <;> simp [hc,hd]
 ·intro d f _ _ x y
  by_cases hc : c <;> by_cases hd : d <;> by_cases hf : f <;> simp [hc,hd,hf]
 all_goals (intros; split <;> rfl)
end
theorem upd_apply (e : Nat → AV) (d : Nat) (v : AV) (t : Nat) : upd e d v t = if t = d then v else e t := rfl
theorem put_apply (h : Heap) (r : Nat) (x : Row) (t : Nat) : h.put r x t = if t = r then some x else h t := rfl
theorem tells (h : Heap) :
  (∀ z es,tell h (.l z es) = .l z es) ∧ (∀ k n,tell h (.i k n) = .i k n) ∧ (∀ x,tell h (.b x) = .b x) ∧ (∀ x,tell h (.s x) = .s x) ∧ (∀ z,tell h (.ns z) = .l z []) ∧
  (∀ cs o,tell h (.tp cs o) = .tp cs o) ∧ tell h .np = .np ∧ (∀ cs,tell h (.agg cs) = .agg (cs.map (tellC h))) ∧ (∀ cs,tell h (.tup cs) = .tup (cs.map (tell1 h))) ∧
  (∀ r z o n,tell h (.sl r z o n) = tell0 h (.sl r z o n)) ∧ (∀ r z o,tell h (.p r z o) = tellC h (.p r z o)) ∧ tell h .junk = .junk := by
 refine ⟨?_,?_,?_,?_,?_,?_,?_,?_,?_,?_,?_,?_⟩ <;> intros <;> rfl
theorem refs (h : Heap) :
  (∀ z es,ref h (.l z es) = []) ∧ (∀ k n,ref h (.i k n) = []) ∧ (∀ x,ref h (.b x) = []) ∧ (∀ x,ref h (.s x) = []) ∧ (∀ z,ref h (.ns z) = []) ∧
  (∀ cs o,ref h (.tp cs o) = []) ∧ ref h .np = [] ∧ (∀ cs,ref h (.agg cs) = cs.flatMap (refC h)) ∧ (∀ cs,ref h (.tup cs) = cs.flatMap (ref1 h)) ∧
  (∀ r z o n,ref h (.sl r z o n) = [r]) ∧ (∀ r z o,ref h (.p r z o) = refC h (.p r z o)) ∧ ref h .junk = [] := by
 refine ⟨?_,?_,?_,?_,?_,?_,?_,?_,?_,?_,?_,?_⟩ <;> intros <;> rfl
def u (x : Int) : List AV := [.i .u64 x]
def n64 (x : Int) : List AV := [.i .i64 x]
theorem encs :
  (∀ x,AV.cells (.i .u64 x) = u x) ∧ (∀ x,(u x).length = 1) ∧ (∀ h x,(u x).map (tellC h) = u x) ∧ (∀ x,ldC false 1 0 (u x) = some (.i .u64 x)) ∧ (∀ h x,(u x).flatMap (refC h) = []) ∧
  (∀ x,AV.cells (.i .i64 x) = n64 x) ∧ (∀ x,(n64 x).length = 1) ∧ (∀ h x,(n64 x).map (tellC h) = n64 x) ∧ (∀ x,ldC false 1 0 (n64 x) = some (.i .i64 x)) ∧ (∀ h x,(n64 x).flatMap (refC h) = []) ∧
  (∀ cs,AV.cells (.agg cs) = cs) ∧ (∀ x,AV.cells (.b x) = [.b x]) ∧ (∀ x,AV.cells (.s x) = [.s x]) ∧ (∀ z es,AV.cells (.l z es) = [.l z es]) ∧ (∀ r z o n,AV.cells (.sl r z o n) = [.sl r z o n]) ∧ (∀ z,AV.cells (.ns z) = [.ns z]) ∧
  (∀ h,Heap.freeze h [] = h) := by
 refine ⟨?_,?_,?_,?_,?_,?_,?_,?_,?_,?_,?_,?_,?_,?_,?_,?_,?_⟩ <;> intros <;> rfl
theorem reps :
  (∀ n x,zL n [AV.i .u64 x] = (zL n x).map u) ∧ (∀ n x,zL n [AV.i .i64 x] = (zL n x).map n64) := by
 refine ⟨?_,?_⟩ <;> intros <;> rw [List.map_replicate] <;> rfl
theorem uns (h : Heap) (k : Nat) :
  (∀ z es,un1 h k (.l z es) = (.l z es,h)) ∧ (∀ q n,un1 h k (.i q n) = (.i q n,h)) ∧ (∀ x,un1 h k (.b x) = (.b x,h)) ∧ (∀ x,un1 h k (.s x) = (.s x,h)) ∧ (∀ z,un1 h k (.ns z) = (.ns z,h)) ∧
  (∀ cs,un1 h k (.agg cs) = (.agg cs,h)) ∧ (∀ cs,un1 h k (.tup cs) = (.tup cs,h)) ∧ (∀ cs o,un1 h k (.tp cs o) = (.tp cs o,h)) ∧ un1 h k .np = (.np,h) ∧ un1 h k .junk = (.junk,h) ∧
  (∀ ap z es,un1 h k (.own ap z es) = (.sl k z 0 es.length,h.put k (.sl ap z es))) ∧ (∀ cs,un1 h k (.ownp cs) = (.p k 0 0,h.put k (.st cs))) ∧ (∀ r z o n,un1 h k (.sl r z o n) = (.sl r z o n,h)) ∧ (∀ r e o,un1 h k (.p r e o) = (.p r e o,h)) := by
 refine ⟨?_,?_,?_,?_,?_,?_,?_,?_,?_,?_,?_,?_,?_,?_⟩ <;> intros <;> rfl
theorem unpacks :
  (∀ l st,unpack l [] st = st) ∧ (∀ vs st,unpack [] vs st = st) ∧ (∀ t l v vs e h,unpack ((t,0) :: l) (v :: vs) ⟨e,h⟩ = unpack l vs ⟨upd e t (un1 h (pid t) v).1,(un1 h (pid t) v).2⟩) ∧ (∀ t l v vs e h,unpack ((t,1) :: l) (v :: vs) ⟨e,h⟩ = unpack l vs ⟨upd e t (un1 h (pid t) v).1,(un1 h (pid t) v).2⟩) ∧
  (∀ t l v vs e h,unpack ((t,2) :: l) (v :: vs) ⟨e,h⟩ = unpack l vs ⟨e,(un1 h t v).2⟩) ∧ (∀ t l v vs e h,unpack ((t,3) :: l) (v :: vs) ⟨e,h⟩ = unpack l vs ⟨upd e t (un1 h (lid t) v).1,(un1 h (lid t) v).2⟩) := by
 refine ⟨?_,?_,?_,?_,?_,?_⟩
 ·intro l st; cases l <;> simp [unpack]
 all_goals (intros; rfl)
theorem opts {α β : Type} : (∀ (x : α) (f : α → β),Option.map f (some x) = some (f x)) ∧ (∀ (x : α) (f : α → Option β),Option.bind (some x) f = f x) ∧ (∀ (f : α → β),Option.map f none = none) ∧ (∀ (f : α → Option β),Option.bind none f = none) := ⟨fun _ _ => rfl,fun _ _ => rfl,fun _ => rfl,fun _ => rfl⟩
theorem maps {α : Type} (f : α → List AV) :
  (∀ l : List α,(l.map f).length = l.length) ∧ (∀ (l : List α) n,(l.map f).drop n = (l.drop n).map f) ∧ (∀ (l : List α) n,(l.map f).take n = (l.take n).map f) ∧ (∀ (l m : List α),l.map f ++ m.map f = (l ++ m).map f) ∧ (∀ (l : List α) x,l.map f ++ [f x] = (l ++ [x]).map f) := by
 refine ⟨?_,?_,?_,?_,?_⟩
 ·intro l; exact zC ..
 ·intro l n; exact List.map_drop.symm
 ·intro l n; exact List.map_take.symm
 ·intro l m; exact List.map_append.symm
 ·intro l x; rw [jb]; rfl
theorem getD_map {α : Type} (f : α → List AV) (d : α) (l : List α) (j : Nat) (h : j < l.length) : (l.map f).getD j [] = f (l.getD j d) := by
 rw [zo,zo,List.getElem?_map,zr h]; rfl
theorem idxV_map {α : Type} (f : α → List AV) (d : α) (z : Nat) (l : List α) (j : Int) : idxV z (.l z (l.map f)) j = if 0 ≤ j ∧ j < (l.length : Int) then some (.tp (f (l.getD j.toNat d)) 0) else none := by
 simp only [idxV,zC,true_and]
 split
 ·rename_i h
  rw [getD_map f d l _ (by omega)]
 ·rfl
theorem at_map {α : Type} (f : α → List AV) (d : α) (ap : Bool) (z e : Nat) (l : List α) : Row.at e (.sl ap z (l.map f)) = if e < l.length then some (f (l.getD e d)) else none := by
 simp only [Row.at]
 rw [List.getElem?_map,zo]
 split
 ·rename_i h
  rw [zr h]; rfl
 ·rename_i h
  rw [jf (by omega)]; rfl
theorem putC_map {α : Type} (f : α → List AV) (z : Nat) (l : List α) (e : Nat) (x : α) (h : (f x).length = z) : putC z (l.map f) e 0 (f x) = (l.set e x).map f := by
 simp only [putC,if_pos (show (True ∧ (f x).length = z) from ⟨trivial,h⟩)]
 rw [List.map_set]
theorem ints :
  (∀ (l : List Int) j,idxV 1 (.l 1 (l.map u)) j = if 0 ≤ j ∧ j < (l.length : Int) then some (.tp (u (l.getD j.toNat 0)) 0) else none) ∧
  (∀ (l : List Int) j,idxV 1 (.l 1 (l.map n64)) j = if 0 ≤ j ∧ j < (l.length : Int) then some (.tp (n64 (l.getD j.toNat 0)) 0) else none) ∧
  (∀ ap e (l : List Int),Row.at e (.sl ap 1 (l.map u)) = if e < l.length then some (u (l.getD e 0)) else none) ∧ (∀ ap e (l : List Int),Row.at e (.sl ap 1 (l.map n64)) = if e < l.length then some (n64 (l.getD e 0)) else none) ∧
  (∀ (l : List Int) e x,putC 1 (l.map u) e 0 (u x) = (l.set e x).map u) ∧ (∀ (l : List Int) e x,putC 1 (l.map n64) e 0 (n64 x) = (l.set e x).map n64) := by
 refine ⟨?_,?_,?_,?_,?_,?_⟩
 ·intro l j; exact idxV_map u 0 1 l j
 ·intro l j; exact idxV_map n64 0 1 l j
 ·intro ap e l; exact at_map u 0 ap 1 e l
 ·intro ap e l; exact at_map n64 0 ap 1 e l
 ·intro l e x; exact putC_map u 1 l e x rfl
 ·intro l e x; exact putC_map n64 1 l e x rfl
def stR (h : Heap) (sz r e o : Nat) (v : AV) : Option Row → Option Heap
 | some (.sl ap z es) =>
  if v.cells.length = sz ∧ e < es.length ∧ o + sz ≤ z ∧ r ∉ ref1 h v then some ((h.freeze (ref1 h v)).put r (.sl ap z (putC z es e o (v.cells.map (tellC h))))) else none
 | some (.st cs) =>
  if v.cells.length = sz ∧ e = 0 ∧ o + sz ≤ cs.length then some (h.put r (.st (if o = 0 ∧ sz = cs.length then v.cells else fillC cs o v.cells))) else none
 | _ => none
theorem stores (h : Heap) (sz r e o : Nat) (v : AV) :
  stV h sz (.p r e o) v = stR h sz r e o v (h r) ∧
  (∀ ap z es,stR h sz r e o v (some (.sl ap z es)) = if v.cells.length = sz ∧ e < es.length ∧ o + sz ≤ z ∧ r ∉ ref1 h v then some ((h.freeze (ref1 h v)).put r (.sl ap z (putC z es e o (v.cells.map (tellC h))))) else none) ∧
  (∀ cs,stR h sz r e o v (some (.st cs)) = if v.cells.length = sz ∧ e = 0 ∧ o + sz ≤ cs.length then some (h.put r (.st (if o = 0 ∧ sz = cs.length then v.cells else fillC cs o v.cells))) else none) := ⟨rfl,fun _ _ _ => rfl,fun _ => rfl⟩
theorem idxs (z r o n : Nat) (j : Int) : idxV z (.sl r z o n) j = if 0 ≤ j ∧ j < (n : Int) then some (.p r (o + j.toNat) 0) else none := by
 simp only [idxV,true_and]
theorem cuts :
  (∀ z es a b,cutV z (.l z es) a b = if 0 ≤ a ∧ a ≤ b ∧ b ≤ (es.length : Int) then some (.l z ((es.drop a.toNat).take (b.toNat - a.toNat))) else none) ∧
  (∀ r z o n a b,cutV z (.sl r z o n) a b = if 0 ≤ a ∧ a ≤ b ∧ b ≤ (n : Int) then some (.sl r z (o + a.toNat) (b.toNat - a.toNat)) else none) := by
 refine ⟨?_,?_⟩ <;> intros <;> simp only [cutV,true_and]
theorem optites {α β : Type} (c : Prop) [Decidable c] : (∀ (x y : Option α) (f : α → β),Option.map f (if c then x else y) = if c then Option.map f x else Option.map f y) ∧ (∀ (x y : Option α) (f : α → Option β),Option.bind (if c then x else y) f = if c then Option.bind x f else Option.bind y f) := by
 refine ⟨?_,?_⟩ <;> intros <;> split <;> rfl
def cutM (h : Heap) (sz : Nat) (x : AV) (l u : Int) (m : Option Int) : Option (AV × Heap) := m.bind fun m => if m = u then (cutV sz x l u).map fun v => (v,h) else none
def cutK (h : Heap) (sz : Nat) (x : AV) (l u : Option Int) (mx : Option At) (e : Nat → AV) : Option (AV × Heap) := l.bind fun l => u.bind fun u => (optI e (some u) mx).bind fun m => if m = u then (cutV sz x l u).map fun v => (v,h) else none
def mkV (h : Heap) (id sz bytes : Nat) (z : List AV) (l : AV) : Option (AV × Heap) := match l with
 | .i .i64 n => if 0 ≤ n ∧ n.toNat * bytes ≤ 281474976710656 ∧ (h id).isNone then some (.sl id sz 0 n.toNat,h.put id (.sl true sz (zL n.toNat z))) else none
 | _ => none
def esR (o n : Nat) : Option Row → Option (List (List AV))
 | some r => r.win o n
 | none => none
def appR (h : Heap) (id sz bytes r z o n : Nat) (new : List (List AV)) : Option Row → Option (AV × Heap)
 | some (.sl true z' es) => if z = sz ∧ z' = sz ∧ o = 0 ∧ fullB sz n es.length = true ∧ (n + new.length) * bytes ≤ 140737488355328 ∧ (h id).isNone then
     some (.sl id z 0 (n + new.length),(h.put r .dead).put id (.sl true z (es.take n ++ new))) else none
 | _ => none
def appK (h : Heap) (id sz bytes : Nat) (x : AV) (new : Option (List (List AV))) : Option (AV × Heap) := match new with
 | none => none
 | some new => match x with
  | .ns z => if z = sz ∧ new.length * bytes ≤ 140737488355328 ∧ (h id).isNone then some (.sl id z 0 new.length,h.put id (.sl true z new)) else none
  | .sl r z o n => appR h id sz bytes r z o n new (h r)
  | _ => none
def consO (v : AV) (x : Option (List AV)) : Option (List AV) := x.map fun vs => v :: vs
def resK (st : St) (x : Option AV) (l : List (PR × Nat)) : Option (List AV) := x.bind fun v => consO v (resV st l)
def packK (e : Nat → AV) (ls : List Nat) (q : Option (AV × Heap)) (l : List (Nat × Nat)) : Option (List AV) := q.bind fun q => consO q.1 (pack e ls q.2 l)
def packR (h : Heap) (r z o n : Nat) : Option Row → Option (AV × Heap)
 | some (.sl ap _ es) => some (.own (ap && apB z o n es.length) z ((es.drop o).take n),h.put r .dead)
 | some (.fsl _ es) => some (.l z ((es.drop o).take n),h)
 | _ => none
def packP (h : Heap) (r : Nat) : Option Row → Option (AV × Heap)
 | some (.st cs) => if r ∈ cs.flatMap ref0 then none else some (.ownp (cs.map (tell0 h)),(h.freeze (cs.flatMap ref0)).put r .dead)
 | some (.fst cs) => some (.tp (cs.map (tell0 h)) 0,h.freeze (cs.flatMap ref0))
 | _ => none
def packQ (h : Heap) (r : Nat) : Option Row → Option (AV × Heap)
 | some (.sl ap z es) => some (.own ap z es,h.put r .dead)
 | some (.st cs) => if r ∈ cs.flatMap ref0 then none else some (.ownp (cs.map (tell0 h)),(h.freeze (cs.flatMap ref0)).put r .dead)
 | _ => none
def slenV (x : AV) (h : Heap) : Option (AV × Heap) := match x with
 | .s s => some (.i .i64 (s.size : Int),h)
 | _ => none
def pickV (c x y : AV) (h : Heap) : Option (AV × Heap) := match c with
 | .b q => some (if q then x else y,h)
 | _ => none
def notV (x : AV) (h : Heap) : Option (AV × Heap) := match x with
 | .b q => some (.b (!q),h)
 | _ => none
def callK (h : Heap) (r : Option AV) (vs : List AV) : Option (AV × Heap) := r.map fun r => (demoteT r,if r.scalar then h else h.freeze (vs.flatMap (ref h)))
def fldV (o : Nat) (x : AV) (h : Heap) : Option (AV × Heap) := match x with
 | .p r q c => some (.p r q (c + o),h)
 | .tp cs c => some (.tp cs (c + o),h)
 | _ => none
def convV (k : IntKind) (x : AV) (h : Heap) : Option (AV × Heap) := match x with
 | .i _ n => some (.i k (k.wrap n),h)
 | _ => none
def extV (n : Nat) (x : AV) (h : Heap) : Option (AV × Heap) := match x with
 | .tup vs => (vs[n]?).map fun v => (v,h)
 | _ => none
def fptV (agg : Bool) (sz o : Nat) (x : AV) (h : Heap) : Option (AV × Heap) := match x with
 | .agg cs => (ldC agg sz o cs).map fun v => (v,h)
 | _ => none
def maxV (x y : AV) (h : Heap) : Option (AV × Heap) := match x,y with
 | .i k x,.i _ y => some (.i k (if y > x then y else x),h)
 | _,_ => none
def minV (x y : AV) (h : Heap) : Option (AV × Heap) := match x,y with
 | .i k x,.i _ y => some (.i k (if y < x then y else x),h)
 | _,_ => none
def negV (x : AV) (h : Heap) : Option (AV × Heap) := match x with
 | .i k n => some (.i k (k.wrap (0 - n)),h)
 | _ => none
def nckV (x : AV) (h : Heap) : Option (AV × Heap) := match x with
 | .p r q o => some (.p r q o,h)
 | .tp cs o => some (.tp cs o,h)
 | _ => none
def bt (s : ByteArray) (i : Int) : Int := if h : i.toNat < s.size then ((s[i.toNat]'h).toNat : Int) else 0
def sidxK (x : AV) (j : Option Int) (h : Heap) : Option (AV × Heap) := match x,j with
 | .s y,some j => if q : 0 ≤ j ∧ j.toNat < y.size then some (.i .u8 ((y[j.toNat]'q.2).toNat : Int),h) else none
 | _,_ => none
theorem sidxs : (∀ c x i e h,PO.ev c (.sidx x i) e h = sidxK (x.ev e) (intV (i.ev e)) h) ∧ (∀ y j h,sidxK (.s y) (some j) h = if 0 ≤ j ∧ j < (y.size : Int) then some (.i .u8 (bt y j),h) else none) := by
 refine ⟨fun _ _ _ _ _ => rfl,fun y j h => ?_⟩
 simp only [sidxK,bt]
 by_cases q : 0 ≤ j ∧ j.toNat < y.size
 ·rw [dif_pos q,if_pos (by omega),dif_pos q.2]
 ·rw [dif_neg q,if_neg (by omega)]
theorem more (c : Nat → List AV → Option AV) :
  (∀ x y e h,PO.ev c (.max x y) e h = maxV (x.ev e) (y.ev e) h) ∧ (∀ x y e h,PO.ev c (.min x y) e h = minV (x.ev e) (y.ev e) h) ∧ (∀ x e h,PO.ev c (.neg x) e h = negV (x.ev e) h) ∧ (∀ x e h,PO.ev c (.nck x) e h = nckV (x.ev e) h) := ⟨fun _ _ _ _ => rfl,fun _ _ _ _ => rfl,fun _ _ _ => rfl,fun _ _ _ => rfl⟩
theorem more' :
  (∀ k k' x y h,maxV (.i k x) (.i k' y) h = some (.i k (if y > x then y else x),h)) ∧ (∀ k k' x y h,minV (.i k x) (.i k' y) h = some (.i k (if y < x then y else x),h)) ∧ (∀ k n h,negV (.i k n) h = some (.i k (k.wrap (0 - n)),h)) ∧
  (∀ r q o h,nckV (.p r q o) h = some (.p r q o,h)) ∧ (∀ cs o h,nckV (.tp cs o) h = some (.tp cs o,h)) := by
 refine ⟨?_,?_,?_,?_,?_⟩ <;> intros <;> rfl
theorem bins (k : IntKind) (x y : Int) :
  binV .add (.i k x) (.i k y) = some (.i k (k.wrap (x + y))) ∧ binV .sub (.i k x) (.i k y) = some (.i k (k.wrap (x - y))) ∧ binV .mul (.i k x) (.i k y) = some (.i k (k.wrap (x * y))) ∧
  binV .eql (.i k x) (.i k y) = some (.b (decide (x = y))) ∧ binV .neq (.i k x) (.i k y) = some (.b (!decide (x = y))) ∧ binV .lss (.i k x) (.i k y) = some (.b (decide (x < y))) ∧
  binV .leq (.i k x) (.i k y) = some (.b (decide (x ≤ y))) ∧ binV .gtr (.i k x) (.i k y) = some (.b (decide (y < x))) ∧ binV .geq (.i k x) (.i k y) = some (.b (decide (y ≤ x))) ∧
  binV .and (.i k x) (.i k y) = some (.i k (Go.bits .and k x y)) ∧ binV .or (.i k x) (.i k y) = some (.i k (Go.bits .or k x y)) ∧ binV .xor (.i k x) (.i k y) = some (.i k (Go.bits .xor k x y)) := by
 refine ⟨?_,?_,?_,?_,?_,?_,?_,?_,?_,?_,?_,?_⟩ <;> simp only [binV,binI,if_true]
theorem binb : (∀ x y,eqbV false (.b x) (.b y) = some (.b (x == y))) ∧ (∀ x y,eqbV true (.b x) (.b y) = some (.b (!(x == y)))) ∧ (∀ c n x y e h,PO.ev c (.eqb n x y) e h = (eqbV n (x.ev e) (y.ev e)).map fun v => (v,h)) ∧ (∀ c n m x y e h,PO.ev c (.eqs n m x y) e h = (eqsV n m (x.ev e) (y.ev e)).map fun v => (v,h)) ∧
  (∀ n x y,eqsV false n (.agg x) (.agg y) = if x.length = n ∧ y.length = n then (eqCells x y).map fun q => .b q else none) ∧ (∀ k x y,eqFlat (.i k x) (.i k y) = some (decide (x = y))) ∧ (eqCells [] [] = some true) ∧ (∀ x xs y ys,eqCells (x :: xs) (y :: ys) = (eqFlat x y).bind fun a => (eqCells xs ys).map fun b => a && b) :=
 ⟨fun _ _ => rfl,fun _ _ => rfl,fun _ _ _ _ _ _ => rfl,fun _ _ _ _ _ _ _ => rfl,fun _ _ _ => rfl,fun k _ _ => by simp [eqFlat],rfl,fun _ _ _ _ => rfl⟩
theorem quos (k : IntKind) (x y : Int) : binV .quo (.i k x) (.i k y) = (if y = 0 then none else some (.i k (k.wrap (x.tdiv y)))) ∧ binV .rem (.i k x) (.i k y) = if y = 0 then none else some (.i k (x.tmod y)) := by
 refine ⟨?_,?_⟩ <;> simp only [binV,binI,if_true]
theorem shs (k k' : IntKind) (x y : Int) : binV .shl (.i k x) (.i k' y) = (if y < 0 then none else some (.i k (k.wrap (x * 2 ^ Nat.min y.toNat k.bits)))) ∧ binV .shr (.i k x) (.i k' y) = if y < 0 then none else some (.i k (x.fdiv (2 ^ Nat.min y.toNat k.bits))) := by
 refine ⟨?_,?_⟩ <;> simp only [binV,shI]
theorem vals :
  (∀ k n,intV (.i k n) = some n) ∧ (∀ h cs o,ptrAt h (.tp cs o) = some (cs,o)) ∧ (∀ h r e o,ptrAt h (.p r e o) = ((h r).bind (Row.at e)).map fun cs => (cs,o)) ∧
  (∀ r z o n,lenV (.sl r z o n) = some n) ∧ (∀ z es,lenV (.l z es) = some es.length) ∧ (∀ z,lenV (.ns z) = some 0) ∧ (∀ c e h x,PO.ev c (.slen x) e h = slenV (x.ev e) h) ∧ (∀ s h,slenV (.s s) h = some (.i .i64 (s.size : Int),h)) ∧
  (∀ cs,Row.at 0 (.st cs) = some cs) ∧ (∀ cs,Row.at 0 (.fst cs) = some cs) ∧ (∀ h agg sz x,ldV h agg sz x = (ptrAt h x).bind fun q => ldC agg sz q.2 q.1) ∧
  (∀ q y z h,pickV (.b q) y z h = some (if q = true then y else z,h)) ∧ (∀ q h,notV (.b q) h = some (.b (!q),h)) ∧
  (∀ h r vs,callK h (some r) vs = some (demoteT r,if r.scalar then h else h.freeze (vs.flatMap (ref h)))) ∧
  (∀ h o r q k,fldV o (.p r q k) h = some (.p r q (k + o),h)) ∧ (∀ h o cs k,fldV o (.tp cs k) h = some (.tp cs (k + o),h)) ∧
  (∀ h k q n,convV k (.i q n) h = some (.i k (k.wrap n),h)) ∧ (∀ h n cs,extV n (.tup cs) h = (cs[n]?).map fun v => (v,h)) ∧ (∀ g s o cs h,fptV g s o (.agg cs) h = (ldC g s o cs).map fun v => (v,h)) := by
 refine ⟨?_,?_,?_,?_,?_,?_,?_,?_,?_,?_,?_,?_,?_,?_,?_,?_,?_,?_,?_⟩ <;> intros <;> rfl
theorem ats : (∀ e t,At.ev e (.t t) = e t) ∧ (∀ e v,At.ev e (.c v) = v) := ⟨fun _ _ => rfl,fun _ _ => rfl⟩
theorem ops (c : Nat → List AV → Option AV) (e : Nat → AV) (h : Heap) :
  (∀ x,PO.ev c (.mv x) e h = some (x.ev e,h)) ∧
  (∀ x op y,PO.ev c (.bin op x y) e h = (binV op (x.ev e) (y.ev e)).map fun v => (v,h)) ∧ (∀ agg sz x,PO.ev c (.ld agg sz x) e h = (ldV h agg sz (x.ev e)).map fun v => (v,h)) ∧
  (∀ sz x v,PO.ev c (.st sz x v) e h = (stV h sz (x.ev e) (v.ev e)).map fun g => (.junk,g)) ∧ (∀ sz x i,PO.ev c (.idx sz x i) e h = (intV (i.ev e)).bind fun j => (idxV sz (x.ev e) j).map fun v => (v,h)) ∧
  (∀ x,PO.ev c (.len x) e h = (lenV (x.ev e)).map fun (n : Nat) => (.i .i64 (n : Int),h)) ∧ (∀ x y z,PO.ev c (.pick x y z) e h = pickV (x.ev e) (y.ev e) (z.ev e) h) ∧
  (∀ x,PO.ev c (.not x) e h = notV (x.ev e) h) ∧
  (∀ o x,PO.ev c (.fld o x) e h = fldV o (x.ev e) h) ∧ 
  (∀ k x,PO.ev c (.conv k x) e h = convV k (x.ev e) h) ∧ 
  (∀ n x,PO.ev c (.ext n x) e h = extV n (x.ev e) h) ∧ (∀ g s o x,PO.ev c (.fpt g s o x) e h = fptV g s o (x.ev e) h) := by
 refine ⟨?_,?_,?_,?_,?_,?_,?_,?_,?_,?_,?_,?_⟩ <;> intros <;> rfl
theorem boolites (c : Prop) [Decidable c] : (∀ x,(if c then x else false) = (decide c && x)) ∧ (∀ x,(if c then true else x) = (decide c || x)) := by
 refine ⟨?_,?_⟩ <;> intro x <;> by_cases h : c <;> simp [h]
theorem ends :
  (∀ st,resV st [] = some []) ∧ (∀ st x k l,resV st ((x,k) :: l) = resK st (x.ev st) l) ∧ (∀ st v l,resK st (some v) l = consO v (resV st l)) ∧
  (∀ r i l,resL r (i :: l) = (lid i,if i < 1000 then 2 else 5) :: resL r l) ∧ (∀ r,resL r [] = kindL 0 r) ∧ (∀ k x q l,kindL k ((x,q) :: l) = (k,q) :: kindL (k + 1) l) ∧ (∀ k,kindL k [] = []) ∧ (∀ k v l,envL k (v :: l) = upd (envL (k + 1) l) k v) ∧
  (∀ e h t,PR.ev ⟨e,h⟩ (.tmp t) = some (e t)) ∧ (∀ e h t a sz,PR.ev ⟨e,h⟩ (.cell t a sz) = ldV h a sz (e t)) ∧ oneV [] = .tup [] ∧ (∀ x,oneV [x] = x) ∧ (∀ x y,oneV [x,y] = .tup [x,y]) ∧ (∀ x y z,oneV [x,y,z] = .tup [x,y,z]) ∧
  (∀ h z es,tell1 h (.l z es) = .l z es) ∧ (∀ h k n,tell1 h (.i k n) = .i k n) ∧ (∀ h x,tell1 h (.b x) = .b x) ∧ (∀ h x,tell1 h (.s x) = .s x) ∧ (∀ h z,tell1 h (.ns z) = .l z []) ∧
  (∀ h cs,tell1 h (.agg cs) = .agg (cs.map (tellC h))) ∧ (∀ h r z o n,tell1 h (.sl r z o n) = tell0 h (.sl r z o n)) ∧
  (∀ h z es,ref1 h (.l z es) = []) ∧ (∀ h k n,ref1 h (.i k n) = []) ∧ (∀ h x,ref1 h (.b x) = []) ∧ (∀ h x,ref1 h (.s x) = []) ∧ (∀ h z,ref1 h (.ns z) = []) ∧ (∀ h cs,ref1 h (.agg cs) = cs.flatMap (refC h)) ∧ (∀ h r z o n,ref1 h (.sl r z o n) = [r]) := by
 refine ⟨?_,?_,?_,?_,?_,?_,?_,?_,?_,?_,?_,?_,?_,?_,?_,?_,?_,?_,?_,?_,?_,?_,?_,?_,?_,?_,?_,?_⟩ <;> intros <;> rfl
theorem endites (c : Prop) [Decidable c] : (∀ st x y l,resK st (if c then x else y) l = if c then resK st x l else resK st y l) ∧ (∀ v x y,consO v (if c then x else y) = if c then consO v x else consO v y) ∧ (∀ r l h x y,finA r l h (if c then x else y) = if c then finA r l h x else finA r l h y) ∧ (∀ l x y,finB l (if c then x else y) = if c then finB l x else finB l y) ∧ (∀ e ls l x y,packK e ls (if c then x else y) l = if c then packK e ls x l else packK e ls y l) := by
 refine ⟨?_,?_,?_,?_,?_⟩ <;> intros <;> split <;> rfl
theorem endnones : (∀ st l,resK st none l = none) ∧ (∀ v,consO v none = none) ∧ (∀ r l h,finA r l h none = none) ∧ (∀ l,finB l none = none) ∧ (∀ e ls l,packK e ls none l = none) := ⟨fun _ _ => rfl,fun _ => rfl,fun _ _ _ => rfl,fun _ => rfl,fun _ _ _ => rfl⟩
def rowT (z o n : Nat) : Option Row → AV
 | some (.sl _ _ es) | some (.fsl _ es) => .l z ((es.drop o).take n)
 | _ => .junk
theorem tellr : (∀ h r z o n,tell0 h (.sl r z o n) = rowT z o n (h r)) ∧ (∀ z o n ap z' es,rowT z o n (some (.sl ap z' es)) = .l z ((es.drop o).take n)) ∧ (∀ z o n z' es,rowT z o n (some (.fsl z' es)) = .l z ((es.drop o).take n)) := by
 refine ⟨?_,?_,?_⟩
 ·intro h r z o n
  simp only [tell0,rowT]
  cases h r with
  | none => rfl
  | some x => cases x <;> rfl
 ·intros; rfl
 ·intros; rfl
theorem cutk :
  (∀ c e h sz x lo hi mx,PO.ev c (.cut sz x lo hi mx) e h = cutK h sz (x.ev e) (optI e (some 0) lo) (optI e ((lenV (x.ev e)).map fun (n : Nat) => (n : Int)) hi) mx e) ∧
  (∀ e h sz x l u,cutK h sz x (some l) (some u) none e = (cutV sz x l u).map fun v => (v,h)) ∧ (∀ e h sz x l u m,cutK h sz x (some l) (some u) (some m) e = cutM h sz x l u (intV (m.ev e))) ∧
  (∀ e d,optI e d none = d) ∧ (∀ e d x,optI e d (some x) = intV (x.ev e)) ∧ (∀ h sz x l u m,cutM h sz x l u (some m) = if m = u then (cutV sz x l u).map fun v => (v,h) else none) := by
 refine ⟨?_,?_,?_,?_,?_,?_⟩
 ·intros; rfl
 ·intro e h sz x l u
  simp only [cutK,optI,zN,if_true]
 all_goals (intros; rfl)
theorem makes :
  (∀ c e h id sz bytes z l,PO.ev c (.mk id sz bytes z l) e h = mkV h id sz bytes z (l.ev e)) ∧
  (∀ h id sz bytes z n,mkV h id sz bytes z (.i .i64 n) = if 0 ≤ n ∧ n.toNat * bytes ≤ 281474976710656 ∧ (h id).isNone = true then some (.sl id sz 0 n.toNat,h.put id (.sl true sz (zL n.toNat z))) else none) ∧
  (∀ c e h id z,PO.ev c (.alloc id z) e h = if (h id).isNone = true then some (.p id 0 0,h.put id (.st z)) else none) ∧
  (∀ c e h id sz x,PO.ev c (.box id sz x) e h = if (x.ev e).cells.length = sz ∧ (h id).isNone = true then some (.p id 0 0,h.put id (.st (x.ev e).cells)) else none) ∧
  (∀ c e h id sz z n ps,PO.ev c (.bsl id sz z n ps) e h = if (h id).isNone = true then (bslV e h sz (zL n z) ps).map fun es => (.sl id sz 0 n,(h.freeze (ps.flatMap fun p => ref1 h (p.2.ev e))).put id (.sl true sz es)) else none) ∧
  (∀ c e h z ps,PO.ev c (.build z ps) e h = (buildV e z ps).map fun cs => (.agg cs,h)) := by
 refine ⟨?_,?_,?_,?_,?_,?_⟩ <;> intros <;> rfl
theorem boxes (e : Nat → AV) :
  (∀ z,buildV e z [] = some z) ∧ (∀ z off sz x ps,buildV e z ((off,sz,x) :: ps) = if (x.ev e).cells.length = sz ∧ off + sz ≤ z.length then buildV e (fillC z off (x.ev e).cells) ps else none) ∧
  (∀ h sz z,bslV e h sz z [] = some z) ∧ (∀ h sz z j x ps,bslV e h sz z ((j,x) :: ps) = if (x.ev e).cells.length = sz ∧ j < z.length then bslV e h sz (z.set j ((x.ev e).cells.map (tellC h))) ps else none) := by
 refine ⟨?_,?_,?_,?_⟩ <;> intros <;> rfl
theorem apps :
  (∀ c id sz bytes x y e h,PO.ev c (.app id sz bytes x y) e h = appK h id sz bytes (x.ev e) (esV h sz (y.ev e))) ∧ (∀ h sz r z o n,esV h sz (.sl r z o n) = if z = sz then esR o n (h r) else none) ∧ (∀ h sz z es,esV h sz (.l z es) = if z = sz then some es else none) ∧ (∀ h sz z,esV h sz (.ns z) = if z = sz then some [] else none) ∧
  (∀ o n ap z es,esR o n (some (.sl ap z es)) = some ((es.drop o).take n)) ∧ (∀ o n z es,esR o n (some (.fsl z es)) = some ((es.drop o).take n)) ∧
  (∀ h id sz bytes z new,appK h id sz bytes (.ns z) (some new) = if z = sz ∧ new.length * bytes ≤ 140737488355328 ∧ (h id).isNone = true then some (.sl id z 0 new.length,h.put id (.sl true z new)) else none) ∧
  (∀ h id sz bytes r z o n new,appK h id sz bytes (.sl r z o n) (some new) = appR h id sz bytes r z o n new (h r)) ∧
  (∀ h id sz bytes r z o n new z' es,appR h id sz bytes r z o n new (some (.sl true z' es)) = if z = sz ∧ z' = sz ∧ o = 0 ∧ fullB sz n es.length = true ∧ (n + new.length) * bytes ≤ 140737488355328 ∧ (h id).isNone = true then
     some (.sl id z 0 (n + new.length),(h.put r .dead).put id (.sl true z (es.take n ++ new))) else none) := by
 refine ⟨?_,?_,?_,?_,?_,?_,?_,?_,?_⟩
 ·intro c id sz bytes x y e h
  simp only [PO.ev,appV,appK]
  cases esV h sz (y.ev e) <;> rfl
 ·intro h sz r z o n
  simp only [esV,esR]
  split
  ·cases h r <;> rfl
  ·rfl
 all_goals (intros; rfl)
theorem packs :
  (∀ e ls h,pack e ls h [] = some []) ∧ (∀ e ls h t l,pack e ls h ((t,1) :: l) = packK e ls (packV ls h (e t)) l) ∧ (∀ e ls h t l,pack e ls h ((t,2) :: l) = packK e (t :: ls) (packL h t) l) ∧ (∀ e ls v h l,packK e ls (some (v,h)) l = consO v (pack e ls h l)) ∧
  (∀ e ls h t l,pack e ls h ((t,0) :: l) = consO (tell h (e t)) (pack e ls (h.freeze (ref h (e t))) l)) ∧
  (∀ v vs,consO v (some vs) = some (v :: vs)) ∧ (∀ ls h z,packV ls h (.ns z) = some (.own true z [],h)) ∧ (∀ ls h r z o n,packV ls h (.sl r z o n) = if r ∈ ls then some (.sl r z o n,h) else packR h r z o n (h r)) ∧
  (∀ h r z o n ap z' es,packR h r z o n (some (.sl ap z' es)) = some (.own (ap && apB z o n es.length) z ((es.drop o).take n),h.put r .dead)) ∧ (∀ h r z o n z' es,packR h r z o n (some (.fsl z' es)) = some (.l z ((es.drop o).take n),h)) ∧
  (∀ ls h z es,packV ls h (.l z es) = some (.l z es,h)) ∧ (∀ ls h r,packV ls h (.p r 0 0) = if r ∈ ls then some (.p r 0 0,h) else packP h r (h r)) ∧ (∀ h r cs,packP h r (some (.st cs)) = if r ∈ cs.flatMap ref0 then none else some (.ownp (cs.map (tell0 h)),(h.freeze (cs.flatMap ref0)).put r .dead)) ∧
  (∀ h r,packL h r = packQ h r (h r)) ∧ (∀ h r ap z es,packQ h r (some (.sl ap z es)) = some (.own ap z es,h.put r .dead)) ∧ (∀ h r cs,packQ h r (some (.st cs)) = if r ∈ cs.flatMap ref0 then none else some (.ownp (cs.map (tell0 h)),(h.freeze (cs.flatMap ref0)).put r .dead)) := by
 refine ⟨?_,?_,?_,?_,?_,?_,?_,?_,?_,?_,?_,?_,?_,?_,?_,?_⟩
 case refine_8 =>
  intro ls h r z o n
  simp only [packV,packR]
  all_goals
   split
   ·rfl
   ·cases h r with
    | none => rfl
    | some x => cases x <;> rfl
 case refine_12 =>
  intro ls h r
  simp only [packV,packP,true_and,if_true]
  all_goals
   split
   ·rfl
   ·cases h r with
    | none => rfl
    | some x => cases x <;> rfl
 case refine_14 =>
  intro h r
  simp only [packL,packQ]
  all_goals
   cases h r with
   | none => rfl
   | some x => cases x <;> rfl
 all_goals (intros; rfl)
theorem calls :
  (∀ c f xs e h,PO.ev c (.call f xs) e h = callK h (c f ((xs.map (At.ev e)).map (tell h))) (xs.map (At.ev e))) ∧ (∀ z es,demoteT (.l z es) = .l z es) ∧ (∀ k n,demoteT (.i k n) = .i k n) ∧ (∀ x,demoteT (.b x) = .b x) ∧ (∀ x,demoteT (.s x) = .s x) ∧ (∀ cs,demoteT (.agg cs) = .agg cs) ∧ (∀ z,demoteT (.ns z) = .ns z) ∧
  (∀ cs,demoteT (.tup cs) = .tup (cs.map demote)) ∧ (∀ z es,demote (.l z es) = .l z es) ∧ (∀ k n,demote (.i k n) = .i k n) ∧ (∀ x,demote (.b x) = .b x) ∧ (∀ x,demote (.s x) = .s x) ∧ (∀ cs,demote (.agg cs) = .agg cs) ∧ (∀ ap z es,demote (.own ap z es) = .l z es) ∧ (∀ ap z es,demoteT (.own ap z es) = .l z es) ∧
  (∀ k n,AV.scalar (.i k n) = true) ∧ (∀ x,AV.scalar (.b x) = true) ∧ (∀ x,AV.scalar (.s x) = true) ∧ (∀ z es,AV.scalar (.l z es) = false) ∧ (∀ cs,AV.scalar (.agg cs) = false) ∧ (∀ cs,AV.scalar (.tup cs) = cs.all AV.flat) ∧
  (∀ k n,AV.flat (.i k n) = true) ∧ (∀ x,AV.flat (.b x) = true) ∧ (∀ x,AV.flat (.s x) = true) ∧ (∀ z es,AV.flat (.l z es) = false) ∧ (∀ cs,AV.flat (.agg cs) = false) ∧ (∀ ap z es,AV.scalar (.own ap z es) = false) := by
 refine ⟨?_,?_,?_,?_,?_,?_,?_,?_,?_,?_,?_,?_,?_,?_,?_,?_,?_,?_,?_,?_,?_,?_,?_,?_,?_,?_,?_⟩ <;> intros <;> rfl
def lendS (h : Heap) (z o n : Nat) : Option Row → Option AV
 | some (.sl _ _ es) => some (.own false z ((es.drop o).take n))
 | _ => none
def lendP (h : Heap) : Option Row → Option AV
 | some (.st cs) => some (.ownp (cs.map (tell0 h)))
 | _ => none
def backS (h : Heap) (li q o n : Nat) (refs : List Nat) (v : AV) (z2 : Nat) (es2 : List (List AV)) : Option Row → Option (AV × Heap)
 | some (.sl ap z' es) => if q ∉ refs ∧ es2.length = n ∧ z2 = z' then some (aliasV li q o v,(h.freeze refs).put q (.sl ap z' (es.take o ++ es2 ++ es.drop (o + n)))) else none
 | _ => none
def backP (h : Heap) (q : Nat) (refs : List Nat) (v : AV) (cs2 : List AV) : Option Row → Option (AV × Heap)
 | some (.st cs) => if q ∉ refs ++ cs.flatMap ref0 ∧ cs2.length = cs.length then some (demoteT v,(h.freeze (refs ++ cs.flatMap ref0)).put q (.st (cs2.map demote))) else none
 | _ => none
def callM (call : Nat → List AV → Option AV) (h : Heap) (f : Nat) (vs : List AV) (li : Nat) (y : AV) (x : Option AV) : Option (AV × Heap) := x.bind fun x => (call f (argsL h x li vs)).bind fun r => backL h li y (refsL h li vs) r
def backM (h : Heap) (li : Nat) (y : AV) (refs : List Nat) (r : Option AV) : Option (AV × Heap) := r.bind fun r => backL h li y refs r
theorem lends :
  (∀ c f xs li e h,PO.ev c (.callw f xs li) e h = callM c h f (xs.map (At.ev e)) li ((xs.map (At.ev e)).getD li .junk) (lendL h ((xs.map (At.ev e)).getD li .junk))) ∧
  (∀ h r z o n,lendL h (.sl r z o n) = lendS h z o n (h r)) ∧ (∀ h r,lendL h (.p r 0 0) = lendP h (h r)) ∧ (∀ h z o n ap z' es,lendS h z o n (some (.sl ap z' es)) = some (.own false z ((es.drop o).take n))) ∧ (∀ h cs,lendP h (some (.st cs)) = some (.ownp (cs.map (tell0 h)))) ∧
  (∀ c h f vs li y x,callM c h f vs li y (some x) = backM h li y (refsL h li vs) (c f (argsL h x li vs))) ∧ (∀ h li y refs r,backM h li y refs (some r) = backL h li y refs r) ∧
  (∀ h x v vs,argsL h x 0 (v :: vs) = x :: vs.map (tell h)) ∧ (∀ h x v vs,argsL h x 1 (v :: vs) = tell h v :: argsL h x 0 vs) ∧ (∀ h v vs,refsL h 0 (v :: vs) = vs.flatMap (ref h)) ∧ (∀ h v vs,refsL h 1 (v :: vs) = ref h v ++ refsL h 0 vs) ∧
  (∀ h li q z o n refs v ap z2 es2,backL h li (.sl q z o n) refs (.back v [.own ap z2 es2]) = backS h li q o n refs v z2 es2 (h q)) ∧ (∀ h li q refs v cs2,backL h li (.p q 0 0) refs (.back v [.ownp cs2]) = backP h q refs v cs2 (h q)) ∧
  (∀ h li q o n refs v z2 es2 ap z' es,backS h li q o n refs v z2 es2 (some (.sl ap z' es)) = if q ∉ refs ∧ es2.length = n ∧ z2 = z' then some (aliasV li q o v,(h.freeze refs).put q (.sl ap z' (es.take o ++ es2 ++ es.drop (o + n)))) else none) ∧
  (∀ h q refs v cs2 cs,backP h q refs v cs2 (some (.st cs)) = if q ∉ refs ++ cs.flatMap ref0 ∧ cs2.length = cs.length then some (demoteT v,(h.freeze (refs ++ cs.flatMap ref0)).put q (.st (cs2.map demote))) else none) ∧
  (∀ (v : AV) l d,(v :: l).getD 0 d = v) ∧ (∀ (v w : AV) l d,(v :: w :: l).getD 1 d = w) := by
 refine ⟨?_,?_,?_,?_,?_,?_,?_,?_,?_,?_,?_,?_,?_,?_,?_,?_,?_⟩ <;> intros <;> rfl
theorem aliases (i q o : Nat) :
  (∀ r z p n,aliasV i q o (.sl r z p n) = if r = lid i ∧ 0 < n then .sl q z (o + p) n else if n = 0 then .l z [] else .junk) ∧ (∀ k n,aliasV i q o (.i k n) = .i k n) ∧ (∀ x,aliasV i q o (.b x) = .b x) ∧ (∀ x,aliasV i q o (.s x) = .s x) ∧ (∀ z es,aliasV i q o (.l z es) = .l z es) ∧ (∀ cs,aliasV i q o (.agg cs) = .agg cs) ∧ (∀ cs,aliasV i q o (.tup cs) = .tup (cs.map demote)) := by
 refine ⟨?_,?_,?_,?_,?_,?_,?_⟩ <;> intros <;> rfl
theorem frzs (h : Heap) : (∀ r rs q,Heap.freeze h (r :: rs) q = if q = r then (Heap.freeze h rs q).map Row.freeze else Heap.freeze h rs q) ∧ (∀ ap z es,Row.freeze (.sl ap z es) = .fsl z es) ∧ (∀ cs,Row.freeze (.st cs) = .fst cs) ∧ (∀ z es,Row.freeze (.fsl z es) = .fsl z es) ∧ (∀ cs,Row.freeze (.fst cs) = .fst cs) ∧ Row.freeze .dead = .dead := ⟨fun _ _ _ => rfl,fun _ _ _ => rfl,fun _ => rfl,fun _ _ => rfl,fun _ => rfl,rfl⟩
def calloK (h : Heap) (refs : List Nat) (id : Nat) (r : Option AV) : Option (AV × Heap) := r.bind (ownR h refs id)
def b2sK (h : Heap) (es : Option (List (List AV))) : Option (AV × Heap) := (es.bind byteNs).map fun ns => (.s (bytesS ns),h)
theorem callos :
  (∀ c f xs id e h,PO.ev c (.callo f xs id) e h = calloK h ((xs.map (At.ev e)).flatMap (ref h)) id (c f ((xs.map (At.ev e)).map (tell h)))) ∧
  (∀ h refs id ap z es,calloK h refs id (some (.own ap z es)) = if (h id).isNone = true then some (.sl id z 0 es.length,(h.freeze refs).put id (.sl ap z es)) else none) ∧ (∀ h refs id z,calloK h refs id (some (.l z [])) = some (.l z [],h.freeze refs)) ∧
  (∀ c x e h,PO.ev c (.b2s x) e h = b2sK h (esV h 1 (x.ev e))) ∧ (∀ h es,b2sK h (some es) = (byteNs es).map fun ns => (.s (bytesS ns),h)) := ⟨fun _ _ _ _ _ _ => rfl,fun _ _ _ _ _ _ => rfl,fun _ _ _ _ => rfl,fun _ _ _ _ => rfl,fun _ _ => rfl⟩
theorem listc {α β : Type} : (∀ (f : α → β) x l,List.map f (x :: l) = f x :: List.map f l) ∧ (∀ (f : α → List β) x l,List.flatMap f (x :: l) = f x ++ List.flatMap f l) := ⟨fun _ _ _ => rfl,fun _ _ _ => rfl⟩
def idxaK (h : Heap) (n sz : Nat) (j : Option Int) (x : AV) : Option (AV × Heap) := match j,x with
 | some j,.p r q c => if 0 ≤ j ∧ j < (n : Int) then some (.p r q (c + j.toNat * sz),h) else none
 | some j,.tp cs c => if 0 ≤ j ∧ j < (n : Int) then some (.tp cs (c + j.toNat * sz),h) else none
 | _,_ => none
theorem idxas :
  (∀ c n sz x i e h,PO.ev c (.idxa n sz x i) e h = idxaK h n sz (intV (i.ev e)) (x.ev e)) ∧
  (∀ h n sz j r q c,idxaK h n sz (some j) (.p r q c) = if 0 ≤ j ∧ j < (n : Int) then some (.p r q (c + j.toNat * sz),h) else none) ∧
  (∀ h n sz j cs c,idxaK h n sz (some j) (.tp cs c) = if 0 ≤ j ∧ j < (n : Int) then some (.tp cs (c + j.toNat * sz),h) else none) := ⟨fun _ _ _ _ _ _ _ => rfl,fun _ _ _ _ _ _ _ => rfl,fun _ _ _ _ _ _ => rfl⟩
theorem casts : ((1 : Nat) : Int) = 1 ∧ ((2 : Nat) : Int) = 2 ∧ ((3 : Nat) : Int) = 3 ∧ ((4 : Nat) : Int) = 4 ∧ ((5 : Nat) : Int) = 5 ∧ ((6 : Nat) : Int) = 6 ∧ ((7 : Nat) : Int) = 7 ∧ ((8 : Nat) : Int) = 8 ∧ ((64 : Nat) : Int) = 64 := ⟨rfl,rfl,rfl,rfl,rfl,rfl,rfl,rfl,rfl⟩
theorem idxl : (∀ z x es j,idxV z (.l z (x :: es)) j = if 0 ≤ j ∧ j < ((x :: es).length : Int) then some (.tp ((x :: es).getD j.toNat []) 0) else none) ∧ (∀ ap z e x es,Row.at e (.sl ap z (x :: es)) = (x :: es)[e]?) ∧ (∀ z e x es,Row.at e (.fsl z (x :: es)) = (x :: es)[e]?) ∧ (∀ z x es e v,putC z (x :: es) e 0 v = (x :: es).set e (if v.length = z then v else fillC ((x :: es).getD e []) 0 v)) := by
 refine ⟨?_,?_,?_,?_⟩
 ·intro z x es j; simp only [idxV,true_and]
 ·intros; rfl
 ·intros; rfl
 ·intro z x es e v; simp only [putC,true_and]
def tpK (h : Heap) (o : Nat) : Option (List AV) → AV
 | some cs => .tp (cs.map (tell0 h)) o
 | none => .junk
def refK : Option (List AV) → List Nat
 | some cs => cs.flatMap ref0
 | none => []
theorem celltells (h : Heap) :
  (∀ x,tellC h (.b x) = .b x) ∧ (∀ x y,tellC h (.i x y) = .i x y) ∧ (∀ x,tellC h (.s x) = .s x) ∧ (∀ x y,tellC h (.l x y) = .l x y) ∧ (∀ x,tellC h (.ns x) = .l x []) ∧ (tellC h .np = .np) ∧ (∀ x y,tellC h (.tp x y) = .tp x y) ∧ (tellC h .junk = .junk) ∧ (∀ x,tell0 h (.b x) = .b x) ∧ (∀ x y,tell0 h (.i x y) = .i x y) ∧ (∀ x,tell0 h (.s x) = .s x) ∧ (∀ x y,tell0 h (.l x y) = .l x y) ∧ (∀ x,tell0 h (.ns x) = .l x []) ∧ (tell0 h .np = .np) ∧ (∀ x y,tell0 h (.tp x y) = .tp x y) ∧ (tell0 h .junk = .junk) ∧ (∀ x,refC h (.b x) = []) ∧ (∀ x y,refC h (.i x y) = []) ∧ (∀ x,refC h (.s x) = []) ∧ (∀ x y,refC h (.l x y) = []) ∧ (∀ x,refC h (.ns x) = []) ∧ (refC h .np = []) ∧ (∀ x y,refC h (.tp x y) = []) ∧ (refC h .junk = []) ∧ (∀ r z o n,tellC h (.sl r z o n) = tell0 h (.sl r z o n)) ∧ (∀ r e o,tellC h (.p r e o) = tpK h o ((h r).bind (Row.at e))) ∧ (∀ o cs,tpK h o (some cs) = .tp (cs.map (tell0 h)) o) ∧ (∀ r z o n,refC h (.sl r z o n) = [r]) ∧ (∀ r e o,refC h (.p r e o) = r :: refK ((h r).bind (Row.at e))) ∧ (∀ r e o,tell1 h (.p r e o) = tellC h (.p r e o)) ∧ (tell1 h .np = .np) ∧ (∀ x y,tell1 h (.tp x y) = .tp x y) ∧ (tell1 h .junk = .junk) ∧ (∀ r e o,ref1 h (.p r e o) = refC h (.p r e o)) ∧ (ref1 h .np = []) ∧ (∀ x y,ref1 h (.tp x y) = []) ∧ (ref1 h .junk = []) := by
 refine ⟨?_,?_,?_,?_,?_,?_,?_,?_,?_,?_,?_,?_,?_,?_,?_,?_,?_,?_,?_,?_,?_,?_,?_,?_,?_,?_,?_,?_,?_,?_,?_,?_,?_,?_,?_,?_,?_⟩ <;> intros <;> rfl
theorem cellrefs :
  (∀ x,ref0 (.b x) = []) ∧ (∀ x y,ref0 (.i x y) = []) ∧ (∀ x,ref0 (.s x) = []) ∧ (∀ x y,ref0 (.l x y) = []) ∧ (∀ x,ref0 (.ns x) = []) ∧ (ref0 .np = []) ∧ (∀ x y,ref0 (.tp x y) = []) ∧ (ref0 .junk = []) ∧ (∀ r z o n,ref0 (.sl r z o n) = [r]) ∧ (∀ cs,refK (some cs) = cs.flatMap ref0) := by
 refine ⟨?_,?_,?_,?_,?_,?_,?_,?_,?_,?_⟩ <;> intros <;> rfl
theorem boolq : (true == true) = true ∧ (true == false) = false ∧ (false == true) = false ∧ (false == false) = true ∧ (∀ b : Bool,(b == true) = b) ∧ (∀ b : Bool,(b == false) = !b) ∧ (∀ b : Bool,(true == b) = b) ∧ (∀ b : Bool,(false == b) = !b) ∧ (∀ b : Bool,(b == b) = true) := by decide
theorem conses {α : Type} : (∀ (x : α) (l : List α) (n : Nat),(x :: l)[n]? = if n = 0 then some x else l[n - 1]?) ∧ (∀ (x : α) (l : List α) (n : Nat),(x :: l).take n = if n = 0 then [] else x :: l.take (n - 1)) ∧ (∀ (x : α) l n,(x :: l).drop n = if n = 0 then x :: l else l.drop (n - 1)) ∧ (∀ (x d : α) l n,(x :: l).getD n d = if n = 0 then x else l.getD (n - 1) d) ∧ (∀ n : Nat,([] : List α)[n]? = none) ∧ (∀ n,([] : List α).take n = []) ∧ (∀ n,([] : List α).drop n = []) := by
 refine ⟨?_,?_,?_,?_,?_,?_,?_⟩
 ·intro x l n; cases n <;> rfl
 ·intro x l n; cases n <;> rfl
 ·intro x l n; cases n <;> rfl
 ·intro x d l n; cases n <;> rfl
 ·intro n; rfl
 ·intro n; exact List.take_nil
 ·intro n; exact List.drop_nil
theorem ldcs : (∀ (sz o : Nat) (x : AV) (cs : List AV),ldC false sz o (x :: cs) = (x :: cs)[o]?) ∧ (∀ (sz o : Nat) (x : AV) (cs : List AV),ldC true sz o (x :: cs) = if o = 0 ∧ (x :: cs).length = sz then some (.agg (x :: cs)) else if o + sz ≤ (x :: cs).length then some (.agg (((x :: cs).drop o).take sz)) else none) ∧ (∀ (z : List AV) off cs,fillC z off cs = z.take off ++ (cs ++ z.drop (off + cs.length))) ∧ (∀ (x : AV) l m,(x :: l) ++ m = x :: (l ++ m)) := by
 refine ⟨?_,?_,?_,?_⟩
 ·intros; rfl
 ·intros; rfl
 ·intro z off cs; simp [fillC]
 ·intros; rfl
theorem lits {α : Type} :
  (∀ x : α,zL 1 x = [x]) ∧ (∀ x : α,zL 2 x = [x,x]) ∧ (∀ x : α,zL 3 x = [x,x,x]) ∧ (∀ x : α,zL 4 x = [x,x,x,x]) ∧ (∀ (x y : α) l,(x :: l).set 0 y = y :: l) ∧ (∀ (x y : α) l,(x :: l).set 1 y = x :: l.set 0 y) ∧ (∀ (x y : α) l,(x :: l).set 2 y = x :: l.set 1 y) ∧ (∀ (x y : α) l,(x :: l).set 3 y = x :: l.set 2 y) ∧
  (∀ (x : α) l,(x :: l).take 1 = [x]) ∧ (∀ (x y : α) l,(x :: y :: l).take 2 = [x,y]) ∧ (∀ (x y z : α) l,(x :: y :: z :: l).take 3 = [x,y,z]) ∧ (∀ (x y z v : α) l,(x :: y :: z :: v :: l).take 4 = [x,y,z,v]) ∧ (∀ (x : α) l,(x :: l).length = l.length + 1) ∧ ([] : List α).length = 0 := by
 refine ⟨?_,?_,?_,?_,?_,?_,?_,?_,?_,?_,?_,?_,?_,?_⟩ <;> intros <;> rfl
def scutK (x : AV) (l : Option Int) (u : Option (Option Int)) (h : Heap) : Option (AV × Heap) := (match u with | none => scutV x l none | some u => u.bind fun u => scutV x l (some u)).map fun v => (v,h)
def s2bK (x : AV) (h : Heap) : Option (AV × Heap) := match x with
 | .s s => if s.size ≤ 140737488355328 then some (.l 1 (bytesL s),h) else none
 | _ => none
def aidxK (ag : Bool) (n sz : Nat) (x : AV) (j : Option Int) (h : Heap) : Option (AV × Heap) := match x,j with
 | .agg cs,some j => if 0 ≤ j ∧ j < (n : Int) then (ldC ag sz (j.toNat * sz) cs).map fun v => (v,h) else none
 | _,_ => none
theorem strs :
  (∀ c x lo e h,PO.ev c (.scut x lo none) e h = scutK (x.ev e) (optI e (some 0) lo) none h) ∧ (∀ c x lo y e h,PO.ev c (.scut x lo (some y)) e h = scutK (x.ev e) (optI e (some 0) lo) (some (intV (y.ev e))) h) ∧
  (∀ s l h,scutK (.s s) (some l) none h = if 0 ≤ l ∧ l ≤ (s.size : Int) then some (.s (s.extract l.toNat s.size),h) else none) ∧
  (∀ s l u h,scutK (.s s) (some l) (some (some u)) h = if 0 ≤ l ∧ l ≤ u ∧ u ≤ (s.size : Int) then some (.s (s.extract l.toNat u.toNat),h) else none) ∧
  (∀ c x e h,PO.ev c (.s2b x) e h = s2bK (x.ev e) h) ∧ (∀ s h,s2bK (.s s) h = if s.size ≤ 140737488355328 then some (.l 1 (bytesL s),h) else none) ∧
  (∀ c ag n sz x i e h,PO.ev c (.aidx ag n sz x i) e h = aidxK ag n sz (x.ev e) (intV (i.ev e)) h) ∧
  (∀ ag n sz cs j h,aidxK ag n sz (.agg cs) (some j) h = if 0 ≤ j ∧ j < (n : Int) then (ldC ag sz (j.toNat * sz) cs).map fun v => (v,h) else none) := by
 refine ⟨fun _ _ _ _ _ => rfl,fun _ _ _ _ _ _ => rfl,fun s l h => ?_,fun s l u h => ?_,fun _ _ _ _ => rfl,fun _ _ => rfl,fun _ _ _ _ _ _ _ _ => rfl,fun _ _ _ _ _ _ => rfl⟩
 ·simp only [scutK,scutV,Option.getD_none]
  by_cases q : 0 ≤ l ∧ l ≤ (s.size : Int)
  ·rw [if_pos ⟨q.1,q.2,Int.le_refl _⟩,if_pos q,Int.toNat_natCast]; rfl
  ·rw [if_neg fun h => q ⟨h.1,h.2.1⟩,if_neg q]; rfl
 ·simp only [scutK,scutV,Option.getD_some,zN]
  split <;> rfl
def retO (x : Option (Ex × St)) : Option (Ex × St) := x.bind fun p => match p.1 with
 | .ret => some p
 | _ => none
noncomputable def digK (F : Nat → Option PF) (x : AV) (y : PC) (e : Nat → AV) (h : Heap) : Option (Ex × St) := match x with
 | .s s => if digsB s then some (.normal,⟨junkE digT e,h⟩) else retO (Ev F y ⟨junkE digT e,h⟩)
 | _ => none
theorem junk_nil (e : Nat → AV) : junkE [] e = e := by funext t; simp [junkE]
theorem junk_cons (d : Nat) (ts : List Nat) (e : Nat → AV) : junkE (d :: ts) e = upd (junkE ts e) d .junk := by
 funext t
 simp only [junkE,upd,List.mem_cons]
 by_cases h : t = d
 ·simp [h]
 ·simp [h]
theorem digR (F : Nat → Option PF) : (∀ y e h,Ev F (.digs y) ⟨e,h⟩ = digK F (e 0) y e h) ∧ (∀ s y e h,digK F (.s s) y e h = if digsB s = true then some (.normal,⟨junkE digT e,h⟩) else retO (Ev F y ⟨junkE digT e,h⟩)) ∧ (∀ st,retO (some (.ret,st)) = some (.ret,st)) ∧
  (∀ e,junkE digT e = upd (upd (upd (upd (upd (upd (upd (upd (upd (upd (upd (upd e 23 .junk) 22 .junk) 21 .junk) 20 .junk) 19 .junk) 18 .junk) 17 .junk) 16 .junk) 15 .junk) 14 .junk) 13 .junk) 5 .junk) := by
 refine ⟨fun y e h => ?_,fun _ _ _ _ => rfl,fun _ => rfl,fun e => ?_⟩
 ·simp only [Ev,PC.ev,digK]
  generalize e 0 = x
  cases x <;> rfl
 ·simp only [digT,junk_cons,junk_nil]
def packNK (ls : List Nat) (h : Heap) (r : Nat) : Option Row → Option (AV × Heap)
 | some (.st cs) => if cs.length < 99 then (nestL ls h cs).map fun p => (.ownp p.1,p.2.put r .dead) else none
 | _ => none
def nestK (h : Heap) (q z o n : Nat) : Option Row → Option (AV × Heap)
 | some (.sl ap _ es) => some (.own (ap && apB z o n es.length) z ((es.drop o).take n),h.put q .dead)
 | some (.fsl _ es) => some (.l z ((es.drop o).take n),h)
 | _ => none
def nestJ (ls : List Nat) (p : Option (AV × Heap)) (xs : List AV) : Option (List AV × Heap) := p.bind fun p => (nestL ls p.2 xs).map fun q => (p.1 :: q.1,q.2)
def packMK (ls : List Nat) (h : Heap) (r : Nat) : Option Row → Option (AV × Heap)
 | some (.st cs) => if cs.length < 99 then (nestL (r :: ls) h cs).map fun p => (.ownp p.1,p.2.put r .dead) else none
 | _ => none
def lendNK (h : Heap) : Option Row → Option (AV × Heap)
 | some (.st cs) => if cs.length < 99 then (nestL ((cs.flatMap ref0).filter isLid) h cs).map fun p => (.ownp p.1,p.2) else none
 | _ => none
def backNK (h : Heap) (id : Nat) (y x : AV) (r : Option AV) : Option (AV × Heap) := r.bind (backN h id y x)
def copyK (h : Heap) (sz : Nat) (x y : AV) : Option (AV × Heap) := copyV h sz x y
def copyR (h : Heap) (sz r z o n : Nat) : Option Row → Option (List (List AV)) → Option (AV × Heap)
 | some (.sl ap z' es),some new => if z = sz ∧ z' = z ∧ o + n ≤ es.length then some (.i .i64 (Nat.min new.length n : Nat),h.put r (.sl ap z (es.take o ++ new.take (Nat.min new.length n) ++ es.drop (o + Nat.min new.length n)))) else none
 | _,_ => none
def callnK (call : Nat → List AV → Option AV) (h : Heap) (f : Nat) (vs : List AV) (li id : Nat) (y : AV) (x : Option (AV × Heap)) : Option (AV × Heap) := x.bind fun x => (call f (argsL h x.1 li vs)).bind (backN x.2 id y x.1)
theorem nests (ls : List Nat) (h : Heap) :
  (∀ e t l,pack e ls h ((t,4) :: l) = packK e ls (packN ls h (e t)) l) ∧ (∀ e t l,pack e ls h ((t,5) :: l) = packK e (t :: ls) (packM ls h t) l) ∧ (∀ r,packM ls h r = packMK ls h r (h r)) ∧ (∀ r cs,packMK ls h r (some (.st cs)) = if cs.length < 99 then (nestL (r :: ls) h cs).map fun p => (.ownp p.1,p.2.put r .dead) else none) ∧ (∀ r,packN ls h (.p r 0 0) = packNK ls h r (h r)) ∧
  (∀ r cs,packNK ls h r (some (.st cs)) = if cs.length < 99 then (nestL ls h cs).map fun p => (.ownp p.1,p.2.put r .dead) else none) ∧
  (nestL ls h [] = some ([],h)) ∧ (∀ x xs,nestL ls h (x :: xs) = nestJ ls (nestC ls h x) xs) ∧ (∀ y g xs,nestJ ls (some (y,g)) xs = (nestL ls g xs).map fun q => (y :: q.1,q.2)) ∧
  (∀ z,nestC ls h (.ns z) = some (.own true z [],h)) ∧ (∀ q z o n,nestC ls h (.sl q z o n) = if q ∈ ls then none else nestK h q z o n (h q)) ∧
  (∀ q z o n ap z' es,nestK h q z o n (some (.sl ap z' es)) = some (.own (ap && apB z o n es.length) z ((es.drop o).take n),h.put q .dead)) ∧ (∀ q z o n z' es,nestK h q z o n (some (.fsl z' es)) = some (.l z ((es.drop o).take n),h)) ∧
  (∀ x,nestC ls h (.b x) = some (.b x,h)) ∧ (∀ k x,nestC ls h (.i k x) = some (.i k x,h)) ∧ (∀ x,nestC ls h (.s x) = some (.s x,h)) ∧ (∀ z es,nestC ls h (.l z es) = some (.l z es,h)) ∧ (nestC ls h .np = some (.np,h)) ∧ (∀ cs o,nestC ls h (.tp cs o) = some (.tp cs o,h)) := by
 refine ⟨?_,?_,?_,?_,?_,?_,?_,?_,?_,?_,?_,?_,?_,?_,?_,?_,?_,?_,?_⟩
 ·intro e t l
  show (packN ls h (e t)).bind _ = _
  rfl
 ·intro e t l
  show (packM ls h t).bind _ = _
  rfl
 ·intro r; simp only [packM]; cases h r with
  | none => rfl
  | some x => cases x <;> rfl
 ·intros; rfl
 ·intro r; simp only [packN,and_self,if_true]; cases h r <;> rfl
 ·intros; rfl
 ·rfl
 ·intros; rfl
 ·intros; rfl
 ·intros; rfl
 ·intros; rfl
 ·intros; rfl
 ·intros; rfl
 ·intros; rfl
 ·intros; rfl
 ·intros; rfl
 ·intros; rfl
 ·rfl
 ·intros; rfl
theorem unNs :
  (∀ t l v vs e h,unpack ((t,4) :: l) (v :: vs) ⟨e,h⟩ = unpack l vs ⟨upd e t (unN h (pid t) v).1,(unN h (pid t) v).2⟩) ∧ (∀ h k cs,unN h k (.ownp cs) = (.p k 0 0,(unL (k + 1) h cs).2.put k (.st (unL (k + 1) h cs).1))) ∧
  (∀ t l v vs e h,unpack ((t,5) :: l) (v :: vs) ⟨e,h⟩ = unpack l vs ⟨e,(unN h t v).2⟩) ∧ (∀ t l v vs e h,unpack ((t,6) :: l) (v :: vs) ⟨e,h⟩ = unpack l vs ⟨upd e t (unN h (lid (t + 1000)) v).1,(unN h (lid (t + 1000)) v).2⟩) ∧
  (∀ s h,unL s h [] = ([],h)) ∧ (∀ s h x xs,unL s h (x :: xs) = ((unC s h x).1 :: (unL (s + 1) (unC s h x).2 xs).1,(unL (s + 1) (unC s h x).2 xs).2)) ∧
  (∀ s h ap z es,unC s h (.own ap z es) = (.sl s z 0 es.length,h.put s (.sl ap z es))) ∧ (∀ s h x,unC s h (.b x) = (.b x,h)) ∧ (∀ s h k x,unC s h (.i k x) = (.i k x,h)) ∧ (∀ s h x,unC s h (.s x) = (.s x,h)) ∧ (∀ s h z es,unC s h (.l z es) = (.l z es,h)) ∧ (∀ s h,unC s h .np = (.np,h)) ∧ (∀ s h cs o,unC s h (.tp cs o) = (.tp cs o,h)) ∧
  (∀ c f xs li id e h,PO.ev c (.calln f xs li id) e h = callnK c h f (xs.map (At.ev e)) li id ((xs.map (At.ev e)).getD li .junk) (lendN (h.freeze (refsL h li (xs.map (At.ev e)))) ((xs.map (At.ev e)).getD li .junk))) ∧
  (∀ h r,lendN h (.p r 0 0) = lendNK h (h r)) ∧ (∀ h cs,lendNK h (some (.st cs)) = if cs.length < 99 then (nestL ((cs.flatMap ref0).filter isLid) h cs).map fun p => (.ownp p.1,p.2) else none) ∧
  (∀ c h f vs li id y x,callnK c h f vs li id y (some x) = backNK x.2 id y x.1 (c f (argsL h x.1 li vs))) ∧ (∀ h id y x r,backNK h id y x (some r) = backN h id y x r) ∧
  (∀ h id q cs v cs2,backN h id (.p q 0 0) (.ownp cs) (.back v [.ownp cs2]) = if cs2.length = cs.length ∧ freeL h id cs = true then some (demoteT v,(unL id h (cs2.map demoteN)).2.put q (.st (unL id h (cs2.map demoteN)).1)) else none) ∧
  (∀ h s,freeL h s [] = true) ∧ (∀ h s x l,freeL h s (x :: l) = ((h s).isNone && freeL h (s + 1) l)) ∧ (∀ q,isLid q = (decide (200000 ≤ q) && decide (q % 100 = 0))) ∧ (∀ q l,List.filter isLid (q :: l) = if isLid q = true then q :: List.filter isLid l else List.filter isLid l) ∧ (List.filter isLid [] = []) ∧
  (∀ c sz x y e h,PO.ev c (.copy sz x y) e h = copyK h sz (x.ev e) (y.ev e)) ∧ (∀ h sz r z o n y,copyK h sz (.sl r z o n) y = copyR h sz r z o n (h r) (esV h z y)) ∧ (∀ h sz r z o n ap z' es new,copyR h sz r z o n (some (.sl ap z' es)) (some new) = if z = sz ∧ z' = z ∧ o + n ≤ es.length then some (.i .i64 (Nat.min new.length n : Nat),h.put r (.sl ap z (es.take o ++ new.take (Nat.min new.length n) ++ es.drop (o + Nat.min new.length n)))) else none) ∧
  (∀ ap z es,demoteN (.own ap z es) = .own ap z es) ∧ (∀ x,demoteN (.b x) = .b x) ∧ (∀ k x,demoteN (.i k x) = .i k x) ∧ (∀ x,demoteN (.s x) = .s x) ∧ (∀ z es,demoteN (.l z es) = .l z es) ∧ (demoteN .np = .np) ∧ (∀ cs o,demoteN (.tp cs o) = .tp cs o) ∧
  (∀ h refs id ap z es v,calloK h refs id (some (.tup [.own ap z es,v])) = if (h id).isNone = true then some (.tup [.sl id z 0 es.length,demote v],(h.freeze refs).put id (.sl ap z es)) else none) := by
 refine ⟨?_,?_,?_,?_,?_,?_,?_,?_,?_,?_,?_,?_,?_,?_,?_,?_,?_,?_,?_,?_,?_,?_,?_,?_,?_,?_,?_,?_,?_,?_,?_,?_,?_,?_,?_⟩
 case refine_26 =>
  intro h sz r z o n y
  simp only [copyK,copyV,copyR]
  all_goals (generalize h r = y2; cases y2 with
  | none => rfl
  | some x => cases x <;> first | rfl | (cases esV h z y <;> rfl))
 case refine_15 =>
  intro h r
  simp only [lendN,lendNK,and_self,if_true]
  all_goals (generalize h r = y; cases y with
  | none => rfl
  | some x => cases x <;> rfl)
 case refine_23 =>
  intro q l
  rw [List.filter_cons]
 all_goals (intros; rfl)
theorem boolnots (c : Prop) [Decidable c] : ((!decide c) = true) = ¬ c := by by_cases h : c <;> simp [h]
theorem fulls : (∀ n l,fullB 0 n l = true) ∧ (∀ o n l,apB 0 o n l = decide (o = 0)) ∧ (∀ n l,fullB 1 n l = true) ∧ (∀ o n l,apB 1 o n l = decide (o = 0)) ∧ (∀ n l,fullB 2 n l = true) ∧ (∀ o n l,apB 2 o n l = decide (o = 0)) ∧ (∀ n l,fullB 4 n l = true) ∧ (∀ o n l,apB 4 o n l = decide (o = 0)) ∧ (∀ n l,fullB 5 n l = true) ∧ (∀ o n l,apB 5 o n l = decide (o = 0)) ∧ (∀ n l,fullB 6 n l = true) ∧ (∀ o n l,apB 6 o n l = decide (o = 0)) ∧ (∀ n l,fullB 8 n l = true) ∧ (∀ o n l,apB 8 o n l = decide (o = 0)) ∧ (∀ n l,fullB 9 n l = true) ∧ (∀ o n l,apB 9 o n l = decide (o = 0)) ∧ (∀ n l,fullB 14 n l = true) ∧ (∀ o n l,apB 14 o n l = decide (o = 0)) ∧
  (∀ n,fullB 3 n n = true) ∧ (∀ n,apB 3 0 n n = true) := by
 refine ⟨?_,?_,?_,?_,?_,?_,?_,?_,?_,?_,?_,?_,?_,?_,?_,?_,?_,?_,?_,?_⟩ <;> intros <;> simp [fullB,apB]
def callkK (h : Heap) (refs : List Nat) (id : Nat) (r : Option AV) : Option (AV × Heap) := r.bind fun
 | .tup [.own ap z es,v] => if (h id).isNone ∧ (es.all fun r => r.all liC) = true ∧ liC v = true then some (.tup [.sl id z 0 es.length,v],(h.freeze (cut9 h refs)).put id (.sl ap z es)) else none
 | _ => none
theorem callks :
  (∀ c f xs id e h,PO.ev c (.callk f xs id) e h = callkK h ((xs.map (At.ev e)).flatMap (ref h)) id (c f ((xs.map (At.ev e)).map (tell h)))) ∧
  (∀ h refs id ap z es v,callkK h refs id (some (.tup [.own ap z es,v])) = if (h id).isNone = true ∧ (es.all fun r => r.all liC) = true ∧ liC v = true then some (.tup [.sl id z 0 es.length,v],(h.freeze (cut9 h refs)).put id (.sl ap z es)) else none) ∧
  (∀ h,cut9 h [] = []) ∧ (∀ h q l,cut9 h (q :: l) = if keepR (h q) = true then cut9 h l else q :: cut9 h l) ∧ (∀ es,keepR (some (.sl true 3 es)) = es.all fun r => r.all niC) ∧ (∀ z es,keepR (some (.fsl z es)) = false) ∧ (∀ cs,keepR (some (.st cs)) = false) ∧ (∀ cs,keepR (some (.fst cs)) = false) ∧
  (∀ ap es,keepR (some (.sl ap 1 es)) = false) ∧ (∀ ap es,keepR (some (.sl ap 14 es)) = false) ∧ (∀ k n,liC (.i k n) = true) ∧ (∀ b,liC (.b b) = true) := by
 refine ⟨?_,?_,?_,?_,?_,?_,?_,?_,?_,?_,?_,?_⟩
 case refine_9 => intro ap es; cases ap <;> rfl
 case refine_10 => intro ap es; cases ap <;> rfl
 all_goals (intros; rfl)
abbrev maxL : Nat := 9223372036854775807
theorem row_rules {α : Type} (f : α → List AV) (d : α) (z : Nat) (hz : ∀ x,(f x).length = z) (ht : ∀ h x,(f x).map (tellC h) = f x) :
  (∀ (l : List α) j,idxV z (.l z (l.map f)) j = if 0 ≤ j ∧ j < (l.length : Int) then some (.tp (f (l.getD j.toNat d)) 0) else none) ∧
  (∀ ap e (l : List α),Row.at e (.sl ap z (l.map f)) = if e < l.length then some (f (l.getD e d)) else none) ∧ (∀ e (l : List α),Row.at e (.fsl z (l.map f)) = if e < l.length then some (f (l.getD e d)) else none) ∧
  (∀ (l : List α) e x,putC z (l.map f) e 0 (f x) = (l.set e x).map f) ∧ (∀ (l : List α) x,l.map f ++ [f x] = (l ++ [x]).map f) := by
 refine ⟨fun l j => idxV_map f d z l j,fun ap e l => at_map f d ap z e l,fun e l => at_map f d true z e l,fun l e x => putC_map f z l e x (hz x),fun l x => by rw [jb]; rfl⟩
theorem maxLen_eq : maxLen = maxL := by decide
abbrev Fits (ks : List CK) (acs : List AV) : Prop := acs.length = ks.length ∧ ∀ c,c < ks.length → Fit (ks.getD c default) (acs.getD c .junk)
theorem Fits.one {k : CK} {acs : List AV} (h : Fits [k] acs) : ∃ x,acs = [x] ∧ Fit k x := by
 obtain ⟨h1,h2⟩ := h
 match acs,h1 with
 | [x],_ => exact ⟨x,rfl,h2 0 (by simp)⟩
theorem Fits.cons {k : CK} {ks : List CK} {acs : List AV} (h : Fits (k :: ks) acs) : ∃ x r,acs = x :: r ∧ Fit k x ∧ Fits ks r := by
 obtain ⟨h1,h2⟩ := h
 match acs,h1 with
 | x :: r,h1 => exact ⟨x,r,rfl,h2 0 (by simp),by simpa using h1,fun c hc => by simpa using h2 (c + 1) (by simpa using hc)⟩
theorem open_list {ks : List CK} {x : AV} (h : Fit (.sl ks) x) {α : Type} [Inhabited α] (f : α → List AV) (Q : α → Prop) (hf : ∀ acs,Fits ks acs → ∃ a,acs = f a ∧ Q a) : ∃ l : List α,x = .l ks.length (l.map f) ∧ l.length ≤ maxL ∧ ∀ a ∈ l,Q a := by
 obtain ⟨l,h1,h2,h3⟩ := h.inv_sl f Q fun acs h1 h2 => hf acs ⟨h1,h2⟩
 exact ⟨l,h1,by rw [← maxLen_eq]; exact h2,h3⟩
def kN : CK := .sl [.int .u64]
theorem open_N {x : AV} (h : Fit kN x) : ∃ l : List Int,x = .l 1 (l.map u) ∧ U l ∧ l.length ≤ maxL := by
 obtain ⟨l,h1,h2,h3⟩ := open_list h u (fun x => 0 ≤ x ∧ x ≤ 18446744073709551615) fun acs ha => by
  obtain ⟨y,rfl,hy⟩ := ha.one
  obtain ⟨n,rfl,hn⟩ := hy.inv_int
  exact ⟨n,rfl,wf_u64 hn⟩
 exact ⟨l,h1,h3,h2⟩
theorem open_int {x : AV} (h : Fit (.int .i64) x) : ∃ n : Int,x = .i .i64 n ∧ -9223372036854775808 ≤ n ∧ n ≤ 9223372036854775807 := by
 obtain ⟨n,rfl,hn⟩ := h.inv_int
 exact ⟨n,rfl,wf_i64 hn⟩
abbrev RQt := Bool × List Int × List Int
def eQ (x : RQt) : List AV := [.b x.1,.l 1 (x.2.1.map u),.l 1 (x.2.2.map u)]
def OkQ (x : RQt) : Prop := (U x.2.1 ∧ x.2.1.length ≤ maxL) ∧ U x.2.2 ∧ x.2.2.length ≤ maxL
abbrev RC := Bool × RQt
def eC (c : RC) : List AV := [.b c.1,.b c.2.1,.l 1 (c.2.2.1.map u),.l 1 (c.2.2.2.map u)]
def OkC (c : RC) : Prop := OkQ c.2
abbrev RS := Bool × Bool × RQt × RQt × Bool
def eS (s : RS) : List AV := [.b s.1,.b s.2.1,.b s.2.2.1.1,.l 1 (s.2.2.1.2.1.map u),.l 1 (s.2.2.1.2.2.map u),.b s.2.2.2.1.1,.l 1 (s.2.2.2.1.2.1.map u),.l 1 (s.2.2.2.1.2.2.map u),.b s.2.2.2.2]
theorem eC_rules : (∀ x,(eC x).length = 4) ∧ (∀ h x,(eC x).map (tellC h) = eC x) ∧ (∀ h x,(eC x).map (tell0 h) = eC x) ∧ (∀ h x,(eC x).flatMap (refC h) = []) ∧ (∀ x,(eC x).flatMap ref0 = []) ∧ (∀ x,ldC true 4 0 (eC x) = some (.agg [.b x.1,.b x.2.1,.l 1 (x.2.2.1.map u),.l 1 (x.2.2.2.map u)])) ∧ (∀ x,ldC true 3 1 (eC x) = some (.agg [.b x.2.1,.l 1 (x.2.2.1.map u),.l 1 (x.2.2.2.map u)])) ∧ (∀ x,ldC false 1 0 (eC x) = some (.b x.1)) := by
 refine ⟨?_,?_,?_,?_,?_,?_,?_,?_⟩ <;> intros <;> rfl
theorem eC_row : type_of% (row_rules eC (false,false,[],[]) 4 (fun _ => rfl) (fun _ _ => rfl)) := row_rules eC (false,false,[],[]) 4 (fun _ => rfl) (fun _ _ => rfl)
abbrev dQ : RQt := (false,[],[])
theorem eQ_rules : (∀ x,(eQ x).length = 3) ∧ (∀ h x,(eQ x).map (tellC h) = eQ x) ∧ (∀ h x,(eQ x).map (tell0 h) = eQ x) ∧ (∀ h x,(eQ x).flatMap (refC h) = []) ∧ (∀ x,(eQ x).flatMap ref0 = []) ∧
  (∀ x,ldC true 3 0 (eQ x) = some (.agg [.b x.1,.l 1 (x.2.1.map u),.l 1 (x.2.2.map u)])) := by
 refine ⟨?_,?_,?_,?_,?_,?_⟩ <;> intros <;> rfl
theorem eQ_row : type_of% (row_rules eQ dQ 3 (fun _ => rfl) (fun _ _ => rfl)) := row_rules eQ dQ 3 (fun _ => rfl) (fun _ _ => rfl)
def kQ : List CK := [.bool,kN,kN]
theorem open_Q {acs : List AV} (h : Fits kQ acs) : ∃ x,acs = eQ x ∧ OkQ x := by
 obtain ⟨a,r,rfl,h1,h⟩ := h.cons
 obtain ⟨b,r,rfl,h2,h⟩ := h.cons
 obtain ⟨c,rfl,h3⟩ := h.one
 obtain ⟨q,rfl⟩ := h1.inv_bool
 obtain ⟨l,rfl,g1,g2⟩ := open_N h2
 obtain ⟨d,rfl,g3,g4⟩ := open_N h3
 exact ⟨(q,l,d),rfl,⟨g1,g2⟩,g3,g4⟩
def kC : List CK := [.bool,.bool,kN,kN]
theorem open_C {acs : List AV} (h : Fits kC acs) : ∃ x,acs = eC x ∧ OkC x := by
 obtain ⟨a,r,rfl,h1,hr⟩ := h.cons
 obtain ⟨m,rfl⟩ := h1.inv_bool
 obtain ⟨x,rfl,g⟩ := open_Q hr
 exact ⟨(m,x),rfl,g⟩
theorem open_LQ {x : AV} (h : Fit (.sl kQ) x) : ∃ l : List RQt,x = .l 3 (l.map eQ) ∧ l.length ≤ maxL ∧ ∀ a ∈ l,OkQ a := open_list h eQ OkQ fun acs ha => open_Q ha
theorem open_LC {x : AV} (h : Fit (.sl kC) x) : ∃ l : List RC,x = .l 4 (l.map eC) ∧ l.length ≤ maxL ∧ ∀ a ∈ l,OkC a := open_list h eC OkC fun acs ha => open_C ha
def len8 : ByteArray := ⟨#[0,1,2,2,3,3,3,3,4,4,4,4,4,4,4,4,5,5,5,5,5,5,5,5,5,5,5,5,5,5,5,5,6,6,6,6,6,6,6,6,6,6,6,6,6,6,6,6,6,6,6,6,6,6,6,6,6,6,6,6,6,6,6,6,7,7,7,7,7,7,7,7,7,7,7,7,7,7,7,7,7,7,7,7,7,7,7,7,7,7,7,7,7,7,7,7,7,7,7,7,7,7,7,7,7,7,7,7,7,7,7,7,7,7,7,7,7,7,7,7,7,7,7,7,7,7,7,7,8,8,8,8,8,8,8,8,8,8,8,8,8,8,8,8,8,8,8,8,8,8,8,8,8,8,8,8,8,8,8,8,8,8,8,8,8,8,8,8,8,8,8,8,8,8,8,8,8,8,8,8,8,8,8,8,8,8,8,8,8,8,8,8,8,8,8,8,8,8,8,8,8,8,8,8,8,8,8,8,8,8,8,8,8,8,8,8,8,8,8,8,8,8,8,8,8,8,8,8,8,8,8,8,8,8,8,8,8,8,8,8,8,8,8,8,8,8,8,8,8,8,8,8,8,8,8,8]⟩
def tab0 : List AV := [.i .u8 0,.i .u8 1,.i .u8 56,.i .u8 2,.i .u8 57,.i .u8 49,.i .u8 28,.i .u8 3,.i .u8 61,.i .u8 58,.i .u8 42,.i .u8 50,.i .u8 38,.i .u8 29,.i .u8 17,.i .u8 4,.i .u8 62,.i .u8 47,.i .u8 59,.i .u8 36,.i .u8 45,.i .u8 43,.i .u8 51,.i .u8 22,.i .u8 53,.i .u8 39,.i .u8 33,.i .u8 30,.i .u8 24,.i .u8 18,.i .u8 12,.i .u8 5,.i .u8 63,.i .u8 55,.i .u8 48,.i .u8 27,.i .u8 60,.i .u8 41,.i .u8 37,.i .u8 16,.i .u8 46,.i .u8 35,.i .u8 44,.i .u8 21,.i .u8 52,.i .u8 32,.i .u8 23,.i .u8 11,.i .u8 54,.i .u8 26,.i .u8 40,.i .u8 15,.i .u8 34,.i .u8 20,.i .u8 31,.i .u8 10,.i .u8 25,.i .u8 14,.i .u8 19,.i .u8 9,.i .u8 13,.i .u8 8,.i .u8 7,.i .u8 6]
def c1 : PC := (.seq (.reg [] [zO 3 (.box 3 3 (.t 0)),zO 4 (.box 4 3 (.t 1)),zO 5 (.box 5 4 (.t 2)),zO 6 (.mv (.c (.b false)))]) (.seq (.reg [] [zO 8 (.ld true 3 (.t 3)),zO 9 (.call 12 [(.t 8)]),⟨none,.st 3 (.t 3) (.t 9),none⟩]) (.seq (.reg [] [zO 10 (.ld true 3 (.t 4)),zO 11 (.call 12 [(.t 10)]),⟨none,.st 3 (.t 4) (.t 11),none⟩]) (.seq (.reg [] [zO 12 (.ld true 4 (.t 5)),zO 13 (.call 13 [(.t 12)]),⟨none,.st 4 (.t 5) (.t 13),none⟩]) (.seq (.join [(3,0),(4,0),(5,0),(7,0)] (.reg [] [zO 14 (.fld 0 (.t 5)),zO 15 (.ld false 1 (.t 14)),zO 16 (.not (.t 15)),zO 17 (.mv (.t 16)),⟨some 18,.fld 1 (.t 5),some (17,true)⟩,⟨some 19,.ld true 3 (.t 18),some (17,true)⟩,⟨some 20,.ld true 3 (.t 3),some (17,true)⟩,⟨some 21,.call 14 [(.t 19),(.t 20)],some (17,true)⟩,⟨some 22,.bin .geq (.t 21) (.c (.i .i64 0)),some (17,true)⟩,zO 23 (.pick (.t 17) (.t 22) (.c (.b false))),zO 24 (.mv (.t 23)),⟨some 25,.fld 1 (.t 5),some (24,true)⟩,⟨some 26,.ld true 3 (.t 25),some (24,true)⟩,⟨some 27,.ld true 3 (.t 4),some (24,true)⟩,⟨some 28,.call 14 [(.t 26),(.t 27)],some (24,true)⟩,⟨some 29,.bin .lss (.t 28) (.c (.i .i64 0)),some (24,true)⟩,zO 30 (.pick (.t 24) (.t 29) (.c (.b false))),zO 7 (.mv (.t 30))])) (.seq (.join [(6,0)] (.reg [] [zO 31 (.ld true 3 (.t 3)),zO 32 (.ld true 3 (.t 4)),zO 33 (.call 16 [(.t 31),(.t 32)]),zO 34 (.ld true 4 (.t 5)),zO 35 (.call 15 [(.t 33),(.t 34)]),zO 36 (.mv (.t 7)),zO 37 (.eqb false (.t 35) (.t 36)),zO 38 (.mv (.t 37)),⟨some 39,.call 17 [],some (38,true)⟩,zO 40 (.pick (.t 38) (.t 39) (.c (.b false))),zO 6 (.mv (.t 40))])) .ret))))))
def p1 : PF := ⟨[(.tmp 6,0)],[],c1⟩
def c2 : PC := (.seq (.reg [] [zO 4 (.box 4 9 (.t 0)),zO 5 (.box 5 3 (.t 1)),zO 7 (.box 7 4 (.t 3)),zO 8 (.mv (.c (.b false)))]) (.seq (.reg [] [zO 13 (.ld true 9 (.t 4)),zO 14 (.call 18 [(.t 13)]),⟨none,.st 9 (.t 4) (.t 14),none⟩]) (.seq (.reg [] [zO 15 (.ld true 3 (.t 5)),zO 16 (.call 12 [(.t 15)]),⟨none,.st 3 (.t 5) (.t 16),none⟩]) (.seq (.reg [] [zO 17 (.ld true 4 (.t 7)),zO 18 (.call 13 [(.t 17)]),⟨none,.st 4 (.t 7) (.t 18),none⟩]) (.seq (.reg [] [zO 19 (.ld true 9 (.t 4)),zO 20 (.ld true 3 (.t 5)),zO 21 (.mv (.t 2)),zO 22 (.call 19 [(.t 19),(.t 20),(.t 21)]),zO 9 (.alloc 9 [.b false,.b false,.b false,.ns 1,.ns 1,.b false,.ns 1,.ns 1,.b false]),⟨none,.st 9 (.t 9) (.t 22),none⟩]) (.seq (.reg [] [zO 23 (.ld true 9 (.t 4)),zO 24 (.ld true 3 (.t 5)),zO 25 (.mv (.t 2)),zO 26 (.call 20 [(.t 23),(.t 24),(.t 25)]),zO 10 (.alloc 10 [.b false,.b false,.b false,.ns 1,.ns 1,.b false,.ns 1,.ns 1,.b false]),⟨none,.st 9 (.t 10) (.t 26),none⟩]) (.seq (.join [(2,0),(4,0),(7,0),(9,0),(10,0),(11,0)] (.reg [] [zO 27 (.fld 0 (.t 7)),zO 28 (.ld false 1 (.t 27)),zO 29 (.not (.t 28)),zO 30 (.mv (.t 29)),⟨some 31,.fld 1 (.t 7),some (30,true)⟩,⟨some 32,.ld true 3 (.t 31),some (30,true)⟩,⟨some 33,.ld true 3 (.t 5),some (30,true)⟩,⟨some 34,.call 14 [(.t 32),(.t 33)],some (30,true)⟩,⟨some 35,.bin .lss (.t 34) (.c (.i .i64 0)),some (30,true)⟩,zO 36 (.pick (.t 30) (.t 35) (.c (.b false))),zO 11 (.mv (.t 36))])) (.seq (.join [(4,0),(7,0),(9,0),(10,0),(11,0),(12,0)] (.reg [] [zO 37 (.fld 0 (.t 7)),zO 38 (.ld false 1 (.t 37)),zO 39 (.mv (.t 38)),⟨some 40,.mv (.t 2),some (39,true)⟩,zO 41 (.pick (.t 39) (.t 40) (.c (.b false))),zO 12 (.mv (.t 41))])) (.seq (.join [(8,0)] (.reg [] [zO 42 (.ld true 9 (.t 9)),zO 43 (.ld true 4 (.t 7)),zO 44 (.call 15 [(.t 42),(.t 43)]),zO 45 (.ld true 9 (.t 4)),zO 46 (.ld true 4 (.t 7)),zO 47 (.call 15 [(.t 45),(.t 46)]),zO 48 (.mv (.t 47)),⟨some 49,.mv (.t 11),some (48,true)⟩,⟨some 50,.mv (.t 49),some (48,true)⟩,⟨some 51,.mv (.t 12),some (50,false)⟩,⟨some 52,.pick (.t 50) (.c (.b true)) (.t 51),some (48,true)⟩,zO 53 (.pick (.t 48) (.t 52) (.c (.b false))),zO 54 (.eqb false (.t 44) (.t 53)),zO 55 (.mv (.t 54)),⟨some 56,.ld true 9 (.t 10),some (55,true)⟩,⟨some 57,.ld true 4 (.t 7),some (55,true)⟩,⟨some 58,.call 15 [(.t 56),(.t 57)],some (55,true)⟩,⟨some 59,.ld true 9 (.t 4),some (55,true)⟩,⟨some 60,.ld true 4 (.t 7),some (55,true)⟩,⟨some 61,.call 15 [(.t 59),(.t 60)],some (55,true)⟩,⟨some 62,.mv (.t 61),some (55,true)⟩,⟨some 63,.fld 0 (.t 7),some (62,true)⟩,⟨some 64,.ld false 1 (.t 63),some (62,true)⟩,⟨some 65,.not (.t 64),some (62,true)⟩,⟨some 66,.mv (.t 65),some (62,true)⟩,⟨some 67,.mv (.t 11),some (66,true)⟩,⟨some 68,.not (.t 67),some (66,true)⟩,⟨some 69,.pick (.t 66) (.t 68) (.c (.b false)),some (62,true)⟩,⟨some 70,.mv (.t 69),some (62,true)⟩,⟨some 71,.mv (.t 12),some (70,false)⟩,⟨some 72,.pick (.t 70) (.c (.b true)) (.t 71),some (62,true)⟩,⟨some 73,.pick (.t 62) (.t 72) (.c (.b false)),some (55,true)⟩,⟨some 74,.eqb false (.t 58) (.t 73),some (55,true)⟩,zO 75 (.pick (.t 55) (.t 74) (.c (.b false))),zO 76 (.mv (.t 75)),⟨some 77,.call 17 [],some (76,true)⟩,zO 78 (.pick (.t 76) (.t 77) (.c (.b false))),zO 8 (.mv (.t 78))])) .ret)))))))))
def p2 : PF := ⟨[(.tmp 8,0)],[],c2⟩
def c3 : PC := (.seq (.reg [] [zO 2 (.box 2 9 (.t 0)),zO 3 (.box 3 4 (.t 1)),zO 4 (.mv (.c (.b false)))]) (.seq (.reg [] [zO 6 (.ld true 9 (.t 2)),zO 7 (.call 18 [(.t 6)]),⟨none,.st 9 (.t 2) (.t 7),none⟩]) (.seq (.reg [] [zO 8 (.ld true 4 (.t 3)),zO 9 (.call 13 [(.t 8)]),⟨none,.st 4 (.t 3) (.t 9),none⟩]) (.seq (.reg [] [zO 10 (.ld true 9 (.t 2)),zO 11 (.call 21 [(.t 10)]),zO 5 (.alloc 5 [.b false,.b false,.b false,.ns 1,.ns 1,.b false,.ns 1,.ns 1,.b false]),⟨none,.st 9 (.t 5) (.t 11),none⟩]) (.seq (.seq (.join [(3,0),(5,0),(36,0)] (.reg [] [zO 12 (.ld true 9 (.t 2)),zO 13 (.ld true 4 (.t 3)),zO 14 (.call 22 [(.t 12),(.t 13)]),zO 15 (.ld true 9 (.t 2)),zO 16 (.ld true 4 (.t 3)),zO 17 (.call 15 [(.t 15),(.t 16)]),zO 18 (.eqb true (.t 14) (.t 17)),zO 19 (.mv (.t 18)),⟨some 20,.ld true 9 (.t 5),some (19,false)⟩,⟨some 21,.ld true 4 (.t 3),some (19,false)⟩,⟨some 22,.call 15 [(.t 20),(.t 21)],some (19,false)⟩,⟨some 23,.ld true 9 (.t 2),some (19,false)⟩,⟨some 24,.ld true 4 (.t 3),some (19,false)⟩,⟨some 25,.call 15 [(.t 23),(.t 24)],some (19,false)⟩,⟨some 26,.eqb true (.t 22) (.t 25),some (19,false)⟩,zO 27 (.pick (.t 19) (.c (.b true)) (.t 26)),zO 28 (.mv (.t 27)),⟨some 29,.ld true 9 (.t 2),some (28,false)⟩,⟨some 30,.ld true 4 (.t 3),some (28,false)⟩,⟨some 31,.call 15 [(.t 29),(.t 30)],some (28,false)⟩,⟨some 32,.mv (.t 31),some (28,false)⟩,⟨some 33,.ld true 9 (.t 2),some (32,true)⟩,⟨some 34,.call 23 [(.t 33)],some (32,true)⟩,⟨some 35,.pick (.t 32) (.t 34) (.c (.b false)),some (28,false)⟩,zO 36 (.pick (.t 28) (.c (.b true)) (.t 35))])) (.cond (.t 36) (.seq (.reg [] [zO 4 (.mv (.c (.b false)))]) .ret) .skip)) (.seq (.seq (.join [(3,0),(78,0)] (.reg [] [zO 37 (.fld 0 (.t 5)),zO 38 (.ld false 1 (.t 37)),zO 39 (.mv (.t 38)),⟨some 40,.fld 2 (.t 5),some (39,true)⟩,⟨some 41,.ld true 3 (.t 40),some (39,true)⟩,⟨some 42,.call 24 [(.t 41)],some (39,true)⟩,⟨some 43,.not (.t 42),some (39,true)⟩,zO 44 (.pick (.t 39) (.t 43) (.c (.b false))),zO 45 (.mv (.t 44)),⟨some 46,.fld 0 (.t 5),some (45,false)⟩,⟨some 47,.ld false 1 (.t 46),some (45,false)⟩,⟨some 48,.not (.t 47),some (45,false)⟩,⟨some 49,.mv (.t 48),some (45,false)⟩,⟨some 50,.fld 2 (.t 5),some (49,true)⟩,⟨some 51,.fld 2 (.t 50),some (49,true)⟩,⟨some 52,.ld false 1 (.t 51),some (49,true)⟩,⟨some 53,.len (.t 52),some (49,true)⟩,⟨some 54,.bin .neq (.t 53) (.c (.i .i64 0)),some (49,true)⟩,⟨some 55,.pick (.t 49) (.t 54) (.c (.b false)),some (45,false)⟩,zO 56 (.pick (.t 45) (.c (.b true)) (.t 55)),zO 57 (.mv (.t 56)),⟨some 58,.fld 1 (.t 5),some (57,false)⟩,⟨some 59,.ld false 1 (.t 58),some (57,false)⟩,⟨some 60,.mv (.t 59),some (57,false)⟩,⟨some 61,.fld 5 (.t 5),some (60,true)⟩,⟨some 62,.ld true 3 (.t 61),some (60,true)⟩,⟨some 63,.call 24 [(.t 62)],some (60,true)⟩,⟨some 64,.not (.t 63),some (60,true)⟩,⟨some 65,.pick (.t 60) (.t 64) (.c (.b false)),some (57,false)⟩,zO 66 (.pick (.t 57) (.c (.b true)) (.t 65)),zO 67 (.mv (.t 66)),⟨some 68,.fld 1 (.t 5),some (67,false)⟩,⟨some 69,.ld false 1 (.t 68),some (67,false)⟩,⟨some 70,.not (.t 69),some (67,false)⟩,⟨some 71,.mv (.t 70),some (67,false)⟩,⟨some 72,.fld 5 (.t 5),some (71,true)⟩,⟨some 73,.fld 2 (.t 72),some (71,true)⟩,⟨some 74,.ld false 1 (.t 73),some (71,true)⟩,⟨some 75,.len (.t 74),some (71,true)⟩,⟨some 76,.bin .neq (.t 75) (.c (.i .i64 0)),some (71,true)⟩,⟨some 77,.pick (.t 71) (.t 76) (.c (.b false)),some (67,false)⟩,zO 78 (.pick (.t 67) (.c (.b true)) (.t 77))])) (.cond (.t 78) (.seq (.reg [] [zO 4 (.mv (.c (.b false)))]) .ret) .skip)) (.seq (.join [(4,0)] (.reg [] [zO 79 (.call 25 []),zO 80 (.ld true 4 (.t 3)),zO 81 (.call 15 [(.t 79),(.t 80)]),zO 82 (.mv (.t 81)),⟨some 83,.call 26 [],some (82,true)⟩,⟨some 84,.ld true 4 (.t 3),some (82,true)⟩,⟨some 85,.call 15 [(.t 83),(.t 84)],some (82,true)⟩,⟨some 86,.fld 0 (.t 3),some (82,true)⟩,⟨some 87,.ld false 1 (.t 86),some (82,true)⟩,⟨some 88,.not (.t 87),some (82,true)⟩,⟨some 89,.eqb false (.t 85) (.t 88),some (82,true)⟩,zO 90 (.pick (.t 82) (.t 89) (.c (.b false))),zO 91 (.mv (.t 90)),⟨some 92,.call 17 [],some (91,true)⟩,zO 93 (.pick (.t 91) (.t 92) (.c (.b false))),zO 4 (.mv (.t 93))])) .ret)))))))
def p3 : PF := ⟨[(.tmp 4,0)],[],c3⟩
def c4 : PC := (.seq (.reg [] [zO 3 (.box 3 9 (.t 0)),zO 4 (.box 4 9 (.t 1)),zO 5 (.box 5 4 (.t 2)),zO 6 (.mv (.c (.b false)))]) (.seq (.reg [] [zO 8 (.ld true 9 (.t 3)),zO 9 (.call 18 [(.t 8)]),⟨none,.st 9 (.t 3) (.t 9),none⟩]) (.seq (.reg [] [zO 10 (.ld true 9 (.t 4)),zO 11 (.call 18 [(.t 10)]),⟨none,.st 9 (.t 4) (.t 11),none⟩]) (.seq (.reg [] [zO 12 (.ld true 4 (.t 5)),zO 13 (.call 13 [(.t 12)]),⟨none,.st 4 (.t 5) (.t 13),none⟩]) (.seq (.reg [] [zO 14 (.ld true 9 (.t 3)),zO 15 (.ld true 9 (.t 4)),zO 16 (.call 27 [(.t 14),(.t 15)]),zO 7 (.alloc 7 [.b false,.b false,.b false,.ns 1,.ns 1,.b false,.ns 1,.ns 1,.b false]),⟨none,.st 9 (.t 7) (.t 16),none⟩]) (.seq (.seq (.join [(3,0),(4,0),(5,0),(7,0),(28,0)] (.reg [] [zO 17 (.ld true 9 (.t 7)),zO 18 (.ld true 4 (.t 5)),zO 19 (.call 15 [(.t 17),(.t 18)]),zO 20 (.ld true 9 (.t 3)),zO 21 (.ld true 4 (.t 5)),zO 22 (.call 15 [(.t 20),(.t 21)]),zO 23 (.mv (.t 22)),⟨some 24,.ld true 9 (.t 4),some (23,true)⟩,⟨some 25,.ld true 4 (.t 5),some (23,true)⟩,⟨some 26,.call 15 [(.t 24),(.t 25)],some (23,true)⟩,zO 27 (.pick (.t 23) (.t 26) (.c (.b false))),zO 28 (.eqb true (.t 19) (.t 27))])) (.cond (.t 28) (.seq (.reg [] [zO 6 (.mv (.c (.b false)))]) .ret) .skip)) (.seq (.join [(6,0)] (.reg [] [zO 29 (.ld true 9 (.t 3)),zO 30 (.ld true 9 (.t 4)),zO 31 (.call 28 [(.t 29),(.t 30)]),zO 32 (.not (.t 31)),zO 33 (.mv (.t 32)),⟨some 34,.ld true 9 (.t 3),some (33,false)⟩,⟨some 35,.ld true 4 (.t 5),some (33,false)⟩,⟨some 36,.call 15 [(.t 34),(.t 35)],some (33,false)⟩,⟨some 37,.not (.t 36),some (33,false)⟩,zO 38 (.pick (.t 33) (.c (.b true)) (.t 37)),zO 39 (.mv (.t 38)),⟨some 40,.ld true 9 (.t 4),some (39,false)⟩,⟨some 41,.ld true 4 (.t 5),some (39,false)⟩,⟨some 42,.call 15 [(.t 40),(.t 41)],some (39,false)⟩,zO 43 (.pick (.t 39) (.c (.b true)) (.t 42)),zO 44 (.mv (.t 43)),⟨some 45,.ld true 9 (.t 7),some (44,true)⟩,⟨some 46,.ld true 9 (.t 3),some (44,true)⟩,⟨some 47,.call 28 [(.t 45),(.t 46)],some (44,true)⟩,zO 48 (.pick (.t 44) (.t 47) (.c (.b false))),zO 49 (.mv (.t 48)),⟨some 50,.ld true 9 (.t 7),some (49,true)⟩,⟨some 51,.ld true 9 (.t 4),some (49,true)⟩,⟨some 52,.call 28 [(.t 50),(.t 51)],some (49,true)⟩,zO 53 (.pick (.t 49) (.t 52) (.c (.b false))),zO 54 (.mv (.t 53)),⟨some 55,.call 17 [],some (54,true)⟩,zO 56 (.pick (.t 54) (.t 55) (.c (.b false))),zO 6 (.mv (.t 56))])) .ret)))))))
def p4 : PF := ⟨[(.tmp 6,0)],[],c4⟩
def b5_0 : PC := (.seq (.seq (.join [(0,0),(1,0),(3,0),(6,0),(9,0),(10,0),(11,0),(35,0)] (.reg [] [zO 29 (.mv (.t 11)),zO 30 (.mv (.t 0)),zO 31 (.len (.t 30)),zO 32 (.bin .lss (.t 29) (.t 31)),zO 33 (.mv (.t 32)),⟨some 34,.mv (.t 10),some (33,true)⟩,zO 35 (.pick (.t 33) (.t 34) (.c (.b false)))])) (.cond (.t 35) .skip (.exit 0))) (.seq (.block 1 (.seq (.reg [(12,44)] [zO 38 (.mv (.t 0)),zO 39 (.mv (.t 11)),zO 40 (.idx 4 (.t 38) (.t 39)),zO 41 (.ld true 4 (.t 40)),zO 42 (.mv (.t 1)),zO 43 (.mv (.t 11)),zO 44 (.idx 4 (.t 42) (.t 43)),zO 45 (.ld true 4 (.t 44)),zO 12 (.alloc 12 [.b false,.b false,.ns 1,.ns 1]),zO 13 (.alloc 13 [.b false,.b false,.ns 1,.ns 1]),⟨none,.st 4 (.t 12) (.t 41),none⟩,⟨none,.st 4 (.t 13) (.t 45),none⟩]) (.seq (.join [(0,0),(1,0),(3,0),(6,0),(9,0),(11,0),(12,0),(13,0),(51,0)] (.reg [] [zO 46 (.fld 0 (.t 12)),zO 47 (.ld false 1 (.t 46)),zO 48 (.mv (.t 47)),⟨some 49,.fld 0 (.t 13),some (48,false)⟩,⟨some 50,.ld false 1 (.t 49),some (48,false)⟩,zO 51 (.pick (.t 48) (.c (.b true)) (.t 50))])) (.join [(0,0),(1,0),(3,0),(6,0),(9,0),(10,0),(11,0)] (.cond (.t 51) (.join [(0,0),(1,0),(3,0),(6,0),(9,0),(10,0),(11,0)] (.reg [] [zO 52 (.fld 0 (.t 12)),zO 53 (.ld false 1 (.t 52)),zO 54 (.mv (.t 53)),⟨some 55,.fld 0 (.t 13),some (54,true)⟩,⟨some 56,.ld false 1 (.t 55),some (54,true)⟩,zO 57 (.pick (.t 54) (.t 56) (.c (.b false))),zO 10 (.mv (.t 57))])) (.join [(0,0),(1,0),(3,0),(6,0),(9,0),(10,0),(11,0)] (.reg [] [zO 58 (.fld 1 (.t 13)),zO 59 (.ld true 3 (.t 58)),zO 60 (.fld 1 (.t 12)),zO 61 (.ld true 3 (.t 60)),zO 62 (.call 14 [(.t 59),(.t 61)]),zO 63 (.bin .geq (.t 62) (.c (.i .i64 0))),zO 64 (.mv (.t 63)),⟨some 65,.fld 1 (.t 13),some (64,true)⟩,⟨some 66,.ld true 3 (.t 65),some (64,true)⟩,⟨some 67,.fld 1 (.t 12),some (64,true)⟩,⟨some 68,.ld true 3 (.t 67),some (64,true)⟩,⟨some 69,.ld true 3 (.t 6),some (64,true)⟩,⟨some 70,.call 31 [(.t 68),(.t 69)],some (64,true)⟩,⟨some 71,.call 14 [(.t 66),(.t 70)],some (64,true)⟩,⟨some 72,.bin .lss (.t 71) (.c (.i .i64 0)),some (64,true)⟩,zO 73 (.pick (.t 64) (.t 72) (.c (.b false))),zO 10 (.mv (.t 73))]))))))) (.reg [] [zO 36 (.mv (.t 11)),zO 37 (.bin .add (.t 36) (.c (.i .i64 1))),zO 11 (.mv (.t 37))])))
def c5 : PC := (.seq (.reg [] [zO 6 (.box 6 3 (.t 2)),zO 8 (.mv (.c (.b false)))]) (.seq (.reg [] [zO 15 (.mv (.t 0)),zO 16 (.call 29 [(.t 15),(.c (.i .i64 5))]),zO 0 (.mv (.t 16))]) (.seq (.reg [] [zO 17 (.mv (.t 1)),zO 18 (.call 29 [(.t 17),(.c (.i .i64 5))]),zO 1 (.mv (.t 18))]) (.seq (.reg [] [zO 19 (.ld true 3 (.t 6)),zO 20 (.call 12 [(.t 19)]),⟨none,.st 3 (.t 6) (.t 20),none⟩]) (.seq (.reg [] [zO 21 (.mv (.t 0)),zO 22 (.ld true 3 (.t 6)),zO 23 (.call 30 [(.t 21),(.t 22)]),zO 9 (.mv (.t 23))]) (.seq (.reg [] [zO 24 (.mv (.t 1)),zO 25 (.len (.t 24)),zO 26 (.mv (.t 0)),zO 27 (.len (.t 26)),zO 28 (.bin .eql (.t 25) (.t 27)),zO 10 (.mv (.t 28))]) (.seq (.seq (.reg [] [zO 11 (.mv (.c (.i .i64 0)))]) (.block 0 (.loop [(0,0),(1,0),(3,0),(6,0),(9,0),(10,0),(11,0)] [(0,0),(1,0),(3,0),(9,0),(10,0)] b5_0))) (.seq (.seq (.join [(1,0),(3,0),(85,0)] (.reg [] [zO 74 (.mv (.t 9)),zO 75 (.len (.t 74)),zO 76 (.mv (.t 0)),zO 77 (.len (.t 76)),zO 78 (.bin .neq (.t 75) (.t 77)),zO 79 (.mv (.t 78)),⟨some 80,.mv (.t 9),some (79,false)⟩,⟨some 81,.mv (.t 1),some (79,false)⟩,⟨some 82,.call 32 [(.t 80),(.t 81)],some (79,false)⟩,⟨some 83,.mv (.t 10),some (79,false)⟩,⟨some 84,.eqb true (.t 82) (.t 83),some (79,false)⟩,zO 85 (.pick (.t 79) (.c (.b true)) (.t 84))])) (.cond (.t 85) (.seq (.reg [] [zO 8 (.mv (.c (.b false)))]) .ret) .skip)) (.seq (.seq (.reg [] [zO 86 (.mv (.t 3)),zO 87 (.bin .gtr (.t 86) (.c (.i .i64 5)))]) (.cond (.t 87) (.seq (.reg [] [zO 88 (.call 17 []),zO 8 (.mv (.t 88))]) .ret) .skip)) (.seq (.reg [] [zO 89 (.mv (.t 3)),zO 90 (.call 33 [(.t 89)]),zO 14 (.mv (.t 90))]) (.seq (.seq (.reg [] [zO 91 (.mv (.t 3)),zO 92 (.bin .lss (.t 91) (.c (.i .i64 0)))]) (.cond (.t 92) (.seq (.join [(8,0)] (.reg [] [zO 93 (.mv (.t 14)),zO 94 (.len (.t 93)),zO 95 (.bin .eql (.t 94) (.c (.i .i64 0))),zO 96 (.mv (.t 95)),⟨some 97,.call 17 [],some (96,true)⟩,zO 98 (.pick (.t 96) (.t 97) (.c (.b false))),zO 8 (.mv (.t 98))])) .ret) .skip)) (.seq (.join [(8,0)] (.reg [] [zO 99 (.mv (.t 14)),zO 100 (.len (.t 99)),zO 101 (.mv (.t 3)),zO 102 (.bin .eql (.t 100) (.t 101)),zO 103 (.mv (.t 102)),⟨some 104,.mv (.t 14),some (103,true)⟩,⟨some 105,.mv (.t 1),some (103,true)⟩,⟨some 106,.call 32 [(.t 104),(.t 105)],some (103,true)⟩,⟨some 107,.mv (.t 1),some (103,true)⟩,⟨some 108,.len (.t 107),some (103,true)⟩,⟨some 109,.mv (.t 3),some (103,true)⟩,⟨some 110,.bin .eql (.t 108) (.t 109),some (103,true)⟩,⟨some 111,.eqb false (.t 106) (.t 110),some (103,true)⟩,zO 112 (.pick (.t 103) (.t 111) (.c (.b false))),zO 113 (.mv (.t 112)),⟨some 114,.call 17 [],some (113,true)⟩,zO 115 (.pick (.t 113) (.t 114) (.c (.b false))),zO 8 (.mv (.t 115))])) .ret))))))))))))
def p5 : PF := ⟨[(.tmp 8,0)],[],c5⟩
def c6 : PC := (.seq (.reg [] [zO 9 (.box 9 9 (.t 4)),zO 10 (.mv (.c (.b false)))]) (.seq (.reg [] [zO 16 (.mv (.t 0)),zO 17 (.call 34 [(.t 16)]),zO 0 (.mv (.t 17))]) (.seq (.reg [] [zO 18 (.mv (.t 1)),zO 19 (.call 34 [(.t 18)]),zO 1 (.mv (.t 19))]) (.seq (.reg [] [zO 20 (.ld true 9 (.t 9)),zO 21 (.call 18 [(.t 20)]),⟨none,.st 9 (.t 9) (.t 21),none⟩]) (.seq (.reg [] [zO 22 (.mv (.t 2)),zO 23 (.call 29 [(.t 22),(.c (.i .i64 6))]),zO 2 (.mv (.t 23))]) (.seq (.reg [] [zO 25 (.mv (.t 0)),zO 26 (.mv (.t 1)),zO 27 (.call 35 [(.t 25),(.t 26)]),zO 24 (.mv (.t 27)),zO 28 (.ext 0 (.t 24)),zO 29 (.ext 1 (.t 24)),zO 11 (.mv (.t 28)),zO 12 (.mv (.t 29))]) (.seq (.reg [] [zO 31 (.mv (.t 0)),zO 32 (.mv (.t 3)),zO 33 (.ld true 9 (.t 9)),zO 34 (.call 36 [(.t 31),(.t 32),(.t 33)]),zO 30 (.mv (.t 34)),zO 35 (.ext 0 (.t 30)),zO 36 (.ext 1 (.t 30)),zO 13 (.mv (.t 35)),zO 14 (.mv (.t 36))]) (.seq (.seq (.reg [] [zO 37 (.mv (.t 0)),zO 38 (.len (.t 37)),zO 39 (.mv (.t 1)),zO 40 (.len (.t 39)),zO 41 (.bin .neq (.t 38) (.t 40))]) (.join [(0,0),(2,0),(3,0),(9,0),(10,0),(13,0),(14,0)] (.cond (.t 41) (.seq (.join [(0,0),(2,0),(3,0),(9,0),(13,0),(14,0),(48,0)] (.reg [] [zO 42 (.mv (.t 11)),zO 43 (.len (.t 42)),zO 44 (.bin .neq (.t 43) (.c (.i .i64 0))),zO 45 (.mv (.t 44)),⟨some 46,.mv (.t 12),some (45,false)⟩,⟨some 47,.bin .neq (.t 46) (.c (.i .i64 14)),some (45,false)⟩,zO 48 (.pick (.t 45) (.c (.b true)) (.t 47))])) (.cond (.t 48) (.seq (.reg [] [zO 10 (.mv (.c (.b false)))]) .ret) .skip)) (.seq (.join [(0,0),(2,0),(3,0),(9,0),(13,0),(14,0),(71,0)] (.reg [] [zO 49 (.mv (.t 12)),zO 50 (.bin .neq (.t 49) (.c (.i .i64 0))),zO 51 (.mv (.t 50)),⟨some 52,.mv (.t 11),some (51,false)⟩,⟨some 53,.len (.t 52),some (51,false)⟩,⟨some 54,.mv (.t 0),some (51,false)⟩,⟨some 55,.len (.t 54),some (51,false)⟩,⟨some 56,.bin .neq (.t 53) (.t 55),some (51,false)⟩,zO 57 (.pick (.t 51) (.c (.b true)) (.t 56)),zO 58 (.mv (.t 57)),⟨some 59,.mv (.t 11),some (58,false)⟩,⟨some 60,.mv (.t 2),some (58,false)⟩,⟨some 61,.call 32 [(.t 59),(.t 60)],some (58,false)⟩,⟨some 62,.mv (.t 0),some (58,false)⟩,⟨some 63,.mv (.t 2),some (58,false)⟩,⟨some 64,.call 32 [(.t 62),(.t 63)],some (58,false)⟩,⟨some 65,.mv (.t 64),some (58,false)⟩,⟨some 66,.mv (.t 1),some (65,true)⟩,⟨some 67,.mv (.t 2),some (65,true)⟩,⟨some 68,.call 32 [(.t 66),(.t 67)],some (65,true)⟩,⟨some 69,.pick (.t 65) (.t 68) (.c (.b false)),some (58,false)⟩,⟨some 70,.eqb true (.t 61) (.t 69),some (58,false)⟩,zO 71 (.pick (.t 58) (.c (.b true)) (.t 70))])) (.cond (.t 71) (.seq (.reg [] [zO 10 (.mv (.c (.b false)))]) .ret) .skip))))) (.seq (.seq (.join [(0,0),(2,0),(3,0),(9,0),(13,0),(14,0),(79,0)] (.reg [] [zO 72 (.mv (.t 3)),zO 73 (.bin .lss (.t 72) (.c (.i .i64 0))),zO 74 (.mv (.t 73)),⟨some 75,.mv (.t 3),some (74,false)⟩,⟨some 76,.mv (.t 0),some (74,false)⟩,⟨some 77,.len (.t 76),some (74,false)⟩,⟨some 78,.bin .geq (.t 75) (.t 77),some (74,false)⟩,zO 79 (.pick (.t 74) (.c (.b true)) (.t 78))])) (.cond (.t 79) (.seq (.join [(10,0)] (.reg [] [zO 80 (.mv (.t 13)),zO 81 (.len (.t 80)),zO 82 (.bin .eql (.t 81) (.c (.i .i64 0))),zO 83 (.mv (.t 82)),⟨some 84,.mv (.t 14),some (83,true)⟩,⟨some 85,.bin .eql (.t 84) (.c (.i .i64 8)),some (83,true)⟩,zO 86 (.pick (.t 83) (.t 85) (.c (.b false))),zO 87 (.mv (.t 86)),⟨some 88,.call 17 [],some (87,true)⟩,zO 89 (.pick (.t 87) (.t 88) (.c (.b false))),zO 10 (.mv (.t 89))])) .ret) .skip)) (.seq (.reg [] [zO 90 (.bsl 90 9 [.b false,.b false,.b false,.ns 1,.ns 1,.b false,.ns 1,.ns 1,.b false] 0 []),zO 91 (.mv (.t 0)),zO 92 (.app 92 9 128 (.t 90) (.t 91)),zO 15 (.mv (.t 92))]) (.seq (.reg [] [zO 93 (.mv (.t 15)),zO 94 (.mv (.t 3)),zO 95 (.ld true 9 (.t 9)),zO 96 (.idx 9 (.t 93) (.t 94)),⟨none,.st 9 (.t 96) (.t 95),none⟩]) (.seq (.join [(10,0)] (.reg [] [zO 97 (.mv (.t 14)),zO 98 (.bin .eql (.t 97) (.c (.i .i64 0))),zO 99 (.mv (.t 98)),⟨some 100,.mv (.t 13),some (99,true)⟩,⟨some 101,.len (.t 100),some (99,true)⟩,⟨some 102,.mv (.t 0),some (99,true)⟩,⟨some 103,.len (.t 102),some (99,true)⟩,⟨some 104,.bin .eql (.t 101) (.t 103),some (99,true)⟩,zO 105 (.pick (.t 99) (.t 104) (.c (.b false))),zO 106 (.mv (.t 105)),⟨some 107,.mv (.t 13),some (106,true)⟩,⟨some 108,.mv (.t 2),some (106,true)⟩,⟨some 109,.call 32 [(.t 107),(.t 108)],some (106,true)⟩,⟨some 110,.mv (.t 15),some (106,true)⟩,⟨some 111,.mv (.t 2),some (106,true)⟩,⟨some 112,.call 32 [(.t 110),(.t 111)],some (106,true)⟩,⟨some 113,.eqb false (.t 109) (.t 112),some (106,true)⟩,zO 114 (.pick (.t 106) (.t 113) (.c (.b false))),zO 115 (.mv (.t 114)),⟨some 116,.call 17 [],some (115,true)⟩,zO 117 (.pick (.t 115) (.t 116) (.c (.b false))),zO 10 (.mv (.t 117))])) .ret))))))))))))
def c14 : PC := (.seq (.reg [] [zO 2 (.box 2 3 (.t 0)),zO 3 (.box 3 3 (.t 1)),zO 4 (.mv (.c (.i .i64 0)))]) (.seq (.reg [] [zO 5 (.ld true 3 (.t 2)),zO 6 (.call 63 [(.t 5)]),zO 7 (.ld true 3 (.t 3)),zO 8 (.call 63 [(.t 7)]),⟨none,.st 3 (.t 2) (.t 6),none⟩,⟨none,.st 3 (.t 3) (.t 8),none⟩]) (.seq (.reg [] [zO 9 (.fld 0 (.t 2)),zO 10 (.ld true 2 (.t 9)),zO 11 (.ld true 3 (.t 3)),zO 12 (.call 66 [(.t 11)]),zO 13 (.call 65 [(.t 10),(.t 12)]),zO 14 (.fld 0 (.t 3)),zO 15 (.ld true 2 (.t 14)),zO 16 (.ld true 3 (.t 2)),zO 17 (.call 66 [(.t 16)]),zO 18 (.call 65 [(.t 15),(.t 17)]),zO 19 (.call 64 [(.t 13),(.t 18)]),zO 4 (.mv (.t 19))]) .ret)))
def p14 : PF := ⟨[(.tmp 4,0)],[],c14⟩
def b29_0 : PC := (.seq (.seq (.join [(5,1),(0,0),(1,0),(6,0),(16,0)] (.reg [] [zO 8 (.mv (.t 6)),zO 9 (.mv (.t 0)),zO 10 (.len (.t 9)),zO 11 (.bin .lss (.t 8) (.t 10)),zO 12 (.mv (.t 11)),⟨some 13,.mv (.t 6),some (12,true)⟩,⟨some 14,.mv (.t 1),some (12,true)⟩,⟨some 15,.bin .lss (.t 13) (.t 14),some (12,true)⟩,zO 16 (.pick (.t 12) (.t 15) (.c (.b false)))])) (.cond (.t 16) .skip (.exit 0))) (.seq (.block 1 (.seq (.reg [] [zO 19 (.mv (.t 0)),zO 20 (.mv (.t 6)),zO 21 (.idx 4 (.t 19) (.t 20)),zO 22 (.ld true 4 (.t 21)),zO 7 (.alloc 7 [.b false,.b false,.ns 1,.ns 1]),⟨none,.st 4 (.t 7) (.t 22),none⟩]) (.seq (.reg [] [zO 23 (.fld 1 (.t 7)),zO 24 (.ld true 3 (.t 23)),zO 25 (.call 74 [(.t 24)]),zO 26 (.fld 1 (.t 7)),⟨none,.st 3 (.t 26) (.t 25),none⟩]) (.reg [] [zO 27 (.mv (.t 5)),zO 28 (.ld true 4 (.t 7)),zO 29 (.bsl 29 4 [.b false,.b false,.ns 1,.ns 1] 1 [(0,(.t 28))]),zO 30 (.app 30 4 64 (.t 27) (.t 29)),zO 5 (.mv (.t 30))])))) (.reg [] [zO 17 (.mv (.t 6)),zO 18 (.bin .add (.t 17) (.c (.i .i64 1))),zO 6 (.mv (.t 18))])))
def c29 : PC := (.seq (.reg [] [zO 4 (.mv (.c (.ns 4)))]) (.seq (.reg [] [zO 5 (.mv (.c (.ns 4)))]) (.seq (.seq (.reg [] [zO 6 (.mv (.c (.i .i64 0)))]) (.block 0 (.loop [(5,1),(0,0),(1,0),(6,0)] [(5,0)] b29_0))) (.seq (.reg [] [zO 31 (.mv (.t 5)),zO 4 (.mv (.t 31))]) .ret))))
def p29 : PF := ⟨[(.tmp 4,0)],[],c29⟩
def c31 : PC := (.seq (.reg [] [zO 2 (.box 2 3 (.t 0)),zO 3 (.box 3 3 (.t 1)),zO 4 (.alloc 4 [.b false,.ns 1,.ns 1])]) (.seq (.reg [] [zO 5 (.ld true 3 (.t 2)),zO 6 (.call 63 [(.t 5)]),zO 7 (.ld true 3 (.t 3)),zO 8 (.call 63 [(.t 7)]),⟨none,.st 3 (.t 2) (.t 6),none⟩,⟨none,.st 3 (.t 3) (.t 8),none⟩]) (.seq (.reg [] [zO 9 (.fld 0 (.t 2)),zO 10 (.ld true 2 (.t 9)),zO 11 (.ld true 3 (.t 3)),zO 12 (.call 66 [(.t 11)]),zO 13 (.call 65 [(.t 10),(.t 12)]),zO 14 (.fld 0 (.t 3)),zO 15 (.ld true 2 (.t 14)),zO 16 (.ld true 3 (.t 2)),zO 17 (.call 66 [(.t 16)]),zO 18 (.call 65 [(.t 15),(.t 17)]),zO 19 (.call 76 [(.t 13),(.t 18)]),zO 20 (.fld 2 (.t 2)),zO 21 (.ld false 1 (.t 20)),zO 22 (.fld 2 (.t 3)),zO 23 (.ld false 1 (.t 22)),zO 24 (.call 77 [(.t 21),(.t 23)]),zO 25 (.call 75 [(.t 19),(.t 24)]),⟨none,.st 3 (.t 4) (.t 25),none⟩]) .ret)))
def p31 : PF := ⟨[(.cell 4 true 3,0)],[],c31⟩
def c38 : PC := (.seq (.reg [] [zO 1 (.box 1 2 (.t 0)),zO 2 (.alloc 2 [.b false,.ns 1])]) (.seq (.reg [] [zO 3 (.fld 0 (.t 1)),zO 4 (.ld false 1 (.t 3)),zO 5 (.fld 1 (.t 1)),zO 6 (.ld false 1 (.t 5)),zO 7 (.call 79 [(.t 6)]),zO 8 (.call 39 [(.t 4),(.t 7)]),⟨none,.st 2 (.t 2) (.t 8),none⟩]) .ret))
def p38 : PF := ⟨[(.cell 2 true 2,0)],[],c38⟩
def c39 : PC := (.seq (.reg [] [zO 4 (.alloc 4 [.b false,.ns 1])]) (.seq (.join [(4,0)] (.reg [] [zO 5 (.mv (.t 0)),zO 6 (.mv (.t 5)),⟨some 7,.mv (.t 1),some (6,true)⟩,⟨some 8,.len (.t 7),some (6,true)⟩,⟨some 9,.bin .gtr (.t 8) (.c (.i .i64 0)),some (6,true)⟩,zO 10 (.pick (.t 6) (.t 9) (.c (.b false))),zO 11 (.mv (.t 1)),zO 12 (.build [.b false,.ns 1] [(0,1,(.t 10)),(1,1,(.t 11))]),⟨none,.st 2 (.t 4) (.t 12),none⟩])) .ret))
def p39 : PF := ⟨[(.cell 4 true 2,0)],[],c39⟩
def b40_0 : PC := (.seq (.seq (.reg [] [zO 7 (.mv (.t 1)),zO 8 (.len (.t 7)),zO 9 (.bin .gtr (.t 8) (.c (.i .i64 0)))]) (.cond (.t 9) .skip (.exit 0))) (.block 1 (.seq (.reg [] [zO 11 (.mv (.t 0)),zO 12 (.mv (.t 1)),zO 13 (.call 80 [(.t 11),(.t 12)]),zO 10 (.mv (.t 13)),zO 14 (.ext 0 (.t 10)),zO 15 (.ext 1 (.t 10)),zO 5 (.mv (.t 14)),zO 6 (.mv (.t 15))]) (.seq (.reg [] [zO 16 (.mv (.t 1)),zO 0 (.mv (.t 16))]) (.reg [] [zO 17 (.mv (.t 6)),zO 1 (.mv (.t 17))])))))
def c40 : PC := (.seq (.reg [] [zO 4 (.mv (.c (.ns 1)))]) (.seq (.block 0 (.loop [(0,0),(1,0)] [(0,0)] b40_0)) (.seq (.reg [] [zO 18 (.mv (.t 0)),zO 4 (.mv (.t 18))]) .ret)))
def p40 : PF := ⟨[(.tmp 4,0)],[],c40⟩
def c43 : PC := (.seq (.reg [] [zO 2 (.box 2 2 (.t 0)),zO 3 (.box 3 2 (.t 1)),zO 4 (.alloc 4 [.b false,.ns 1])]) (.seq (.reg [] [zO 5 (.fld 0 (.t 2)),zO 6 (.ld false 1 (.t 5)),zO 7 (.fld 0 (.t 3)),zO 8 (.ld false 1 (.t 7)),zO 9 (.eqb true (.t 6) (.t 8)),zO 10 (.fld 1 (.t 2)),zO 11 (.ld false 1 (.t 10)),zO 12 (.fld 1 (.t 3)),zO 13 (.ld false 1 (.t 12)),zO 14 (.call 90 [(.t 11),(.t 13)]),zO 15 (.call 39 [(.t 9),(.t 14)]),⟨none,.st 2 (.t 4) (.t 15),none⟩]) .ret))
def p43 : PF := ⟨[(.cell 4 true 2,0)],[],c43⟩
def c47 : PC := (.seq (.reg [] [zO 2 (.box 2 2 (.t 0)),zO 3 (.box 3 2 (.t 1)),zO 4 (.mv (.c (.i .i64 0)))]) (.seq (.seq (.join [(2,0),(3,0),(11,0)] (.reg [] [zO 5 (.fld 0 (.t 2)),zO 6 (.ld false 1 (.t 5)),zO 7 (.mv (.t 6)),⟨some 8,.fld 0 (.t 3),some (7,true)⟩,⟨some 9,.ld false 1 (.t 8),some (7,true)⟩,⟨some 10,.not (.t 9),some (7,true)⟩,zO 11 (.pick (.t 7) (.t 10) (.c (.b false)))])) (.cond (.t 11) (.seq (.reg [] [zO 4 (.mv (.c (.i .i64 (-1))))]) .ret) .skip)) (.seq (.seq (.join [(2,0),(3,0),(18,0)] (.reg [] [zO 12 (.fld 0 (.t 2)),zO 13 (.ld false 1 (.t 12)),zO 14 (.not (.t 13)),zO 15 (.mv (.t 14)),⟨some 16,.fld 0 (.t 3),some (15,true)⟩,⟨some 17,.ld false 1 (.t 16),some (15,true)⟩,zO 18 (.pick (.t 15) (.t 17) (.c (.b false)))])) (.cond (.t 18) (.seq (.reg [] [zO 4 (.mv (.c (.i .i64 1)))]) .ret) .skip)) (.seq (.seq (.reg [] [zO 19 (.fld 0 (.t 2)),zO 20 (.ld false 1 (.t 19))]) (.cond (.t 20) (.seq (.reg [] [zO 21 (.fld 1 (.t 3)),zO 22 (.ld false 1 (.t 21)),zO 23 (.fld 1 (.t 2)),zO 24 (.ld false 1 (.t 23)),zO 25 (.call 88 [(.t 22),(.t 24)]),zO 4 (.mv (.t 25))]) .ret) .skip)) (.seq (.reg [] [zO 26 (.fld 1 (.t 2)),zO 27 (.ld false 1 (.t 26)),zO 28 (.fld 1 (.t 3)),zO 29 (.ld false 1 (.t 28)),zO 30 (.call 88 [(.t 27),(.t 29)]),zO 4 (.mv (.t 30))]) .ret)))))
def p47 : PF := ⟨[(.tmp 4,0)],[],c47⟩
def c54 : PC := (.seq (.reg [] [zO 0 (.alloc 0 [.b false,.ns 1,.ns 1])]) (.seq (.reg [] [zO 1 (.call 73 [(.c (.i .u64 1))]),zO 2 (.build [.b false,.ns 1,.ns 1] [(2,1,(.t 1))]),⟨none,.st 3 (.t 0) (.t 2),none⟩]) .ret))
def p54 : PF := ⟨[(.cell 0 true 3,0)],[],c54⟩
def c55 : PC := (.seq (.reg [] [zO 2 (.box 2 3 (.t 0)),zO 3 (.box 3 3 (.t 1)),zO 4 (.alloc 4 [.b false,.ns 1,.ns 1])]) (.seq (.reg [] [zO 5 (.ld true 3 (.t 2)),zO 6 (.ld true 3 (.t 3)),zO 7 (.call 96 [(.t 6)]),zO 8 (.call 31 [(.t 5),(.t 7)]),⟨none,.st 3 (.t 4) (.t 8),none⟩]) .ret))
def p55 : PF := ⟨[(.cell 4 true 3,0)],[],c55⟩
def c56 : PC := (.seq (.reg [] [zO 0 (.alloc 0 [.b false,.ns 1,.ns 1])]) (.seq (.reg [] [zO 1 (.call 68 [(.c (.i .i64 1))]),⟨none,.st 3 (.t 0) (.t 1),none⟩]) .ret))
def p56 : PF := ⟨[(.cell 0 true 3,0)],[],c56⟩
def c57 : PC := (.seq (.reg [] [zO 2 (.box 2 3 (.t 0)),zO 3 (.box 3 3 (.t 1)),zO 4 (.mv (.c (.b false)))]) (.seq (.reg [] [zO 5 (.ld true 3 (.t 2)),zO 6 (.ld true 3 (.t 3)),zO 7 (.call 14 [(.t 5),(.t 6)]),zO 8 (.bin .eql (.t 7) (.c (.i .i64 0))),zO 4 (.mv (.t 8))]) .ret))
def p57 : PF := ⟨[(.tmp 4,0)],[],c57⟩
def c63 : PC := (.seq (.reg [] [zO 1 (.box 1 3 (.t 0)),zO 2 (.alloc 2 [.b false,.ns 1,.ns 1])]) (.seq (.reg [] [zO 4 (.fld 2 (.t 1)),zO 5 (.ld false 1 (.t 4)),zO 6 (.call 106 [(.t 5)]),zO 3 (.mv (.t 6))]) (.seq (.seq (.reg [] [zO 7 (.mv (.t 3)),zO 8 (.len (.t 7)),zO 9 (.bin .eql (.t 8) (.c (.i .i64 0)))]) (.cond (.t 9) (.seq (.reg [] [zO 10 (.call 54 []),⟨none,.st 3 (.t 2) (.t 10),none⟩]) .ret) .skip)) (.seq (.reg [] [zO 11 (.fld 0 (.t 1)),zO 12 (.ld true 2 (.t 11)),zO 13 (.call 81 [(.t 12)]),zO 14 (.mv (.t 3)),zO 15 (.call 75 [(.t 13),(.t 14)]),⟨none,.st 3 (.t 2) (.t 15),none⟩]) .ret))))
def p63 : PF := ⟨[(.cell 2 true 3,0)],[],c63⟩
def c64 : PC := (.seq (.reg [] [zO 2 (.box 2 2 (.t 0)),zO 3 (.box 3 2 (.t 1)),zO 4 (.mv (.c (.i .i64 0)))]) (.seq (.reg [] [zO 5 (.ld true 2 (.t 2)),zO 6 (.call 81 [(.t 5)]),zO 7 (.ld true 2 (.t 3)),zO 8 (.call 81 [(.t 7)]),⟨none,.st 2 (.t 2) (.t 6),none⟩,⟨none,.st 2 (.t 3) (.t 8),none⟩]) (.seq (.block 0 (.seq (.join [(2,0),(3,0),(9,0)] (.reg [] [zO 10 (.fld 0 (.t 2)),zO 11 (.ld false 1 (.t 10)),zO 12 (.fld 0 (.t 3)),zO 13 (.ld false 1 (.t 12)),zO 14 (.eqb true (.t 11) (.t 13)),zO 15 (.mv (.t 14)),⟨some 16,.fld 0 (.t 2),some (15,true)⟩,⟨some 17,.ld false 1 (.t 16),some (15,true)⟩,zO 18 (.pick (.t 15) (.t 17) (.c (.b false))),zO 9 (.mv (.t 18))])) (.cond (.t 9) (.seq (.reg [] [zO 4 (.mv (.c (.i .i64 (-1))))]) .ret) (.seq (.reg [] [zO 20 (.fld 0 (.t 2)),zO 21 (.ld false 1 (.t 20)),zO 22 (.fld 0 (.t 3)),zO 23 (.ld false 1 (.t 22)),zO 24 (.eqb true (.t 21) (.t 23)),zO 19 (.mv (.t 24))]) (.cond (.t 19) (.seq (.reg [] [zO 4 (.mv (.c (.i .i64 1)))]) .ret) (.seq (.reg [] [zO 26 (.fld 0 (.t 2)),zO 27 (.ld false 1 (.t 26)),zO 25 (.mv (.t 27))]) (.cond (.t 25) (.seq (.reg [] [zO 28 (.fld 1 (.t 3)),zO 29 (.ld false 1 (.t 28)),zO 30 (.fld 1 (.t 2)),zO 31 (.ld false 1 (.t 30)),zO 32 (.call 72 [(.t 29),(.t 31)]),zO 4 (.mv (.t 32))]) .ret) .skip))))))) (.seq (.reg [] [zO 33 (.fld 1 (.t 2)),zO 34 (.ld false 1 (.t 33)),zO 35 (.fld 1 (.t 3)),zO 36 (.ld false 1 (.t 35)),zO 37 (.call 72 [(.t 34),(.t 36)]),zO 4 (.mv (.t 37))]) .ret))))
def p64 : PF := ⟨[(.tmp 4,0)],[],c64⟩
def c65 : PC := (.seq (.reg [] [zO 2 (.box 2 2 (.t 0)),zO 3 (.box 3 2 (.t 1)),zO 4 (.alloc 4 [.b false,.ns 1])]) (.seq (.reg [] [zO 5 (.ld true 2 (.t 2)),zO 6 (.call 81 [(.t 5)]),zO 7 (.ld true 2 (.t 3)),zO 8 (.call 81 [(.t 7)]),⟨none,.st 2 (.t 2) (.t 6),none⟩,⟨none,.st 2 (.t 3) (.t 8),none⟩]) (.seq (.reg [] [zO 9 (.fld 0 (.t 2)),zO 10 (.ld false 1 (.t 9)),zO 11 (.fld 0 (.t 3)),zO 12 (.ld false 1 (.t 11)),zO 13 (.eqb true (.t 10) (.t 12)),zO 14 (.fld 1 (.t 2)),zO 15 (.ld false 1 (.t 14)),zO 16 (.fld 1 (.t 3)),zO 17 (.ld false 1 (.t 16)),zO 18 (.call 77 [(.t 15),(.t 17)]),zO 19 (.call 92 [(.t 13),(.t 18)]),⟨none,.st 2 (.t 4) (.t 19),none⟩]) .ret)))
def p65 : PF := ⟨[(.cell 4 true 2,0)],[],c65⟩
def c66 : PC := (.seq (.reg [] [zO 1 (.box 1 3 (.t 0)),zO 2 (.alloc 2 [.b false,.ns 1])]) (.seq (.reg [] [zO 3 (.fld 2 (.t 1)),zO 4 (.ld false 1 (.t 3)),zO 5 (.build [.b false,.ns 1] [(1,1,(.t 4))]),⟨none,.st 2 (.t 2) (.t 5),none⟩]) .ret))
def p66 : PF := ⟨[(.cell 2 true 2,0)],[],c66⟩
def c68 : PC := (.seq (.reg [] [zO 2 (.alloc 2 [.b false,.ns 1,.ns 1])]) (.seq (.reg [] [zO 3 (.mv (.t 0)),zO 4 (.call 82 [(.t 3)]),zO 5 (.call 73 [(.c (.i .u64 1))]),zO 6 (.build [.b false,.ns 1,.ns 1] [(0,2,(.t 4)),(2,1,(.t 5))]),⟨none,.st 3 (.t 2) (.t 6),none⟩]) .ret))
def p68 : PF := ⟨[(.cell 2 true 3,0)],[],c68⟩
def b71_0 : PC := (.block 2 (.seq (.seq (.reg [] [zO 43 (.mv (.t 0)),zO 44 (.mv (.t 1)),zO 45 (.call 110 [(.t 43),(.t 44)]),zO 7 (.mv (.t 45))]) (.block 3 (.seq (.reg [] [zO 47 (.mv (.t 7)),zO 48 (.bin .eql (.t 47) (.c (.i .i64 0))),zO 46 (.mv (.t 48))]) (.cond (.t 46) (.seq (.reg [] [zO 49 (.mv (.t 0)),zO 50 (.mv (.t 5)),zO 51 (.mv (.t 6)),zO 52 (.min (.t 50) (.t 51)),zO 53 (.callo 111 [(.t 49),(.t 52)] 53),zO 4 (.mv (.t 53))]) .ret) (.seq (.reg [] [zO 55 (.mv (.t 7)),zO 56 (.bin .lss (.t 55) (.c (.i .i64 0))),zO 54 (.mv (.t 56))]) (.join [(0,0),(1,0),(5,0),(6,0)] (.cond (.t 54) (.reg [] [zO 57 (.mv (.t 1)),zO 58 (.mv (.t 0)),zO 0 (.mv (.t 57)),zO 1 (.mv (.t 58))]) .skip))))))) (.seq (.seq (.reg [] [zO 59 (.mv (.t 0)),zO 60 (.len (.t 59)),zO 61 (.mv (.t 1)),zO 62 (.len (.t 61)),zO 63 (.bin .add (.t 62) (.c (.i .i64 1))),zO 64 (.bin .gtr (.t 60) (.t 63))]) (.join [(0,0),(1,0),(4,0),(5,0),(6,0)] (.cond (.t 64) (.seq (.reg [] [zO 66 (.mv (.t 0)),zO 67 (.mv (.t 1)),zO 68 (.call 112 [(.t 66),(.t 67)]),zO 65 (.mv (.t 68)),zO 69 (.ext 0 (.t 65)),zO 70 (.ext 1 (.t 65)),zO 0 (.mv (.t 70))]) (.seq (.reg [] [zO 71 (.mv (.t 0)),zO 72 (.len (.t 71)),zO 73 (.bin .eql (.t 72) (.c (.i .i64 0)))]) (.cond (.t 73) (.seq (.reg [] [zO 74 (.mv (.t 1)),zO 75 (.mv (.t 5)),zO 76 (.mv (.t 6)),zO 77 (.min (.t 75) (.t 76)),zO 78 (.callo 111 [(.t 74),(.t 77)] 78),zO 4 (.mv (.t 78))]) .ret) .skip))) (.reg [] [zO 79 (.mv (.t 0)),zO 80 (.mv (.t 1)),zO 81 (.call 113 [(.t 79),(.t 80)]),zO 0 (.mv (.t 81))])))) (.reg [] [zO 82 (.mv (.t 0)),zO 83 (.mv (.t 0)),zO 84 (.call 108 [(.t 83)]),zO 85 (.call 109 [(.t 82),(.t 84)]),zO 0 (.mv (.t 85))]))))
def c71 : PC := (.seq (.reg [] [zO 4 (.mv (.c (.ns 1)))]) (.seq (.reg [] [zO 8 (.mv (.t 0)),zO 9 (.call 106 [(.t 8)]),zO 10 (.mv (.t 1)),zO 11 (.call 106 [(.t 10)]),zO 0 (.mv (.t 9)),zO 1 (.mv (.t 11))]) (.seq (.block 0 (.seq (.reg [] [zO 13 (.mv (.t 0)),zO 14 (.len (.t 13)),zO 15 (.bin .eql (.t 14) (.c (.i .i64 0))),zO 12 (.mv (.t 15))]) (.cond (.t 12) (.seq (.reg [] [zO 16 (.mv (.t 1)),zO 4 (.mv (.t 16))]) .ret) (.seq (.reg [] [zO 18 (.mv (.t 1)),zO 19 (.len (.t 18)),zO 20 (.bin .eql (.t 19) (.c (.i .i64 0))),zO 17 (.mv (.t 20))]) (.cond (.t 17) (.seq (.reg [] [zO 21 (.mv (.t 0)),zO 4 (.mv (.t 21))]) .ret) .skip))))) (.seq (.seq (.join [(0,0),(1,0),(29,0)] (.reg [] [zO 22 (.mv (.t 0)),zO 23 (.len (.t 22)),zO 24 (.bin .leq (.t 23) (.c (.i .i64 2))),zO 25 (.mv (.t 24)),⟨some 26,.mv (.t 1),some (25,true)⟩,⟨some 27,.len (.t 26),some (25,true)⟩,⟨some 28,.bin .leq (.t 27) (.c (.i .i64 2)),some (25,true)⟩,zO 29 (.pick (.t 25) (.t 28) (.c (.b false)))])) (.cond (.t 29) (.seq (.reg [] [zO 30 (.mv (.t 0)),zO 31 (.mv (.t 1)),zO 32 (.call 107 [(.t 30),(.t 31)]),zO 4 (.mv (.t 32))]) .ret) .skip)) (.seq (.reg [] [zO 33 (.mv (.t 0)),zO 34 (.call 108 [(.t 33)]),zO 35 (.mv (.t 1)),zO 36 (.call 108 [(.t 35)]),zO 5 (.mv (.t 34)),zO 6 (.mv (.t 36))]) (.seq (.reg [] [zO 37 (.mv (.t 0)),zO 38 (.mv (.t 5)),zO 39 (.call 109 [(.t 37),(.t 38)]),zO 40 (.mv (.t 1)),zO 41 (.mv (.t 6)),zO 42 (.call 109 [(.t 40),(.t 41)]),zO 0 (.mv (.t 39)),zO 1 (.mv (.t 42))]) (.block 1 (.loop [(0,0),(1,0),(5,0),(6,0)] [(4,0)] b71_0))))))))
def p71 : PF := ⟨[(.tmp 4,0)],[],c71⟩
def c72 : PC := (.seq (.reg [] [zO 4 (.mv (.c (.i .i64 0)))]) (.seq (.reg [] [zO 5 (.mv (.t 0)),zO 6 (.call 106 [(.t 5)]),zO 7 (.mv (.t 1)),zO 8 (.call 106 [(.t 7)]),zO 9 (.call 110 [(.t 6),(.t 8)]),zO 4 (.mv (.t 9))]) .ret))
def p72 : PF := ⟨[(.tmp 4,0)],[],c72⟩
def c73 : PC := (.seq (.reg [] [zO 2 (.mv (.c (.ns 1)))]) (.seq (.reg [] [zO 3 (.mv (.t 0)),zO 4 (.bin .and (.t 3) (.c (.i .u64 4294967295))),zO 5 (.mv (.t 0)),zO 6 (.bin .shr (.t 5) (.c (.i .u64 32))),zO 7 (.bsl 7 1 [.i .u64 0] 2 [(0,(.t 4)),(1,(.t 6))]),zO 8 (.call 114 [(.t 7)]),zO 2 (.mv (.t 8))]) .ret))
def p73 : PF := ⟨[(.tmp 2,0)],[],c73⟩
def c74 : PC := (.seq (.reg [] [zO 1 (.box 1 3 (.t 0)),zO 2 (.alloc 2 [.b false,.ns 1,.ns 1])]) (.seq (.seq (.reg [] [zO 3 (.fld 0 (.t 1)),zO 4 (.fld 1 (.t 3)),zO 5 (.ld false 1 (.t 4)),zO 6 (.len (.t 5)),zO 7 (.bin .gtr (.t 6) (.c (.i .i64 3)))]) (.join [(1,1),(2,1)] (.cond (.t 7) (.reg [] [zO 8 (.fld 0 (.t 1)),zO 9 (.fld 1 (.t 8)),zO 10 (.ld false 1 (.t 9)),zO 11 (.cut 1 (.t 10) none (some (.c (.i .i64 3))) none),zO 12 (.fld 0 (.t 1)),zO 13 (.fld 1 (.t 12)),⟨none,.st 1 (.t 13) (.t 11),none⟩]) .skip))) (.seq (.seq (.reg [] [zO 14 (.fld 2 (.t 1)),zO 15 (.ld false 1 (.t 14)),zO 16 (.len (.t 15)),zO 17 (.bin .gtr (.t 16) (.c (.i .i64 3)))]) (.join [(2,1),(1,0)] (.cond (.t 17) (.reg [] [zO 18 (.fld 2 (.t 1)),zO 19 (.ld false 1 (.t 18)),zO 20 (.cut 1 (.t 19) none (some (.c (.i .i64 3))) none),zO 21 (.fld 2 (.t 1)),⟨none,.st 1 (.t 21) (.t 20),none⟩]) .skip))) (.seq (.reg [] [zO 22 (.ld true 3 (.t 1)),⟨none,.st 3 (.t 2) (.t 22),none⟩]) .ret))))
def p74 : PF := ⟨[(.cell 2 true 3,0)],[],c74⟩
def c75 : PC := (.seq (.reg [] [zO 2 (.box 2 2 (.t 0)),zO 4 (.alloc 4 [.b false,.ns 1,.ns 1])]) (.seq (.seq (.reg [] [zO 12 (.fld 1 (.t 2)),zO 13 (.ld false 1 (.t 12)),zO 14 (.len (.t 13)),zO 15 (.bin .eql (.t 14) (.c (.i .i64 0)))]) (.cond (.t 15) (.seq (.reg [] [zO 16 (.call 73 [(.c (.i .u64 1))]),zO 17 (.build [.b false,.ns 1,.ns 1] [(2,1,(.t 16))]),⟨none,.st 3 (.t 4) (.t 17),none⟩]) .ret) .skip)) (.seq (.reg [] [zO 18 (.fld 1 (.t 2)),zO 19 (.ld false 1 (.t 18)),zO 20 (.mv (.t 1)),zO 21 (.call 71 [(.t 19),(.t 20)]),zO 5 (.mv (.t 21))]) (.seq (.seq (.join [(4,1),(1,0),(2,0),(5,0),(30,0)] (.reg [] [zO 22 (.mv (.t 5)),zO 23 (.len (.t 22)),zO 24 (.bin .eql (.t 23) (.c (.i .i64 1))),zO 25 (.mv (.t 24)),⟨some 26,.mv (.t 5),some (25,true)⟩,⟨some 27,.idx 1 (.t 26) (.c (.i .i64 0)),some (25,true)⟩,⟨some 28,.ld false 1 (.t 27),some (25,true)⟩,⟨some 29,.bin .eql (.t 28) (.c (.i .u64 1)),some (25,true)⟩,zO 30 (.pick (.t 25) (.t 29) (.c (.b false)))])) (.cond (.t 30) (.seq (.reg [] [zO 31 (.ld true 2 (.t 2)),zO 32 (.mv (.t 1)),zO 33 (.build [.b false,.ns 1,.ns 1] [(0,2,(.t 31)),(2,1,(.t 32))]),⟨none,.st 3 (.t 4) (.t 33),none⟩]) .ret) .skip)) (.seq (.reg [] [zO 35 (.fld 1 (.t 2)),zO 36 (.ld false 1 (.t 35)),zO 37 (.mv (.t 5)),zO 38 (.call 115 [(.t 36),(.t 37)]),zO 34 (.mv (.t 38)),zO 39 (.ext 0 (.t 34)),zO 40 (.ext 1 (.t 34)),zO 41 (.ext 2 (.t 34)),zO 6 (.mv (.t 39)),zO 7 (.mv (.t 40)),zO 8 (.mv (.t 41))]) (.seq (.reg [] [zO 43 (.mv (.t 1)),zO 44 (.mv (.t 5)),zO 45 (.call 115 [(.t 43),(.t 44)]),zO 42 (.mv (.t 45)),zO 46 (.ext 0 (.t 42)),zO 47 (.ext 1 (.t 42)),zO 48 (.ext 2 (.t 42)),zO 9 (.mv (.t 46)),zO 10 (.mv (.t 47)),zO 11 (.mv (.t 48))]) (.seq (.reg [] [zO 49 (.fld 0 (.t 2)),zO 50 (.ld false 1 (.t 49)),zO 51 (.mv (.t 6)),zO 52 (.build [.b false,.ns 1] [(0,1,(.t 50)),(1,1,(.t 51))]),zO 53 (.mv (.t 9)),zO 54 (.build [.b false,.ns 1,.ns 1] [(0,2,(.t 52)),(2,1,(.t 53))]),⟨none,.st 3 (.t 4) (.t 54),none⟩]) .ret)))))))
def p75 : PF := ⟨[(.cell 4 true 3,0)],[],c75⟩
def c76 : PC := (.seq (.reg [] [zO 2 (.box 2 2 (.t 0)),zO 3 (.box 3 2 (.t 1)),zO 4 (.alloc 4 [.b false,.ns 1])]) (.seq (.reg [] [zO 7 (.ld true 2 (.t 2)),zO 8 (.call 81 [(.t 7)]),zO 9 (.ld true 2 (.t 3)),zO 10 (.call 81 [(.t 9)]),⟨none,.st 2 (.t 2) (.t 8),none⟩,⟨none,.st 2 (.t 3) (.t 10),none⟩]) (.seq (.seq (.reg [] [zO 11 (.fld 0 (.t 2)),zO 12 (.ld false 1 (.t 11)),zO 13 (.fld 0 (.t 3)),zO 14 (.ld false 1 (.t 13)),zO 15 (.eqb false (.t 12) (.t 14))]) (.cond (.t 15) (.seq (.reg [] [zO 16 (.fld 0 (.t 2)),zO 17 (.ld false 1 (.t 16)),zO 18 (.fld 1 (.t 2)),zO 19 (.ld false 1 (.t 18)),zO 20 (.fld 1 (.t 3)),zO 21 (.ld false 1 (.t 20)),zO 22 (.call 116 [(.t 19),(.t 21)]),zO 23 (.call 92 [(.t 17),(.t 22)]),⟨none,.st 2 (.t 4) (.t 23),none⟩]) .ret) .skip)) (.seq (.seq (.reg [] [zO 24 (.fld 1 (.t 2)),zO 25 (.ld false 1 (.t 24)),zO 26 (.fld 1 (.t 3)),zO 27 (.ld false 1 (.t 26)),zO 28 (.call 72 [(.t 25),(.t 27)]),zO 29 (.bin .lss (.t 28) (.c (.i .i64 0)))]) (.join [(4,1),(2,0),(3,0)] (.cond (.t 29) (.reg [] [zO 30 (.ld true 2 (.t 3)),zO 31 (.ld true 2 (.t 2)),⟨none,.st 2 (.t 2) (.t 30),none⟩,⟨none,.st 2 (.t 3) (.t 31),none⟩]) .skip))) (.seq (.reg [] [zO 33 (.fld 1 (.t 2)),zO 34 (.ld false 1 (.t 33)),zO 35 (.fld 1 (.t 3)),zO 36 (.ld false 1 (.t 35)),zO 37 (.call 117 [(.t 34),(.t 36)]),zO 32 (.mv (.t 37)),zO 38 (.ext 0 (.t 32)),zO 39 (.ext 1 (.t 32)),zO 5 (.mv (.t 38)),zO 6 (.mv (.t 39))]) (.seq (.reg [] [zO 40 (.fld 0 (.t 2)),zO 41 (.ld false 1 (.t 40)),zO 42 (.mv (.t 5)),zO 43 (.call 92 [(.t 41),(.t 42)]),⟨none,.st 2 (.t 4) (.t 43),none⟩]) .ret))))))
def p76 : PF := ⟨[(.cell 4 true 2,0)],[],c76⟩
def b77_1 : PC := (.seq (.reg [] [zO 31 (.bin .lss (.t 30) (.t 29))]) (.seq (.cond (.t 31) .skip (.exit 2)) (.seq (.block 3 (.seq (.reg [] [zO 32 (.mv (.t 30)),zO 33 (.idx 1 (.t 28) (.t 30)),zO 34 (.ld false 1 (.t 33)),zO 9 (.mv (.t 32)),zO 10 (.mv (.t 34))]) (.seq (.reg [] [zO 35 (.mv (.t 8)),zO 36 (.mv (.t 5)),zO 37 (.mv (.t 6)),zO 38 (.mv (.t 9)),zO 39 (.bin .add (.t 37) (.t 38)),zO 40 (.idx 1 (.t 36) (.t 39)),zO 41 (.ld false 1 (.t 40)),zO 42 (.mv (.t 7)),zO 43 (.mv (.t 10)),zO 44 (.bin .mul (.t 42) (.t 43)),zO 45 (.bin .add (.t 41) (.t 44)),zO 46 (.bin .add (.t 35) (.t 45)),zO 8 (.mv (.t 46))]) (.seq (.reg [] [zO 47 (.mv (.t 5)),zO 48 (.mv (.t 6)),zO 49 (.mv (.t 9)),zO 50 (.bin .add (.t 48) (.t 49)),zO 51 (.mv (.t 8)),zO 52 (.bin .and (.t 51) (.c (.i .u64 4294967295))),zO 53 (.idx 1 (.t 47) (.t 50)),⟨none,.st 1 (.t 53) (.t 52),none⟩]) (.reg [] [zO 54 (.mv (.t 8)),zO 55 (.bin .shr (.t 54) (.c (.i .u64 32))),zO 8 (.mv (.t 55))]))))) (.reg [] [zO 56 (.bin .add (.t 30) (.c (.i .i64 1))),zO 30 (.mv (.t 56))]))))
def b77_0 : PC := (.seq (.reg [] [zO 24 (.bin .lss (.t 23) (.t 22))]) (.seq (.cond (.t 24) .skip (.exit 0)) (.seq (.block 1 (.seq (.reg [] [zO 25 (.mv (.t 23)),zO 26 (.idx 1 (.t 21) (.t 23)),zO 27 (.ld false 1 (.t 26)),zO 6 (.mv (.t 25)),zO 7 (.mv (.t 27))]) (.seq (.reg [] [zO 8 (.mv (.c (.i .u64 0)))]) (.seq (.seq (.reg [] [zO 28 (.mv (.t 1)),zO 29 (.len (.t 28)),zO 30 (.mv (.c (.i .i64 0)))]) (.block 2 (.loop [(5,1),(1,0),(6,0),(7,0),(8,0),(21,0),(22,0),(23,0),(28,0),(29,0),(30,0)] [(5,1),(1,0),(6,0),(8,0),(21,0),(22,0),(23,0)] b77_1))) (.reg [] [zO 57 (.mv (.t 5)),zO 58 (.mv (.t 6)),zO 59 (.mv (.t 1)),zO 60 (.len (.t 59)),zO 61 (.bin .add (.t 58) (.t 60)),zO 62 (.mv (.t 8)),zO 63 (.idx 1 (.t 57) (.t 61)),⟨none,.st 1 (.t 63) (.t 62),none⟩]))))) (.reg [] [zO 64 (.bin .add (.t 23) (.c (.i .i64 1))),zO 23 (.mv (.t 64))]))))
def c77 : PC := (.seq (.reg [] [zO 4 (.mv (.c (.ns 1)))]) (.seq (.reg [] [zO 11 (.mv (.t 0)),zO 12 (.call 106 [(.t 11)]),zO 13 (.mv (.t 1)),zO 14 (.call 106 [(.t 13)]),zO 0 (.mv (.t 12)),zO 1 (.mv (.t 14))]) (.seq (.reg [] [zO 15 (.mv (.t 0)),zO 16 (.len (.t 15)),zO 17 (.mv (.t 1)),zO 18 (.len (.t 17)),zO 19 (.bin .add (.t 16) (.t 18)),zO 20 (.mk 20 1 8 [.i .u64 0] (.t 19)),zO 5 (.mv (.t 20))]) (.seq (.seq (.reg [] [zO 21 (.mv (.t 0)),zO 22 (.len (.t 21)),zO 23 (.mv (.c (.i .i64 0)))]) (.block 0 (.loop [(5,1),(1,0),(21,0),(22,0),(23,0)] [(5,0)] b77_0))) (.seq (.reg [] [zO 65 (.mv (.t 5)),zO 66 (.call 114 [(.t 65)]),zO 4 (.mv (.t 66))]) .ret)))))
def p77 : PF := ⟨[(.tmp 4,0)],[],c77⟩
def b79_0 : PC := (.seq (.seq (.reg [] [zO 10 (.mv (.t 5)),zO 11 (.bin .geq (.t 10) (.c (.i .i64 0)))]) (.cond (.t 11) .skip (.exit 0))) (.seq (.block 1 (.reg [] [zO 14 (.mv (.t 3)),zO 15 (.mv (.t 4)),zO 16 (.call 90 [(.t 14),(.t 15)]),zO 17 (.mv (.t 0)),zO 18 (.mv (.t 5)),zO 19 (.idx 1 (.t 17) (.t 18)),zO 20 (.ld false 1 (.t 19)),zO 21 (.bin .and (.t 20) (.c (.i .u64 4294967295))),zO 22 (.conv .i64 (.t 21)),zO 23 (.call 118 [(.t 22)]),zO 24 (.call 87 [(.t 16),(.t 23)]),zO 3 (.mv (.t 24))])) (.reg [] [zO 12 (.mv (.t 5)),zO 13 (.bin .sub (.t 12) (.c (.i .i64 1))),zO 5 (.mv (.t 13))])))
def c79 : PC := (.seq (.reg [] [zO 2 (.mv (.c (.ns 1)))]) (.seq (.reg [] [zO 3 (.mv (.c (.ns 1)))]) (.seq (.reg [] [zO 6 (.call 118 [(.c (.i .i64 4294967296))]),zO 4 (.mv (.t 6))]) (.seq (.seq (.reg [] [zO 7 (.mv (.t 0)),zO 8 (.len (.t 7)),zO 9 (.bin .sub (.t 8) (.c (.i .i64 1))),zO 5 (.mv (.t 9))]) (.block 0 (.loop [(0,0),(3,0),(4,0),(5,0)] [(3,0)] b79_0))) (.seq (.reg [] [zO 25 (.mv (.t 3)),zO 2 (.mv (.t 25))]) .ret)))))
def p79 : PF := ⟨[(.tmp 2,0)],[],c79⟩
def b80_1 : PC := (.seq (.seq (.reg [] [zO 35 (.mv (.t 11)),zO 36 (.mv (.t 10)),zO 37 (.bin .sub (.t 35) (.t 36)),zO 38 (.bin .gtr (.t 37) (.c (.i .i64 1)))]) (.cond (.t 38) .skip (.exit 2))) (.block 3 (.seq (.reg [] [zO 39 (.mv (.t 10)),zO 40 (.mv (.t 11)),zO 41 (.bin .add (.t 39) (.t 40)),zO 42 (.bin .quo (.t 41) (.c (.i .i64 2))),zO 12 (.mv (.t 42))]) (.seq (.reg [] [zO 43 (.mv (.t 1)),zO 44 (.mv (.t 12)),zO 45 (.call 118 [(.t 44)]),zO 46 (.call 90 [(.t 43),(.t 45)]),zO 47 (.mv (.t 7)),zO 48 (.call 88 [(.t 46),(.t 47)]),zO 49 (.bin .leq (.t 48) (.c (.i .i64 0)))]) (.join [(6,1),(0,0),(1,0),(7,0),(8,0),(10,0),(11,0)] (.cond (.t 49) (.reg [] [zO 50 (.mv (.t 12)),zO 10 (.mv (.t 50))]) (.reg [] [zO 51 (.mv (.t 12)),zO 11 (.mv (.t 51))])))))))
def b80_0 : PC := (.seq (.seq (.reg [] [zO 19 (.mv (.t 8)),zO 20 (.bin .geq (.t 19) (.c (.i .i64 0)))]) (.cond (.t 20) .skip (.exit 0))) (.seq (.block 1 (.seq (.reg [] [zO 9 (.mv (.c (.ns 1)))]) (.seq (.reg [] [zO 23 (.mv (.t 9)),zO 24 (.mv (.t 0)),zO 25 (.mv (.t 8)),zO 26 (.idx 1 (.t 24) (.t 25)),zO 27 (.ld false 1 (.t 26)),zO 28 (.bsl 28 1 [.i .i64 0] 1 [(0,(.t 27))]),zO 29 (.app 29 1 8 (.t 23) (.t 28)),zO 9 (.mv (.t 29))]) (.seq (.reg [] [zO 30 (.mv (.t 9)),zO 31 (.mv (.t 7)),zO 32 (.app 32 1 8 (.t 30) (.t 31)),zO 9 (.mv (.t 32))]) (.seq (.reg [] [zO 33 (.mv (.t 9)),zO 34 (.call 119 [(.t 33)]),zO 7 (.mv (.t 34))]) (.seq (.reg [] [zO 10 (.mv (.c (.i .i64 0)))]) (.seq (.reg [] [zO 11 (.mv (.c (.i .i64 10000)))]) (.seq (.block 2 (.loop [(6,1),(0,0),(1,0),(7,0),(8,0),(10,0),(11,0)] [(6,1),(0,0),(1,0),(7,0),(8,0),(10,0)] b80_1)) (.seq (.reg [] [zO 52 (.mv (.t 6)),zO 53 (.mv (.t 8)),zO 54 (.mv (.t 10)),zO 55 (.idx 1 (.t 52) (.t 53)),⟨none,.st 1 (.t 55) (.t 54),none⟩]) (.reg [] [zO 56 (.mv (.t 7)),zO 57 (.mv (.t 1)),zO 58 (.mv (.t 10)),zO 59 (.call 118 [(.t 58)]),zO 60 (.call 90 [(.t 57),(.t 59)]),zO 61 (.call 89 [(.t 56),(.t 60)]),zO 7 (.mv (.t 61))])))))))))) (.reg [] [zO 21 (.mv (.t 8)),zO 22 (.bin .sub (.t 21) (.c (.i .i64 1))),zO 8 (.mv (.t 22))])))
def c80 : PC := (.seq (.reg [] [zO 4 (.mv (.c (.ns 1))),zO 5 (.mv (.c (.ns 1)))]) (.seq (.reg [] [zO 13 (.mv (.t 0)),zO 14 (.len (.t 13)),zO 15 (.mk 15 1 8 [.i .i64 0] (.t 14)),zO 6 (.mv (.t 15))]) (.seq (.reg [] [zO 7 (.mv (.c (.ns 1)))]) (.seq (.seq (.reg [] [zO 16 (.mv (.t 0)),zO 17 (.len (.t 16)),zO 18 (.bin .sub (.t 17) (.c (.i .i64 1))),zO 8 (.mv (.t 18))]) (.block 0 (.loop [(6,1),(0,0),(1,0),(7,0),(8,0)] [(6,0),(7,0)] b80_0))) (.seq (.reg [] [zO 62 (.mv (.t 6)),zO 63 (.call 119 [(.t 62)]),zO 64 (.mv (.t 7)),zO 4 (.mv (.t 63)),zO 5 (.mv (.t 64))]) .ret)))))
def p80 : PF := ⟨[(.tmp 4,0),(.tmp 5,0)],[],c80⟩
def c81 : PC := (.seq (.reg [] [zO 1 (.box 1 2 (.t 0)),zO 2 (.alloc 2 [.b false,.ns 1])]) (.seq (.reg [] [zO 3 (.fld 0 (.t 1)),zO 4 (.ld false 1 (.t 3)),zO 5 (.fld 1 (.t 1)),zO 6 (.ld false 1 (.t 5)),zO 7 (.call 106 [(.t 6)]),zO 8 (.call 92 [(.t 4),(.t 7)]),⟨none,.st 2 (.t 2) (.t 8),none⟩]) .ret))
def p81 : PF := ⟨[(.cell 2 true 2,0)],[],c81⟩
def c82 : PC := (.seq (.reg [] [zO 2 (.alloc 2 [.b false,.ns 1])]) (.seq (.seq (.reg [] [zO 3 (.mv (.t 0)),zO 4 (.bin .lss (.t 3) (.c (.i .i64 0)))]) (.cond (.t 4) (.seq (.reg [] [zO 5 (.mv (.t 0)),zO 6 (.conv .u64 (.t 5)),zO 7 (.neg (.t 6)),zO 8 (.call 73 [(.t 7)]),zO 9 (.call 92 [(.c (.b true)),(.t 8)]),⟨none,.st 2 (.t 2) (.t 9),none⟩]) .ret) .skip)) (.seq (.reg [] [zO 10 (.mv (.t 0)),zO 11 (.conv .u64 (.t 10)),zO 12 (.call 73 [(.t 11)]),zO 13 (.call 92 [(.c (.b false)),(.t 12)]),⟨none,.st 2 (.t 2) (.t 13),none⟩]) .ret)))
def p82 : PF := ⟨[(.cell 2 true 2,0)],[],c82⟩
def c83 : PC := (.seq (.reg [] [zO 1 (.box 1 2 (.t 0)),zO 2 (.mv (.c (.i .i64 0)))]) (.seq (.reg [] [zO 3 (.ld true 2 (.t 1)),zO 4 (.call 81 [(.t 3)]),⟨none,.st 2 (.t 1) (.t 4),none⟩]) (.seq (.block 0 (.seq (.reg [] [zO 6 (.fld 0 (.t 1)),zO 7 (.ld false 1 (.t 6)),zO 5 (.mv (.t 7))]) (.cond (.t 5) (.seq (.reg [] [zO 2 (.mv (.c (.i .i64 (-1))))]) .ret) (.seq (.reg [] [zO 9 (.fld 1 (.t 1)),zO 10 (.ld false 1 (.t 9)),zO 11 (.len (.t 10)),zO 12 (.bin .eql (.t 11) (.c (.i .i64 0))),zO 8 (.mv (.t 12))]) (.cond (.t 8) (.seq (.reg [] [zO 2 (.mv (.c (.i .i64 0)))]) .ret) .skip))))) (.seq (.reg [] [zO 2 (.mv (.c (.i .i64 1)))]) .ret))))
def p83 : PF := ⟨[(.tmp 2,0)],[],c83⟩
def c86 : PC := (.seq (.reg [] [zO 1 (.box 1 2 (.t 0)),zO 2 (.alloc 2 [.b false,.ns 1])]) (.seq (.reg [] [zO 3 (.ld true 2 (.t 1)),zO 4 (.call 81 [(.t 3)]),⟨none,.st 2 (.t 1) (.t 4),none⟩]) (.seq (.reg [] [zO 5 (.fld 0 (.t 1)),zO 6 (.ld false 1 (.t 5)),zO 7 (.not (.t 6)),zO 8 (.fld 1 (.t 1)),zO 9 (.ld false 1 (.t 8)),zO 10 (.call 92 [(.t 7),(.t 9)]),⟨none,.st 2 (.t 2) (.t 10),none⟩]) .ret)))
def p86 : PF := ⟨[(.cell 2 true 2,0)],[],c86⟩
def b87_0 : PC := (.seq (.seq (.join [(5,1),(0,0),(1,0),(6,0),(7,0),(21,0)] (.reg [] [zO 8 (.mv (.t 7)),zO 9 (.mv (.t 0)),zO 10 (.len (.t 9)),zO 11 (.bin .lss (.t 8) (.t 10)),zO 12 (.mv (.t 11)),⟨some 13,.mv (.t 7),some (12,false)⟩,⟨some 14,.mv (.t 1),some (12,false)⟩,⟨some 15,.len (.t 14),some (12,false)⟩,⟨some 16,.bin .lss (.t 13) (.t 15),some (12,false)⟩,zO 17 (.pick (.t 12) (.c (.b true)) (.t 16)),zO 18 (.mv (.t 17)),⟨some 19,.mv (.t 6),some (18,false)⟩,⟨some 20,.bin .gtr (.t 19) (.c (.i .i64 0)),some (18,false)⟩,zO 21 (.pick (.t 18) (.c (.b true)) (.t 20))])) (.cond (.t 21) .skip (.exit 0))) (.seq (.block 1 (.seq (.reg [] [zO 24 (.mv (.t 6)),zO 25 (.mv (.t 0)),zO 26 (.mv (.t 7)),zO 27 (.call 120 [(.t 25),(.t 26)]),zO 28 (.bin .add (.t 24) (.t 27)),zO 29 (.mv (.t 1)),zO 30 (.mv (.t 7)),zO 31 (.call 120 [(.t 29),(.t 30)]),zO 32 (.bin .add (.t 28) (.t 31)),zO 6 (.mv (.t 32))]) (.seq (.reg [] [zO 33 (.mv (.t 5)),zO 34 (.mv (.t 6)),zO 35 (.bin .rem (.t 34) (.c (.i .i64 10000))),zO 36 (.bsl 36 1 [.i .i64 0] 1 [(0,(.t 35))]),zO 37 (.app 37 1 8 (.t 33) (.t 36)),zO 5 (.mv (.t 37))]) (.reg [] [zO 38 (.mv (.t 6)),zO 39 (.bin .quo (.t 38) (.c (.i .i64 10000))),zO 6 (.mv (.t 39))])))) (.reg [] [zO 22 (.mv (.t 7)),zO 23 (.bin .add (.t 22) (.c (.i .i64 1))),zO 7 (.mv (.t 23))])))
def c87 : PC := (.seq (.reg [] [zO 4 (.mv (.c (.ns 1)))]) (.seq (.reg [] [zO 5 (.mv (.c (.ns 1)))]) (.seq (.reg [] [zO 6 (.mv (.c (.i .i64 0)))]) (.seq (.seq (.reg [] [zO 7 (.mv (.c (.i .i64 0)))]) (.block 0 (.loop [(5,1),(0,0),(1,0),(6,0),(7,0)] [(5,0)] b87_0))) (.seq (.reg [] [zO 40 (.mv (.t 5)),zO 4 (.mv (.t 40))]) .ret)))))
def p87 : PF := ⟨[(.tmp 4,0)],[],c87⟩
def b88_0 : PC := (.seq (.seq (.reg [] [zO 19 (.mv (.t 5)),zO 20 (.bin .geq (.t 19) (.c (.i .i64 0)))]) (.cond (.t 20) .skip (.exit 0))) (.seq (.block 1 (.seq (.seq (.reg [] [zO 23 (.mv (.t 0)),zO 24 (.mv (.t 5)),zO 25 (.idx 1 (.t 23) (.t 24)),zO 26 (.ld false 1 (.t 25)),zO 27 (.mv (.t 1)),zO 28 (.mv (.t 5)),zO 29 (.idx 1 (.t 27) (.t 28)),zO 30 (.ld false 1 (.t 29)),zO 31 (.bin .lss (.t 26) (.t 30))]) (.cond (.t 31) (.seq (.reg [] [zO 4 (.mv (.c (.i .i64 (-1))))]) .ret) .skip)) (.seq (.reg [] [zO 32 (.mv (.t 0)),zO 33 (.mv (.t 5)),zO 34 (.idx 1 (.t 32) (.t 33)),zO 35 (.ld false 1 (.t 34)),zO 36 (.mv (.t 1)),zO 37 (.mv (.t 5)),zO 38 (.idx 1 (.t 36) (.t 37)),zO 39 (.ld false 1 (.t 38)),zO 40 (.bin .gtr (.t 35) (.t 39))]) (.cond (.t 40) (.seq (.reg [] [zO 4 (.mv (.c (.i .i64 1)))]) .ret) .skip)))) (.reg [] [zO 21 (.mv (.t 5)),zO 22 (.bin .sub (.t 21) (.c (.i .i64 1))),zO 5 (.mv (.t 22))])))
def c88 : PC := (.seq (.reg [] [zO 4 (.mv (.c (.i .i64 0)))]) (.seq (.seq (.reg [] [zO 6 (.mv (.t 0)),zO 7 (.len (.t 6)),zO 8 (.mv (.t 1)),zO 9 (.len (.t 8)),zO 10 (.bin .neq (.t 7) (.t 9))]) (.cond (.t 10) (.seq (.seq (.reg [] [zO 11 (.mv (.t 0)),zO 12 (.len (.t 11)),zO 13 (.mv (.t 1)),zO 14 (.len (.t 13)),zO 15 (.bin .lss (.t 12) (.t 14))]) (.cond (.t 15) (.seq (.reg [] [zO 4 (.mv (.c (.i .i64 (-1))))]) .ret) .skip)) (.seq (.reg [] [zO 4 (.mv (.c (.i .i64 1)))]) .ret)) .skip)) (.seq (.seq (.reg [] [zO 16 (.mv (.t 0)),zO 17 (.len (.t 16)),zO 18 (.bin .sub (.t 17) (.c (.i .i64 1))),zO 5 (.mv (.t 18))]) (.block 0 (.loop [(0,0),(1,0),(5,0)] [(4,0)] b88_0))) (.seq (.reg [] [zO 4 (.mv (.c (.i .i64 0)))]) .ret))))
def p88 : PF := ⟨[(.tmp 4,0)],[],c88⟩
def b89_0 : PC := (.seq (.seq (.reg [] [zO 9 (.mv (.t 7)),zO 10 (.mv (.t 0)),zO 11 (.len (.t 10)),zO 12 (.bin .lss (.t 9) (.t 11))]) (.cond (.t 12) .skip (.exit 0))) (.seq (.block 1 (.seq (.reg [] [zO 15 (.mv (.t 0)),zO 16 (.mv (.t 7)),zO 17 (.idx 1 (.t 15) (.t 16)),zO 18 (.ld false 1 (.t 17)),zO 19 (.mv (.t 1)),zO 20 (.mv (.t 7)),zO 21 (.call 120 [(.t 19),(.t 20)]),zO 22 (.bin .sub (.t 18) (.t 21)),zO 23 (.mv (.t 6)),zO 24 (.bin .sub (.t 22) (.t 23)),zO 8 (.mv (.t 24))]) (.seq (.reg [] [zO 6 (.mv (.c (.i .i64 0)))]) (.seq (.seq (.reg [] [zO 25 (.mv (.t 8)),zO 26 (.bin .lss (.t 25) (.c (.i .i64 0)))]) (.join [(5,1),(0,0),(1,0),(6,0),(7,0),(8,0)] (.cond (.t 26) (.seq (.reg [] [zO 27 (.mv (.t 8)),zO 28 (.bin .add (.t 27) (.c (.i .i64 10000))),zO 8 (.mv (.t 28))]) (.reg [] [zO 6 (.mv (.c (.i .i64 1)))])) .skip))) (.reg [] [zO 29 (.mv (.t 5)),zO 30 (.mv (.t 8)),zO 31 (.bsl 31 1 [.i .i64 0] 1 [(0,(.t 30))]),zO 32 (.app 32 1 8 (.t 29) (.t 31)),zO 5 (.mv (.t 32))]))))) (.reg [] [zO 13 (.mv (.t 7)),zO 14 (.bin .add (.t 13) (.c (.i .i64 1))),zO 7 (.mv (.t 14))])))
def c89 : PC := (.seq (.reg [] [zO 4 (.mv (.c (.ns 1)))]) (.seq (.reg [] [zO 5 (.mv (.c (.ns 1)))]) (.seq (.reg [] [zO 6 (.mv (.c (.i .i64 0)))]) (.seq (.seq (.reg [] [zO 7 (.mv (.c (.i .i64 0)))]) (.block 0 (.loop [(5,1),(0,0),(1,0),(6,0),(7,0)] [(5,0)] b89_0))) (.seq (.reg [] [zO 33 (.mv (.t 5)),zO 34 (.call 119 [(.t 33)]),zO 4 (.mv (.t 34))]) .ret)))))
def p89 : PF := ⟨[(.tmp 4,0)],[],c89⟩
def b90_1 : PC := (.seq (.seq (.reg [] [zO 21 (.mv (.t 8)),zO 22 (.mv (.t 1)),zO 23 (.len (.t 22)),zO 24 (.bin .lss (.t 21) (.t 23))]) (.cond (.t 24) .skip (.exit 2))) (.seq (.block 3 (.seq (.reg [] [zO 27 (.mv (.t 7)),zO 28 (.mv (.t 5)),zO 29 (.mv (.t 6)),zO 30 (.mv (.t 8)),zO 31 (.bin .add (.t 29) (.t 30)),zO 32 (.idx 1 (.t 28) (.t 31)),zO 33 (.ld false 1 (.t 32)),zO 34 (.bin .add (.t 27) (.t 33)),zO 35 (.mv (.t 0)),zO 36 (.mv (.t 6)),zO 37 (.idx 1 (.t 35) (.t 36)),zO 38 (.ld false 1 (.t 37)),zO 39 (.mv (.t 1)),zO 40 (.mv (.t 8)),zO 41 (.idx 1 (.t 39) (.t 40)),zO 42 (.ld false 1 (.t 41)),zO 43 (.bin .mul (.t 38) (.t 42)),zO 44 (.bin .add (.t 34) (.t 43)),zO 7 (.mv (.t 44))]) (.seq (.reg [] [zO 45 (.mv (.t 5)),zO 46 (.mv (.t 6)),zO 47 (.mv (.t 8)),zO 48 (.bin .add (.t 46) (.t 47)),zO 49 (.mv (.t 7)),zO 50 (.bin .rem (.t 49) (.c (.i .i64 10000))),zO 51 (.idx 1 (.t 45) (.t 48)),⟨none,.st 1 (.t 51) (.t 50),none⟩]) (.reg [] [zO 52 (.mv (.t 7)),zO 53 (.bin .quo (.t 52) (.c (.i .i64 10000))),zO 7 (.mv (.t 53))])))) (.reg [] [zO 25 (.mv (.t 8)),zO 26 (.bin .add (.t 25) (.c (.i .i64 1))),zO 8 (.mv (.t 26))])))
def b90_0 : PC := (.seq (.seq (.reg [] [zO 15 (.mv (.t 6)),zO 16 (.mv (.t 0)),zO 17 (.len (.t 16)),zO 18 (.bin .lss (.t 15) (.t 17))]) (.cond (.t 18) .skip (.exit 0))) (.seq (.block 1 (.seq (.reg [] [zO 7 (.mv (.c (.i .i64 0)))]) (.seq (.seq (.reg [] [zO 8 (.mv (.c (.i .i64 0)))]) (.block 2 (.loop [(5,1),(0,0),(1,0),(6,0),(7,0),(8,0)] [(5,1),(0,0),(1,0),(6,0),(7,0)] b90_1))) (.reg [] [zO 54 (.mv (.t 5)),zO 55 (.mv (.t 6)),zO 56 (.mv (.t 1)),zO 57 (.len (.t 56)),zO 58 (.bin .add (.t 55) (.t 57)),zO 59 (.mv (.t 7)),zO 60 (.idx 1 (.t 54) (.t 58)),⟨none,.st 1 (.t 60) (.t 59),none⟩])))) (.reg [] [zO 19 (.mv (.t 6)),zO 20 (.bin .add (.t 19) (.c (.i .i64 1))),zO 6 (.mv (.t 20))])))
def c90 : PC := (.seq (.reg [] [zO 4 (.mv (.c (.ns 1)))]) (.seq (.reg [] [zO 9 (.mv (.t 0)),zO 10 (.len (.t 9)),zO 11 (.mv (.t 1)),zO 12 (.len (.t 11)),zO 13 (.bin .add (.t 10) (.t 12)),zO 14 (.mk 14 1 8 [.i .i64 0] (.t 13)),zO 5 (.mv (.t 14))]) (.seq (.seq (.reg [] [zO 6 (.mv (.c (.i .i64 0)))]) (.block 0 (.loop [(5,1),(0,0),(1,0),(6,0)] [(5,0)] b90_0))) (.seq (.reg [] [zO 61 (.mv (.t 5)),zO 62 (.call 119 [(.t 61)]),zO 4 (.mv (.t 62))]) .ret))))
def p90 : PF := ⟨[(.tmp 4,0)],[],c90⟩
def b91_0 : PC := (.seq (.seq (.reg [] [zO 4 (.mv (.t 3)),zO 5 (.mv (.t 0)),zO 6 (.len (.t 5)),zO 7 (.bin .lss (.t 4) (.t 6))]) (.cond (.t 7) .skip (.exit 0))) (.seq (.block 1 (.seq (.reg [] [zO 10 (.mv (.t 0)),zO 11 (.mv (.t 3)),zO 12 (.idx 1 (.t 10) (.t 11)),zO 13 (.ld false 1 (.t 12)),zO 14 (.bin .gtr (.t 13) (.c (.i .u64 4294967295)))]) (.cond (.t 14) (.seq (.reg [] [zO 2 (.mv (.c (.b false)))]) .ret) .skip))) (.reg [] [zO 8 (.mv (.t 3)),zO 9 (.bin .add (.t 8) (.c (.i .i64 1))),zO 3 (.mv (.t 9))])))
def c91 : PC := (.seq (.reg [] [zO 2 (.mv (.c (.b false)))]) (.seq (.seq (.reg [] [zO 3 (.mv (.c (.i .i64 0)))]) (.block 0 (.loop [(0,0),(3,0)] [(0,0),(2,0)] b91_0))) (.seq (.join [(2,0)] (.reg [] [zO 15 (.mv (.t 0)),zO 16 (.len (.t 15)),zO 17 (.bin .eql (.t 16) (.c (.i .i64 0))),zO 18 (.mv (.t 17)),⟨some 19,.mv (.t 0),some (18,false)⟩,⟨some 20,.mv (.t 0),some (18,false)⟩,⟨some 21,.len (.t 20),some (18,false)⟩,⟨some 22,.bin .sub (.t 21) (.c (.i .i64 1)),some (18,false)⟩,⟨some 23,.idx 1 (.t 19) (.t 22),some (18,false)⟩,⟨some 24,.ld false 1 (.t 23),some (18,false)⟩,⟨some 25,.bin .neq (.t 24) (.c (.i .u64 0)),some (18,false)⟩,zO 26 (.pick (.t 18) (.c (.b true)) (.t 25)),zO 2 (.mv (.t 26))])) .ret)))
def p91 : PF := ⟨[(.tmp 2,0)],[],c91⟩
def c92 : PC := (.seq (.reg [] [zO 4 (.alloc 4 [.b false,.ns 1])]) (.seq (.join [(4,0)] (.reg [] [zO 5 (.mv (.t 0)),zO 6 (.mv (.t 5)),⟨some 7,.mv (.t 1),some (6,true)⟩,⟨some 8,.len (.t 7),some (6,true)⟩,⟨some 9,.bin .gtr (.t 8) (.c (.i .i64 0)),some (6,true)⟩,zO 10 (.pick (.t 6) (.t 9) (.c (.b false))),zO 11 (.mv (.t 1)),zO 12 (.build [.b false,.ns 1] [(0,1,(.t 10)),(1,1,(.t 11))]),⟨none,.st 2 (.t 4) (.t 12),none⟩])) .ret))
def p92 : PF := ⟨[(.cell 4 true 2,0)],[],c92⟩
def c94 : PC := (.seq (.reg [] [zO 2 (.box 2 3 (.t 0)),zO 3 (.box 3 3 (.t 1)),zO 4 (.alloc 4 [.b false,.ns 1,.ns 1])]) (.seq (.reg [] [zO 5 (.ld true 3 (.t 2)),zO 6 (.call 63 [(.t 5)]),zO 7 (.ld true 3 (.t 3)),zO 8 (.call 63 [(.t 7)]),⟨none,.st 3 (.t 2) (.t 6),none⟩,⟨none,.st 3 (.t 3) (.t 8),none⟩]) (.seq (.reg [] [zO 9 (.fld 0 (.t 2)),zO 10 (.ld true 2 (.t 9)),zO 11 (.fld 0 (.t 3)),zO 12 (.ld true 2 (.t 11)),zO 13 (.call 65 [(.t 10),(.t 12)]),zO 14 (.fld 2 (.t 2)),zO 15 (.ld false 1 (.t 14)),zO 16 (.fld 2 (.t 3)),zO 17 (.ld false 1 (.t 16)),zO 18 (.call 77 [(.t 15),(.t 17)]),zO 19 (.call 75 [(.t 13),(.t 18)]),⟨none,.st 3 (.t 4) (.t 19),none⟩]) .ret)))
def p94 : PF := ⟨[(.cell 4 true 3,0)],[],c94⟩
def c95 : PC := (.seq (.reg [] [zO 4 (.alloc 4 [.b false,.ns 1,.ns 1])]) (.seq (.reg [] [zO 8 (.mv (.t 0)),zO 9 (.call 82 [(.t 8)]),zO 10 (.mv (.t 1)),zO 11 (.call 82 [(.t 10)]),zO 12 (.call 122 [(.t 9),(.t 11)]),zO 7 (.mv (.t 12)),zO 13 (.ext 0 (.t 7)),zO 14 (.ext 1 (.t 7)),zO 5 (.alloc 5 [.b false,.ns 1,.ns 1]),⟨none,.st 3 (.t 5) (.t 13),none⟩,zO 6 (.mv (.t 14))]) (.seq (.reg [] [zO 15 (.ld true 3 (.t 5)),zO 16 (.call 63 [(.t 15)]),⟨none,.st 3 (.t 4) (.t 16),none⟩]) .ret)))
def p95 : PF := ⟨[(.cell 4 true 3,0)],[],c95⟩
def c96 : PC := (.seq (.reg [] [zO 1 (.box 1 3 (.t 0)),zO 2 (.alloc 2 [.b false,.ns 1,.ns 1])]) (.seq (.reg [] [zO 3 (.ld true 3 (.t 1)),zO 4 (.call 63 [(.t 3)]),⟨none,.st 3 (.t 1) (.t 4),none⟩]) (.seq (.reg [] [zO 5 (.fld 0 (.t 1)),zO 6 (.ld true 2 (.t 5)),zO 7 (.call 86 [(.t 6)]),zO 8 (.fld 0 (.t 1)),⟨none,.st 2 (.t 8) (.t 7),none⟩]) (.seq (.reg [] [zO 9 (.ld true 3 (.t 1)),⟨none,.st 3 (.t 2) (.t 9),none⟩]) .ret))))
def p96 : PF := ⟨[(.cell 2 true 3,0)],[],c96⟩
def b97_0 : PC := (.seq (.seq (.join [(7,1),(0,0),(1,0),(2,0),(8,0),(17,0)] (.reg [] [zO 9 (.mv (.t 8)),zO 10 (.mv (.t 0)),zO 11 (.len (.t 10)),zO 12 (.bin .lss (.t 9) (.t 11)),zO 13 (.mv (.t 12)),⟨some 14,.mv (.t 8),some (13,true)⟩,⟨some 15,.mv (.t 1),some (13,true)⟩,⟨some 16,.bin .lss (.t 14) (.t 15),some (13,true)⟩,zO 17 (.pick (.t 13) (.t 16) (.c (.b false)))])) (.cond (.t 17) .skip (.exit 0))) (.seq (.block 1 (.reg [] [zO 20 (.mv (.t 7)),zO 21 (.mv (.t 0)),zO 22 (.mv (.t 8)),zO 23 (.idx 1 (.t 21) (.t 22)),zO 24 (.ld false 1 (.t 23)),zO 25 (.mv (.t 2)),zO 26 (.call 29 [(.t 24),(.t 25)]),zO 27 (.bsl 27 1 [.ns 4] 1 [(0,(.t 26))]),zO 28 (.app 28 1 24 (.t 20) (.t 27)),zO 7 (.mv (.t 28))])) (.reg [] [zO 18 (.mv (.t 8)),zO 19 (.bin .add (.t 18) (.c (.i .i64 1))),zO 8 (.mv (.t 19))])))
def c97 : PC := (.seq (.reg [] [zO 6 (.mv (.c (.ns 1)))]) (.seq (.reg [] [zO 7 (.mv (.c (.ns 1)))]) (.seq (.seq (.reg [] [zO 8 (.mv (.c (.i .i64 0)))]) (.block 0 (.loop [(7,1),(0,0),(1,0),(2,0),(8,0)] [(7,0)] b97_0))) (.seq (.reg [] [zO 29 (.mv (.t 7)),zO 6 (.mv (.t 29))]) .ret))))
def p97 : PF := ⟨[(.tmp 6,0)],[],c97⟩
def b106_0 : PC := (.seq (.reg [] [zO 12 (.bin .lss (.t 11) (.t 10))]) (.seq (.cond (.t 12) .skip (.exit 0)) (.seq (.block 1 (.seq (.reg [] [zO 13 (.mv (.t 11)),zO 14 (.idx 1 (.t 9) (.t 11)),zO 15 (.ld false 1 (.t 14)),zO 4 (.mv (.t 13)),zO 5 (.mv (.t 15))]) (.reg [] [zO 16 (.mv (.t 3)),zO 17 (.mv (.t 4)),zO 18 (.mv (.t 5)),zO 19 (.bin .and (.t 18) (.c (.i .u64 4294967295))),zO 20 (.idx 1 (.t 16) (.t 17)),⟨none,.st 1 (.t 20) (.t 19),none⟩]))) (.reg [] [zO 21 (.bin .add (.t 11) (.c (.i .i64 1))),zO 11 (.mv (.t 21))]))))
def c106 : PC := (.seq (.reg [] [zO 2 (.mv (.c (.ns 1)))]) (.seq (.reg [] [zO 6 (.mv (.t 0)),zO 7 (.len (.t 6)),zO 8 (.mk 8 1 8 [.i .u64 0] (.t 7)),zO 3 (.mv (.t 8))]) (.seq (.seq (.reg [] [zO 9 (.mv (.t 0)),zO 10 (.len (.t 9)),zO 11 (.mv (.c (.i .i64 0)))]) (.block 0 (.loop [(3,1),(9,0),(10,0),(11,0)] [(3,0)] b106_0))) (.seq (.reg [] [zO 22 (.mv (.t 3)),zO 23 (.call 114 [(.t 22)]),zO 2 (.mv (.t 23))]) .ret))))
def p106 : PF := ⟨[(.tmp 2,0)],[],c106⟩
def b107_0 : PC := (.seq (.seq (.reg [] [zO 19 (.mv (.t 7)),zO 20 (.bin .neq (.t 19) (.c (.i .u64 0)))]) (.cond (.t 20) .skip (.exit 0))) (.block 1 (.reg [] [zO 21 (.mv (.t 7)),zO 22 (.mv (.t 5)),zO 23 (.mv (.t 7)),zO 24 (.bin .rem (.t 22) (.t 23)),zO 5 (.mv (.t 21)),zO 7 (.mv (.t 24))])))
def c107 : PC := (.seq (.reg [] [zO 4 (.mv (.c (.ns 1)))]) (.seq (.reg [] [zO 10 (.mv (.t 0)),zO 11 (.call 127 [(.t 10)]),zO 9 (.mv (.t 11)),zO 12 (.ext 0 (.t 9)),zO 13 (.ext 1 (.t 9)),zO 5 (.mv (.t 12)),zO 6 (.mv (.t 13))]) (.seq (.reg [] [zO 15 (.mv (.t 1)),zO 16 (.call 127 [(.t 15)]),zO 14 (.mv (.t 16)),zO 17 (.ext 0 (.t 14)),zO 18 (.ext 1 (.t 14)),zO 7 (.mv (.t 17)),zO 8 (.mv (.t 18))]) (.seq (.block 0 (.loop [(5,0),(7,0)] [(5,0)] b107_0)) (.seq (.reg [] [zO 25 (.mv (.t 5)),zO 26 (.call 73 [(.t 25)]),zO 4 (.mv (.t 26))]) .ret)))))
def p107 : PF := ⟨[(.tmp 4,0)],[],c107⟩
def b108_0 : PC := (.seq (.reg [] [zO 9 (.bin .lss (.t 8) (.t 7))]) (.seq (.cond (.t 9) .skip (.exit 0)) (.seq (.block 1 (.seq (.reg [] [zO 10 (.mv (.t 8)),zO 11 (.idx 1 (.t 6) (.t 8)),zO 12 (.ld false 1 (.t 11)),zO 4 (.mv (.t 10)),zO 5 (.mv (.t 12))]) (.seq (.seq (.reg [] [zO 13 (.mv (.t 5)),zO 14 (.bin .neq (.t 13) (.c (.i .u64 0)))]) (.cond (.t 14) (.seq (.reg [] [zO 15 (.mv (.t 4)),zO 16 (.bin .mul (.c (.i .i64 32)) (.t 15)),zO 17 (.mv (.t 5)),zO 18 (.call 128 [(.t 17)]),zO 19 (.bin .add (.t 16) (.t 18)),zO 2 (.mv (.t 19))]) .ret) .skip)) (.reg [] [zO 20 (.mv (.t 3)),zO 21 (.bin .add (.t 20) (.c (.i .i64 32))),zO 3 (.mv (.t 21))])))) (.reg [] [zO 22 (.bin .add (.t 8) (.c (.i .i64 1))),zO 8 (.mv (.t 22))]))))
def c108 : PC := (.seq (.reg [] [zO 2 (.mv (.c (.i .i64 0)))]) (.seq (.reg [] [zO 3 (.mv (.c (.i .i64 0)))]) (.seq (.seq (.reg [] [zO 6 (.mv (.t 0)),zO 7 (.len (.t 6)),zO 8 (.mv (.c (.i .i64 0)))]) (.block 0 (.loop [(3,0),(6,0),(7,0),(8,0)] [(2,0),(3,0)] b108_0))) (.seq (.reg [] [zO 23 (.mv (.t 3)),zO 2 (.mv (.t 23))]) .ret))))
def p108 : PF := ⟨[(.tmp 2,0)],[],c108⟩
def b109_0 : PC := (.seq (.reg [] [zO 25 (.bin .lss (.t 24) (.t 23))]) (.seq (.cond (.t 25) .skip (.exit 0)) (.seq (.block 1 (.seq (.reg [] [zO 26 (.mv (.t 24)),zO 8 (.mv (.t 26))]) (.reg [] [zO 27 (.mv (.t 7)),zO 28 (.mv (.t 8)),zO 29 (.mv (.t 0)),zO 30 (.mv (.t 8)),zO 31 (.mv (.t 5)),zO 32 (.bin .add (.t 30) (.t 31)),zO 33 (.bin .add (.t 32) (.c (.i .i64 1))),zO 34 (.call 129 [(.t 29),(.t 33)]),zO 35 (.bin .shl (.t 34) (.c (.i .u64 32))),zO 36 (.mv (.t 0)),zO 37 (.mv (.t 8)),zO 38 (.mv (.t 5)),zO 39 (.bin .add (.t 37) (.t 38)),zO 40 (.idx 1 (.t 36) (.t 39)),zO 41 (.ld false 1 (.t 40)),zO 42 (.bin .or (.t 35) (.t 41)),zO 43 (.mv (.t 6)),zO 44 (.bin .shr (.t 42) (.t 43)),zO 45 (.bin .and (.t 44) (.c (.i .u64 4294967295))),zO 46 (.idx 1 (.t 27) (.t 28)),⟨none,.st 1 (.t 46) (.t 45),none⟩]))) (.reg [] [zO 47 (.bin .add (.t 24) (.c (.i .i64 1))),zO 24 (.mv (.t 47))]))))
def c109 : PC := (.seq (.reg [] [zO 4 (.mv (.c (.ns 1)))]) (.seq (.reg [] [zO 9 (.mv (.t 1)),zO 10 (.bin .quo (.t 9) (.c (.i .i64 32))),zO 11 (.mv (.t 1)),zO 12 (.bin .rem (.t 11) (.c (.i .i64 32))),zO 5 (.mv (.t 10)),zO 6 (.mv (.t 12))]) (.seq (.seq (.reg [] [zO 13 (.mv (.t 5)),zO 14 (.mv (.t 0)),zO 15 (.len (.t 14)),zO 16 (.bin .geq (.t 13) (.t 15))]) (.cond (.t 16) (.seq (.reg [] [zO 4 (.mv (.c (.ns 1)))]) .ret) .skip)) (.seq (.reg [] [zO 17 (.mv (.t 0)),zO 18 (.len (.t 17)),zO 19 (.mv (.t 5)),zO 20 (.bin .sub (.t 18) (.t 19)),zO 21 (.mk 21 1 8 [.i .u64 0] (.t 20)),zO 7 (.mv (.t 21))]) (.seq (.seq (.reg [] [zO 22 (.mv (.t 7)),zO 23 (.len (.t 22)),zO 24 (.mv (.c (.i .i64 0)))]) (.block 0 (.loop [(7,1),(0,0),(5,0),(6,0),(23,0),(24,0)] [(7,0)] b109_0))) (.seq (.reg [] [zO 48 (.mv (.t 7)),zO 49 (.call 114 [(.t 48)]),zO 4 (.mv (.t 49))]) .ret))))))
def p109 : PF := ⟨[(.tmp 4,0)],[],c109⟩
def b110_0 : PC := (.seq (.seq (.reg [] [zO 21 (.mv (.t 5)),zO 22 (.bin .geq (.t 21) (.c (.i .i64 0)))]) (.cond (.t 22) .skip (.exit 1))) (.seq (.block 2 (.block 3 (.seq (.reg [] [zO 26 (.mv (.t 0)),zO 27 (.mv (.t 5)),zO 28 (.idx 1 (.t 26) (.t 27)),zO 29 (.ld false 1 (.t 28)),zO 30 (.mv (.t 1)),zO 31 (.mv (.t 5)),zO 32 (.idx 1 (.t 30) (.t 31)),zO 33 (.ld false 1 (.t 32)),zO 34 (.bin .lss (.t 29) (.t 33)),zO 25 (.mv (.t 34))]) (.cond (.t 25) (.seq (.reg [] [zO 4 (.mv (.c (.i .i64 (-1))))]) .ret) (.seq (.reg [] [zO 36 (.mv (.t 0)),zO 37 (.mv (.t 5)),zO 38 (.idx 1 (.t 36) (.t 37)),zO 39 (.ld false 1 (.t 38)),zO 40 (.mv (.t 1)),zO 41 (.mv (.t 5)),zO 42 (.idx 1 (.t 40) (.t 41)),zO 43 (.ld false 1 (.t 42)),zO 44 (.bin .gtr (.t 39) (.t 43)),zO 35 (.mv (.t 44))]) (.cond (.t 35) (.seq (.reg [] [zO 4 (.mv (.c (.i .i64 1)))]) .ret) .skip)))))) (.reg [] [zO 23 (.mv (.t 5)),zO 24 (.bin .sub (.t 23) (.c (.i .i64 1))),zO 5 (.mv (.t 24))])))
def c110 : PC := (.seq (.reg [] [zO 4 (.mv (.c (.i .i64 0)))]) (.seq (.block 0 (.seq (.reg [] [zO 7 (.mv (.t 0)),zO 8 (.len (.t 7)),zO 9 (.mv (.t 1)),zO 10 (.len (.t 9)),zO 11 (.bin .lss (.t 8) (.t 10)),zO 6 (.mv (.t 11))]) (.cond (.t 6) (.seq (.reg [] [zO 4 (.mv (.c (.i .i64 (-1))))]) .ret) (.seq (.reg [] [zO 13 (.mv (.t 0)),zO 14 (.len (.t 13)),zO 15 (.mv (.t 1)),zO 16 (.len (.t 15)),zO 17 (.bin .gtr (.t 14) (.t 16)),zO 12 (.mv (.t 17))]) (.cond (.t 12) (.seq (.reg [] [zO 4 (.mv (.c (.i .i64 1)))]) .ret) .skip))))) (.seq (.seq (.reg [] [zO 18 (.mv (.t 0)),zO 19 (.len (.t 18)),zO 20 (.bin .sub (.t 19) (.c (.i .i64 1))),zO 5 (.mv (.t 20))]) (.block 1 (.loop [(0,0),(1,0),(5,0)] [(4,0)] b110_0))) (.seq (.reg [] [zO 4 (.mv (.c (.i .i64 0)))]) .ret))))
def p110 : PF := ⟨[(.tmp 4,0)],[],c110⟩
def b111_0 : PC := (.seq (.reg [] [zO 23 (.bin .lss (.t 22) (.t 21))]) (.seq (.cond (.t 23) .skip (.exit 0)) (.seq (.block 1 (.seq (.reg [] [zO 24 (.mv (.t 22)),zO 25 (.idx 1 (.t 20) (.t 22)),zO 26 (.ld false 1 (.t 25)),zO 8 (.mv (.t 24)),zO 9 (.mv (.t 26))]) (.seq (.reg [] [zO 27 (.mv (.t 9)),zO 28 (.mv (.t 6)),zO 29 (.bin .shl (.t 27) (.t 28)),zO 9 (.mv (.t 29))]) (.seq (.reg [] [zO 30 (.mv (.t 7)),zO 31 (.mv (.t 8)),zO 32 (.mv (.t 5)),zO 33 (.bin .add (.t 31) (.t 32)),zO 34 (.idx 1 (.t 30) (.t 33)),zO 35 (.ld false 1 (.t 34)),zO 36 (.mv (.t 9)),zO 37 (.bin .and (.t 36) (.c (.i .u64 4294967295))),zO 38 (.bin .or (.t 35) (.t 37)),zO 39 (.idx 1 (.t 30) (.t 33)),⟨none,.st 1 (.t 39) (.t 38),none⟩]) (.reg [] [zO 40 (.mv (.t 7)),zO 41 (.mv (.t 8)),zO 42 (.mv (.t 5)),zO 43 (.bin .add (.t 41) (.t 42)),zO 44 (.bin .add (.t 43) (.c (.i .i64 1))),zO 45 (.mv (.t 9)),zO 46 (.bin .shr (.t 45) (.c (.i .u64 32))),zO 47 (.idx 1 (.t 40) (.t 44)),⟨none,.st 1 (.t 47) (.t 46),none⟩]))))) (.reg [] [zO 48 (.bin .add (.t 22) (.c (.i .i64 1))),zO 22 (.mv (.t 48))]))))
def c111 : PC := (.seq (.reg [] [zO 4 (.mv (.c (.ns 1)))]) (.seq (.reg [] [zO 10 (.mv (.t 1)),zO 11 (.bin .quo (.t 10) (.c (.i .i64 32))),zO 12 (.mv (.t 1)),zO 13 (.bin .rem (.t 12) (.c (.i .i64 32))),zO 5 (.mv (.t 11)),zO 6 (.mv (.t 13))]) (.seq (.reg [] [zO 14 (.mv (.t 0)),zO 15 (.len (.t 14)),zO 16 (.mv (.t 5)),zO 17 (.bin .add (.t 15) (.t 16)),zO 18 (.bin .add (.t 17) (.c (.i .i64 1))),zO 19 (.mk 19 1 8 [.i .u64 0] (.t 18)),zO 7 (.mv (.t 19))]) (.seq (.seq (.reg [] [zO 20 (.mv (.t 0)),zO 21 (.len (.t 20)),zO 22 (.mv (.c (.i .i64 0)))]) (.block 0 (.loop [(7,1),(5,0),(6,0),(20,0),(21,0),(22,0)] [(7,1)] b111_0))) (.seq (.reg [] [zO 49 (.mv (.t 7)),zO 50 (.callw 285 [(.t 49)] 0),zO 4 (.mv (.t 50))]) .ret)))))
def p111 : PF := ⟨[(.tmp 4,1)],[],c111⟩
def c112 : PC := (.seq (.reg [] [zO 4 (.mv (.c (.ns 1))),zO 5 (.mv (.c (.ns 1)))]) (.seq (.reg [] [zO 10 (.mv (.t 0)),zO 11 (.mv (.t 1)),zO 12 (.call 115 [(.t 10),(.t 11)]),zO 9 (.mv (.t 12)),zO 13 (.ext 0 (.t 9)),zO 14 (.ext 1 (.t 9)),zO 15 (.ext 2 (.t 9)),zO 6 (.mv (.t 13)),zO 7 (.mv (.t 14)),zO 8 (.mv (.t 15))]) (.seq (.reg [] [zO 16 (.mv (.t 6)),zO 17 (.mv (.t 7)),zO 4 (.mv (.t 16)),zO 5 (.mv (.t 17))]) .ret)))
def p112 : PF := ⟨[(.tmp 4,0),(.tmp 5,0)],[],c112⟩
def b113_0 : PC := (.seq (.reg [] [zO 15 (.bin .lss (.t 14) (.t 13))]) (.seq (.cond (.t 15) .skip (.exit 0)) (.seq (.block 1 (.seq (.reg [] [zO 16 (.mv (.t 14)),zO 7 (.mv (.t 16))]) (.seq (.reg [] [zO 17 (.mv (.t 0)),zO 18 (.mv (.t 7)),zO 19 (.idx 1 (.t 17) (.t 18)),zO 20 (.ld false 1 (.t 19)),zO 21 (.bin .add (.c (.i .u64 4294967296)) (.t 20)),zO 22 (.mv (.t 1)),zO 23 (.mv (.t 7)),zO 24 (.call 129 [(.t 22),(.t 23)]),zO 25 (.bin .sub (.t 21) (.t 24)),zO 26 (.mv (.t 6)),zO 27 (.bin .sub (.t 25) (.t 26)),zO 8 (.mv (.t 27))]) (.seq (.reg [] [zO 28 (.mv (.t 5)),zO 29 (.mv (.t 7)),zO 30 (.mv (.t 8)),zO 31 (.bin .and (.t 30) (.c (.i .u64 4294967295))),zO 32 (.idx 1 (.t 28) (.t 29)),⟨none,.st 1 (.t 32) (.t 31),none⟩]) (.reg [] [zO 33 (.mv (.t 8)),zO 34 (.bin .shr (.t 33) (.c (.i .u64 32))),zO 35 (.bin .sub (.c (.i .u64 1)) (.t 34)),zO 6 (.mv (.t 35))]))))) (.reg [] [zO 36 (.bin .add (.t 14) (.c (.i .i64 1))),zO 14 (.mv (.t 36))]))))
def c113 : PC := (.seq (.reg [] [zO 4 (.mv (.c (.ns 1)))]) (.seq (.reg [] [zO 9 (.mv (.t 0)),zO 10 (.len (.t 9)),zO 11 (.mk 11 1 8 [.i .u64 0] (.t 10)),zO 5 (.mv (.t 11))]) (.seq (.reg [] [zO 6 (.mv (.c (.i .u64 0)))]) (.seq (.seq (.reg [] [zO 12 (.mv (.t 5)),zO 13 (.len (.t 12)),zO 14 (.mv (.c (.i .i64 0)))]) (.block 0 (.loop [(5,1),(0,0),(1,0),(6,0),(13,0),(14,0)] [(5,0)] b113_0))) (.seq (.reg [] [zO 37 (.mv (.t 5)),zO 38 (.call 114 [(.t 37)]),zO 4 (.mv (.t 38))]) .ret)))))
def p113 : PF := ⟨[(.tmp 4,0)],[],c113⟩
def b114_0 : PC := (.seq (.seq (.join [(0,0),(3,0),(15,0)] (.reg [] [zO 6 (.mv (.t 3)),zO 7 (.bin .gtr (.t 6) (.c (.i .i64 0))),zO 8 (.mv (.t 7)),⟨some 9,.mv (.t 0),some (8,true)⟩,⟨some 10,.mv (.t 3),some (8,true)⟩,⟨some 11,.bin .sub (.t 10) (.c (.i .i64 1)),some (8,true)⟩,⟨some 12,.idx 1 (.t 9) (.t 11),some (8,true)⟩,⟨some 13,.ld false 1 (.t 12),some (8,true)⟩,⟨some 14,.bin .eql (.t 13) (.c (.i .u64 0)),some (8,true)⟩,zO 15 (.pick (.t 8) (.t 14) (.c (.b false)))])) (.cond (.t 15) .skip (.exit 0))) (.block 1 (.reg [] [zO 16 (.mv (.t 3)),zO 17 (.bin .sub (.t 16) (.c (.i .i64 1))),zO 3 (.mv (.t 17))])))
def c114 : PC := (.seq (.reg [] [zO 2 (.mv (.c (.ns 1)))]) (.seq (.reg [] [zO 4 (.mv (.t 0)),zO 5 (.len (.t 4)),zO 3 (.mv (.t 5))]) (.seq (.block 0 (.loop [(0,0),(3,0)] [(0,0),(3,0)] b114_0)) (.seq (.seq (.reg [] [zO 18 (.mv (.t 3)),zO 19 (.bin .eql (.t 18) (.c (.i .i64 0)))]) (.cond (.t 19) (.seq (.reg [] [zO 2 (.mv (.c (.ns 1)))]) .ret) .skip)) (.seq (.reg [] [zO 20 (.mv (.t 0)),zO 21 (.mv (.t 3)),zO 22 (.cut 1 (.t 20) none (some (.t 21)) none),zO 2 (.mv (.t 22))]) .ret)))))
def p114 : PF := ⟨[(.tmp 2,0)],[],c114⟩
def c115 : PC := (.seq (.reg [] [zO 4 (.mv (.c (.ns 1))),zO 5 (.mv (.c (.ns 1))),zO 6 (.mv (.c (.i .i64 0)))]) (.seq (.reg [] [zO 11 (.mv (.t 0)),zO 12 (.call 106 [(.t 11)]),zO 13 (.mv (.t 1)),zO 14 (.call 106 [(.t 13)]),zO 0 (.mv (.t 12)),zO 1 (.mv (.t 14))]) (.seq (.block 0 (.seq (.reg [] [zO 16 (.mv (.t 1)),zO 17 (.len (.t 16)),zO 18 (.bin .eql (.t 17) (.c (.i .i64 0))),zO 15 (.mv (.t 18))]) (.cond (.t 15) (.seq (.reg [] [zO 4 (.mv (.c (.ns 1))),zO 5 (.mv (.c (.ns 1))),zO 6 (.mv (.c (.i .i64 2)))]) .ret) (.seq (.reg [] [zO 20 (.mv (.t 0)),zO 21 (.mv (.t 1)),zO 22 (.call 110 [(.t 20),(.t 21)]),zO 23 (.bin .lss (.t 22) (.c (.i .i64 0))),zO 19 (.mv (.t 23))]) (.cond (.t 19) (.seq (.reg [] [zO 24 (.mv (.t 0)),zO 4 (.mv (.c (.ns 1))),zO 5 (.mv (.t 24)),zO 6 (.mv (.c (.i .i64 0)))]) .ret) (.seq (.reg [] [zO 26 (.mv (.t 1)),zO 27 (.len (.t 26)),zO 28 (.bin .eql (.t 27) (.c (.i .i64 1))),zO 25 (.mv (.t 28))]) (.cond (.t 25) (.seq (.reg [] [zO 30 (.mv (.t 0)),zO 31 (.mv (.t 1)),zO 32 (.idx 1 (.t 31) (.c (.i .i64 0))),zO 33 (.ld false 1 (.t 32)),zO 34 (.call 130 [(.t 30),(.t 33)]),zO 29 (.mv (.t 34)),zO 35 (.ext 0 (.t 29)),zO 36 (.ext 1 (.t 29)),zO 7 (.mv (.t 35)),zO 8 (.mv (.t 36))]) (.seq (.reg [] [zO 37 (.mv (.t 7)),zO 38 (.mv (.t 8)),zO 39 (.call 73 [(.t 38)]),zO 4 (.mv (.t 37)),zO 5 (.mv (.t 39)),zO 6 (.mv (.c (.i .i64 0)))]) .ret)) .skip))))))) (.seq (.reg [] [zO 41 (.mv (.t 0)),zO 42 (.mv (.t 1)),zO 43 (.call 131 [(.t 41),(.t 42)]),zO 40 (.mv (.t 43)),zO 44 (.ext 0 (.t 40)),zO 45 (.ext 1 (.t 40)),zO 9 (.mv (.t 44)),zO 10 (.mv (.t 45))]) (.seq (.reg [] [zO 46 (.mv (.t 9)),zO 47 (.mv (.t 10)),zO 4 (.mv (.t 46)),zO 5 (.mv (.t 47)),zO 6 (.mv (.c (.i .i64 0)))]) .ret)))))
def p115 : PF := ⟨[(.tmp 4,0),(.tmp 5,0),(.tmp 6,0)],[],c115⟩
def b116_0 : PC := (.seq (.reg [] [zO 22 (.bin .lss (.t 21) (.t 20))]) (.seq (.cond (.t 22) .skip (.exit 0)) (.seq (.block 1 (.seq (.reg [] [zO 23 (.mv (.t 21)),zO 7 (.mv (.t 23))]) (.seq (.reg [] [zO 24 (.mv (.t 6)),zO 25 (.mv (.t 0)),zO 26 (.mv (.t 7)),zO 27 (.call 129 [(.t 25),(.t 26)]),zO 28 (.mv (.t 1)),zO 29 (.mv (.t 7)),zO 30 (.call 129 [(.t 28),(.t 29)]),zO 31 (.bin .add (.t 27) (.t 30)),zO 32 (.bin .add (.t 24) (.t 31)),zO 6 (.mv (.t 32))]) (.seq (.reg [] [zO 33 (.mv (.t 5)),zO 34 (.mv (.t 7)),zO 35 (.mv (.t 6)),zO 36 (.bin .and (.t 35) (.c (.i .u64 4294967295))),zO 37 (.idx 1 (.t 33) (.t 34)),⟨none,.st 1 (.t 37) (.t 36),none⟩]) (.reg [] [zO 38 (.mv (.t 6)),zO 39 (.bin .shr (.t 38) (.c (.i .u64 32))),zO 6 (.mv (.t 39))]))))) (.reg [] [zO 40 (.bin .add (.t 21) (.c (.i .i64 1))),zO 21 (.mv (.t 40))]))))
def c116 : PC := (.seq (.reg [] [zO 4 (.mv (.c (.ns 1)))]) (.seq (.reg [] [zO 8 (.mv (.t 0)),zO 9 (.call 106 [(.t 8)]),zO 10 (.mv (.t 1)),zO 11 (.call 106 [(.t 10)]),zO 0 (.mv (.t 9)),zO 1 (.mv (.t 11))]) (.seq (.reg [] [zO 12 (.mv (.t 0)),zO 13 (.len (.t 12)),zO 14 (.mv (.t 1)),zO 15 (.len (.t 14)),zO 16 (.max (.t 13) (.t 15)),zO 17 (.bin .add (.t 16) (.c (.i .i64 1))),zO 18 (.mk 18 1 8 [.i .u64 0] (.t 17)),zO 5 (.mv (.t 18))]) (.seq (.reg [] [zO 6 (.mv (.c (.i .u64 0)))]) (.seq (.seq (.reg [] [zO 19 (.mv (.t 5)),zO 20 (.len (.t 19)),zO 21 (.mv (.c (.i .i64 0)))]) (.block 0 (.loop [(5,1),(0,0),(1,0),(6,0),(20,0),(21,0)] [(5,0)] b116_0))) (.seq (.reg [] [zO 41 (.mv (.t 5)),zO 42 (.call 114 [(.t 41)]),zO 4 (.mv (.t 42))]) .ret))))))
def p116 : PF := ⟨[(.tmp 4,0)],[],c116⟩
def c117 : PC := (.seq (.reg [] [zO 4 (.mv (.c (.ns 1))),zO 5 (.mv (.c (.i .i64 0)))]) (.seq (.reg [] [zO 6 (.mv (.t 0)),zO 7 (.call 106 [(.t 6)]),zO 8 (.mv (.t 1)),zO 9 (.call 106 [(.t 8)]),zO 0 (.mv (.t 7)),zO 1 (.mv (.t 9))]) (.seq (.seq (.reg [] [zO 10 (.mv (.t 0)),zO 11 (.mv (.t 1)),zO 12 (.call 110 [(.t 10),(.t 11)]),zO 13 (.bin .lss (.t 12) (.c (.i .i64 0)))]) (.cond (.t 13) (.seq (.reg [] [zO 4 (.mv (.c (.ns 1))),zO 5 (.mv (.c (.i .i64 3)))]) .ret) .skip)) (.seq (.reg [] [zO 14 (.mv (.t 0)),zO 15 (.mv (.t 1)),zO 16 (.call 113 [(.t 14),(.t 15)]),zO 4 (.mv (.t 16)),zO 5 (.mv (.c (.i .i64 0)))]) .ret))))
def p117 : PF := ⟨[(.tmp 4,0),(.tmp 5,0)],[],c117⟩
def b118_0 : PC := (.seq (.seq (.reg [] [zO 4 (.mv (.t 0)),zO 5 (.bin .gtr (.t 4) (.c (.i .i64 0)))]) (.cond (.t 5) .skip (.exit 0))) (.block 1 (.seq (.reg [] [zO 6 (.mv (.t 3)),zO 7 (.mv (.t 0)),zO 8 (.bin .rem (.t 7) (.c (.i .i64 10000))),zO 9 (.bsl 9 1 [.i .i64 0] 1 [(0,(.t 8))]),zO 10 (.app 10 1 8 (.t 6) (.t 9)),zO 3 (.mv (.t 10))]) (.reg [] [zO 11 (.mv (.t 0)),zO 12 (.bin .quo (.t 11) (.c (.i .i64 10000))),zO 0 (.mv (.t 12))]))))
def c118 : PC := (.seq (.reg [] [zO 2 (.mv (.c (.ns 1)))]) (.seq (.reg [] [zO 3 (.mv (.c (.ns 1)))]) (.seq (.block 0 (.loop [(3,1),(0,0)] [(3,0)] b118_0)) (.seq (.reg [] [zO 13 (.mv (.t 3)),zO 2 (.mv (.t 13))]) .ret))))
def p118 : PF := ⟨[(.tmp 2,0)],[],c118⟩
def b119_0 : PC := (.seq (.seq (.join [(0,0),(3,0),(15,0)] (.reg [] [zO 6 (.mv (.t 3)),zO 7 (.bin .gtr (.t 6) (.c (.i .i64 0))),zO 8 (.mv (.t 7)),⟨some 9,.mv (.t 0),some (8,true)⟩,⟨some 10,.mv (.t 3),some (8,true)⟩,⟨some 11,.bin .sub (.t 10) (.c (.i .i64 1)),some (8,true)⟩,⟨some 12,.idx 1 (.t 9) (.t 11),some (8,true)⟩,⟨some 13,.ld false 1 (.t 12),some (8,true)⟩,⟨some 14,.bin .eql (.t 13) (.c (.i .i64 0)),some (8,true)⟩,zO 15 (.pick (.t 8) (.t 14) (.c (.b false)))])) (.cond (.t 15) .skip (.exit 0))) (.block 1 (.reg [] [zO 16 (.mv (.t 3)),zO 17 (.bin .sub (.t 16) (.c (.i .i64 1))),zO 3 (.mv (.t 17))])))
def c119 : PC := (.seq (.reg [] [zO 2 (.mv (.c (.ns 1)))]) (.seq (.reg [] [zO 4 (.mv (.t 0)),zO 5 (.len (.t 4)),zO 3 (.mv (.t 5))]) (.seq (.block 0 (.loop [(0,0),(3,0)] [(0,0),(3,0)] b119_0)) (.seq (.reg [] [zO 18 (.mv (.t 0)),zO 19 (.mv (.t 3)),zO 20 (.cut 1 (.t 18) none (some (.t 19)) none),zO 2 (.mv (.t 20))]) .ret))))
def p119 : PF := ⟨[(.tmp 2,0)],[],c119⟩
def c120 : PC := (.seq (.reg [] [zO 4 (.mv (.c (.i .i64 0)))]) (.seq (.seq (.reg [] [zO 5 (.mv (.t 1)),zO 6 (.mv (.t 0)),zO 7 (.len (.t 6)),zO 8 (.bin .lss (.t 5) (.t 7))]) (.cond (.t 8) (.seq (.reg [] [zO 9 (.mv (.t 0)),zO 10 (.mv (.t 1)),zO 11 (.idx 1 (.t 9) (.t 10)),zO 12 (.ld false 1 (.t 11)),zO 4 (.mv (.t 12))]) .ret) .skip)) (.seq (.reg [] [zO 4 (.mv (.c (.i .i64 0)))]) .ret)))
def p120 : PF := ⟨[(.tmp 4,0)],[],c120⟩
def c122 : PC := (.seq (.reg [] [zO 2 (.box 2 2 (.t 0)),zO 3 (.box 3 2 (.t 1)),zO 4 (.alloc 4 [.b false,.ns 1,.ns 1]),zO 5 (.mv (.c (.i .i64 0)))]) (.seq (.reg [] [zO 6 (.ld true 2 (.t 2)),zO 7 (.call 81 [(.t 6)]),zO 8 (.ld true 2 (.t 3)),zO 9 (.call 81 [(.t 8)]),⟨none,.st 2 (.t 2) (.t 7),none⟩,⟨none,.st 2 (.t 3) (.t 9),none⟩]) (.seq (.seq (.reg [] [zO 10 (.ld true 2 (.t 3)),zO 11 (.call 83 [(.t 10)]),zO 12 (.bin .eql (.t 11) (.c (.i .i64 0)))]) (.cond (.t 12) (.seq (.reg [] [zO 13 (.build [.b false,.ns 1,.ns 1] []),⟨none,.st 3 (.t 4) (.t 13),none⟩,zO 5 (.mv (.c (.i .i64 2)))]) .ret) .skip)) (.seq (.seq (.reg [] [zO 14 (.fld 0 (.t 3)),zO 15 (.ld false 1 (.t 14))]) (.join [(4,1),(2,0),(3,0)] (.cond (.t 15) (.reg [] [zO 16 (.ld true 2 (.t 2)),zO 17 (.call 86 [(.t 16)]),⟨none,.st 2 (.t 2) (.t 17),none⟩]) .skip))) (.seq (.reg [] [zO 18 (.ld true 2 (.t 2)),zO 19 (.fld 1 (.t 3)),zO 20 (.ld false 1 (.t 19)),zO 21 (.call 75 [(.t 18),(.t 20)]),⟨none,.st 3 (.t 4) (.t 21),none⟩,zO 5 (.mv (.c (.i .i64 0)))]) .ret)))))
def p122 : PF := ⟨[(.cell 4 true 3,0),(.tmp 5,0)],[],c122⟩
def c127 : PC := (.seq (.reg [] [zO 2 (.mv (.c (.i .u64 0))),zO 3 (.mv (.c (.b false)))]) (.seq (.reg [] [zO 4 (.mv (.t 0)),zO 5 (.call 106 [(.t 4)]),zO 0 (.mv (.t 5))]) (.seq (.seq (.reg [] [zO 6 (.mv (.t 0)),zO 7 (.len (.t 6))]) (.block 0 (.seq (.reg [] [zO 9 (.bin .eql (.t 7) (.c (.i .i64 0))),zO 8 (.mv (.t 9))]) (.cond (.t 8) (.seq (.reg [] [zO 2 (.mv (.c (.i .u64 0))),zO 3 (.mv (.c (.b true)))]) .ret) (.seq (.reg [] [zO 11 (.bin .eql (.t 7) (.c (.i .i64 1))),zO 10 (.mv (.t 11))]) (.cond (.t 10) (.seq (.reg [] [zO 12 (.mv (.t 0)),zO 13 (.idx 1 (.t 12) (.c (.i .i64 0))),zO 14 (.ld false 1 (.t 13)),zO 2 (.mv (.t 14)),zO 3 (.mv (.c (.b true)))]) .ret) (.seq (.reg [] [zO 16 (.bin .eql (.t 7) (.c (.i .i64 2))),zO 15 (.mv (.t 16))]) (.cond (.t 15) (.seq (.reg [] [zO 17 (.mv (.t 0)),zO 18 (.idx 1 (.t 17) (.c (.i .i64 1))),zO 19 (.ld false 1 (.t 18)),zO 20 (.bin .shl (.t 19) (.c (.i .u64 32))),zO 21 (.mv (.t 0)),zO 22 (.idx 1 (.t 21) (.c (.i .i64 0))),zO 23 (.ld false 1 (.t 22)),zO 24 (.bin .or (.t 20) (.t 23)),zO 2 (.mv (.t 24)),zO 3 (.mv (.c (.b true)))]) .ret) .skip)))))))) (.seq (.reg [] [zO 2 (.mv (.c (.i .u64 0))),zO 3 (.mv (.c (.b false)))]) .ret))))
def p127 : PF := ⟨[(.tmp 2,0),(.tmp 3,0)],[],c127⟩
def c128 : PC := (.seq (.reg [] [zO 2 (.mv (.c (.i .i64 0)))]) (.seq (.seq (.reg [] [zO 3 (.mv (.t 0)),zO 4 (.bin .eql (.t 3) (.c (.i .u64 0)))]) (.cond (.t 4) (.seq (.reg [] [zO 2 (.mv (.c (.i .i64 64)))]) .ret) .skip)) (.seq (.reg [] [zO 5 (.mv (.t 0)),zO 6 (.mv (.t 0)),zO 7 (.neg (.t 6)),zO 8 (.bin .and (.t 5) (.t 7)),zO 9 (.bin .mul (.t 8) (.c (.i .u64 285870213051353865))),zO 10 (.bin .shr (.t 9) (.c (.i .u64 58))),zO 11 (.idxa 64 1 (.c (.tp tab0 0)) (.t 10)),zO 12 (.ld false 1 (.t 11)),zO 13 (.conv .i64 (.t 12)),zO 2 (.mv (.t 13))]) .ret)))
def p128 : PF := ⟨[(.tmp 2,0)],[],c128⟩
def c129 : PC := (.seq (.reg [] [zO 4 (.mv (.c (.i .u64 0)))]) (.seq (.seq (.reg [] [zO 5 (.mv (.t 1)),zO 6 (.mv (.t 0)),zO 7 (.len (.t 6)),zO 8 (.bin .lss (.t 5) (.t 7))]) (.cond (.t 8) (.seq (.reg [] [zO 9 (.mv (.t 0)),zO 10 (.mv (.t 1)),zO 11 (.idx 1 (.t 9) (.t 10)),zO 12 (.ld false 1 (.t 11)),zO 4 (.mv (.t 12))]) .ret) .skip)) (.seq (.reg [] [zO 4 (.mv (.c (.i .u64 0)))]) .ret)))
def p129 : PF := ⟨[(.tmp 4,0)],[],c129⟩
def b130_0 : PC := (.seq (.seq (.reg [] [zO 15 (.mv (.t 8)),zO 16 (.bin .geq (.t 15) (.c (.i .i64 0)))]) (.cond (.t 16) .skip (.exit 0))) (.seq (.block 1 (.seq (.reg [] [zO 19 (.mv (.t 7)),zO 20 (.bin .shl (.t 19) (.c (.i .u64 32))),zO 21 (.mv (.t 0)),zO 22 (.mv (.t 8)),zO 23 (.idx 1 (.t 21) (.t 22)),zO 24 (.ld false 1 (.t 23)),zO 25 (.bin .or (.t 20) (.t 24)),zO 7 (.mv (.t 25))]) (.seq (.reg [] [zO 26 (.mv (.t 6)),zO 27 (.mv (.t 8)),zO 28 (.mv (.t 7)),zO 29 (.mv (.t 1)),zO 30 (.bin .quo (.t 28) (.t 29)),zO 31 (.idx 1 (.t 26) (.t 27)),⟨none,.st 1 (.t 31) (.t 30),none⟩]) (.reg [] [zO 32 (.mv (.t 7)),zO 33 (.mv (.t 1)),zO 34 (.bin .rem (.t 32) (.t 33)),zO 7 (.mv (.t 34))])))) (.reg [] [zO 17 (.mv (.t 8)),zO 18 (.bin .sub (.t 17) (.c (.i .i64 1))),zO 8 (.mv (.t 18))])))
def c130 : PC := (.seq (.reg [] [zO 4 (.mv (.c (.ns 1))),zO 5 (.mv (.c (.i .u64 0)))]) (.seq (.reg [] [zO 9 (.mv (.t 0)),zO 10 (.len (.t 9)),zO 11 (.mk 11 1 8 [.i .u64 0] (.t 10)),zO 6 (.mv (.t 11))]) (.seq (.reg [] [zO 7 (.mv (.c (.i .u64 0)))]) (.seq (.seq (.reg [] [zO 12 (.mv (.t 0)),zO 13 (.len (.t 12)),zO 14 (.bin .sub (.t 13) (.c (.i .i64 1))),zO 8 (.mv (.t 14))]) (.block 0 (.loop [(6,1),(0,0),(1,0),(7,0),(8,0)] [(6,0),(7,0)] b130_0))) (.seq (.reg [] [zO 35 (.mv (.t 6)),zO 36 (.call 114 [(.t 35)]),zO 37 (.mv (.t 7)),zO 4 (.mv (.t 36)),zO 5 (.mv (.t 37))]) .ret)))))
def p130 : PF := ⟨[(.tmp 4,0),(.tmp 5,0)],[],c130⟩
def b131_0 : PC := (.seq (.seq (.reg [] [zO 42 (.mv (.t 11)),zO 43 (.bin .geq (.t 42) (.c (.i .i64 0)))]) (.cond (.t 43) .skip (.exit 0))) (.seq (.block 1 (.reg [] [zO 46 (.mv (.t 10)),zO 47 (.mv (.t 11)),zO 48 (.mv (.t 8)),zO 49 (.mv (.t 11)),zO 50 (.mv (.t 11)),zO 51 (.mv (.t 9)),zO 52 (.bin .add (.t 50) (.t 51)),zO 53 (.bin .add (.t 52) (.c (.i .i64 1))),zO 54 (.cut 1 (.t 48) (some (.t 49)) (some (.t 53)) none),zO 55 (.mv (.t 7)),zO 56 (.callw 138 [(.t 54),(.t 55)] 0),zO 57 (.idx 1 (.t 46) (.t 47)),⟨none,.st 1 (.t 57) (.t 56),none⟩])) (.reg [] [zO 44 (.mv (.t 11)),zO 45 (.bin .sub (.t 44) (.c (.i .i64 1))),zO 11 (.mv (.t 45))])))
def c131 : PC := (.seq (.reg [] [zO 4 (.mv (.c (.ns 1))),zO 5 (.mv (.c (.ns 1)))]) (.seq (.reg [] [zO 12 (.mv (.t 1)),zO 13 (.mv (.t 1)),zO 14 (.len (.t 13)),zO 15 (.bin .sub (.t 14) (.c (.i .i64 1))),zO 16 (.idx 1 (.t 12) (.t 15)),zO 17 (.ld false 1 (.t 16)),zO 18 (.conv .u32 (.t 17)),zO 19 (.call 137 [(.t 18)]),zO 6 (.mv (.t 19))]) (.seq (.reg [] [zO 20 (.mv (.t 1)),zO 21 (.mv (.t 6)),zO 22 (.callo 111 [(.t 20),(.t 21)] 22),zO 7 (.mv (.t 22))]) (.seq (.reg [] [zO 23 (.mv (.t 0)),zO 24 (.mv (.t 6)),zO 25 (.callo 111 [(.t 23),(.t 24)] 25),zO 26 (.bsl 26 1 [.i .u64 0] 2 [(0,(.c (.i .u64 0))),(1,(.c (.i .u64 0)))]),zO 27 (.app 27 1 8 (.t 25) (.t 26)),zO 28 (.mv (.t 0)),zO 29 (.len (.t 28)),zO 30 (.bin .add (.t 29) (.c (.i .i64 1))),zO 31 (.cut 1 (.t 27) none (some (.t 30)) none),zO 8 (.mv (.t 31))]) (.seq (.reg [] [zO 32 (.mv (.t 7)),zO 33 (.len (.t 32)),zO 9 (.mv (.t 33))]) (.seq (.reg [] [zO 34 (.mv (.t 8)),zO 35 (.len (.t 34)),zO 36 (.mv (.t 9)),zO 37 (.bin .sub (.t 35) (.t 36)),zO 38 (.mk 38 1 8 [.i .u64 0] (.t 37)),zO 10 (.mv (.t 38))]) (.seq (.seq (.reg [] [zO 39 (.mv (.t 10)),zO 40 (.len (.t 39)),zO 41 (.bin .sub (.t 40) (.c (.i .i64 1))),zO 11 (.mv (.t 41))]) (.block 0 (.loop [(8,1),(10,1),(6,0),(7,0),(9,0),(11,0)] [(6,0),(8,0),(10,0)] b131_0))) (.seq (.reg [] [zO 58 (.mv (.t 10)),zO 59 (.call 114 [(.t 58)]),zO 60 (.mv (.t 8)),zO 61 (.call 114 [(.t 60)]),zO 62 (.mv (.t 6)),zO 63 (.call 109 [(.t 61),(.t 62)]),zO 4 (.mv (.t 59)),zO 5 (.mv (.t 63))]) .ret))))))))
def p131 : PF := ⟨[(.tmp 4,0),(.tmp 5,0)],[],c131⟩
def c137 : PC := (.seq (.reg [] [zO 2 (.mv (.c (.i .i64 0)))]) (.seq (.reg [] [zO 3 (.mv (.t 0)),zO 4 (.call 139 [(.t 3)]),zO 5 (.bin .sub (.c (.i .i64 32)) (.t 4)),zO 2 (.mv (.t 5))]) .ret))
def p137 : PF := ⟨[(.tmp 2,0)],[],c137⟩
def b138_0 : PC := (.seq (.seq (.join [(200000,2),(0,1),(1,0),(5,0),(7,0),(8,0),(55,0)] (.reg [] [zO 36 (.mv (.t 7)),zO 37 (.bin .geq (.t 36) (.c (.i .u64 4294967296))),zO 38 (.mv (.t 37)),⟨some 39,.mv (.t 7),some (38,false)⟩,⟨some 40,.mv (.t 1),some (38,false)⟩,⟨some 41,.mv (.t 5),some (38,false)⟩,⟨some 42,.bin .sub (.t 41) (.c (.i .i64 2)),some (38,false)⟩,⟨some 43,.idx 1 (.t 40) (.t 42),some (38,false)⟩,⟨some 44,.ld false 1 (.t 43),some (38,false)⟩,⟨some 45,.bin .mul (.t 39) (.t 44),some (38,false)⟩,⟨some 46,.mv (.t 8),some (38,false)⟩,⟨some 47,.bin .shl (.t 46) (.c (.i .u64 32)),some (38,false)⟩,⟨some 48,.mv (.t 0),some (38,false)⟩,⟨some 49,.mv (.t 5),some (38,false)⟩,⟨some 50,.bin .sub (.t 49) (.c (.i .i64 2)),some (38,false)⟩,⟨some 51,.idx 1 (.t 48) (.t 50),some (38,false)⟩,⟨some 52,.ld false 1 (.t 51),some (38,false)⟩,⟨some 53,.bin .or (.t 47) (.t 52),some (38,false)⟩,⟨some 54,.bin .gtr (.t 45) (.t 53),some (38,false)⟩,zO 55 (.pick (.t 38) (.c (.b true)) (.t 54))])) (.cond (.t 55) .skip (.exit 0))) (.block 1 (.seq (.reg [] [zO 56 (.mv (.t 7)),zO 57 (.bin .sub (.t 56) (.c (.i .u64 1))),zO 7 (.mv (.t 57))]) (.seq (.reg [] [zO 58 (.mv (.t 8)),zO 59 (.mv (.t 1)),zO 60 (.mv (.t 5)),zO 61 (.bin .sub (.t 60) (.c (.i .i64 1))),zO 62 (.idx 1 (.t 59) (.t 61)),zO 63 (.ld false 1 (.t 62)),zO 64 (.bin .add (.t 58) (.t 63)),zO 8 (.mv (.t 64))]) (.seq (.reg [] [zO 65 (.mv (.t 8)),zO 66 (.bin .geq (.t 65) (.c (.i .u64 4294967296)))]) (.cond (.t 66) (.exit 0) .skip))))))
def c138 : PC := (.seq (.reg [] [zO 4 (.mv (.c (.i .u64 0)))]) (.seq (.reg [] [zO 9 (.mv (.t 1)),zO 10 (.len (.t 9)),zO 5 (.mv (.t 10))]) (.seq (.reg [] [zO 11 (.mv (.t 0)),zO 12 (.mv (.t 5)),zO 13 (.idx 1 (.t 11) (.t 12)),zO 14 (.ld false 1 (.t 13)),zO 15 (.bin .shl (.t 14) (.c (.i .u64 32))),zO 16 (.mv (.t 0)),zO 17 (.mv (.t 5)),zO 18 (.bin .sub (.t 17) (.c (.i .i64 1))),zO 19 (.idx 1 (.t 16) (.t 18)),zO 20 (.ld false 1 (.t 19)),zO 21 (.bin .or (.t 15) (.t 20)),zO 6 (.mv (.t 21))]) (.seq (.reg [] [zO 22 (.mv (.t 6)),zO 23 (.mv (.t 1)),zO 24 (.mv (.t 5)),zO 25 (.bin .sub (.t 24) (.c (.i .i64 1))),zO 26 (.idx 1 (.t 23) (.t 25)),zO 27 (.ld false 1 (.t 26)),zO 28 (.bin .quo (.t 22) (.t 27)),zO 29 (.mv (.t 6)),zO 30 (.mv (.t 1)),zO 31 (.mv (.t 5)),zO 32 (.bin .sub (.t 31) (.c (.i .i64 1))),zO 33 (.idx 1 (.t 30) (.t 32)),zO 34 (.ld false 1 (.t 33)),zO 35 (.bin .rem (.t 29) (.t 34)),zO 7 (.mv (.t 28)),zO 8 (.mv (.t 35))]) (.seq (.block 0 (.loop [(200000,2),(0,1),(1,0),(5,0),(7,0),(8,0)] [(200000,2),(0,1),(1,0),(7,0)] b138_0)) (.seq (.seq (.reg [] [zO 67 (.mv (.t 0)),zO 68 (.mv (.t 1)),zO 69 (.mv (.t 7)),zO 70 (.callw 140 [(.t 67),(.t 68),(.t 69)] 0)]) (.join [(200000,2),(0,1),(7,0)] (.cond (.t 70) (.seq (.reg [] [zO 71 (.mv (.t 7)),zO 72 (.bin .sub (.t 71) (.c (.i .u64 1))),zO 7 (.mv (.t 72))]) (.reg [] [zO 73 (.mv (.t 0)),zO 74 (.mv (.t 1)),zO 75 (.callw 141 [(.t 73),(.t 74)] 0)])) .skip))) (.seq (.reg [] [zO 76 (.mv (.t 7)),zO 4 (.mv (.t 76))]) .ret)))))))
def p138 : PF := ⟨[(.tmp 4,0)],[0],c138⟩
def c139 : PC := (.seq (.reg [] [zO 2 (.mv (.c (.i .i64 0)))]) (.seq (.seq (.reg [] [zO 3 (.mv (.t 0)),zO 4 (.bin .geq (.t 3) (.c (.i .u32 65536)))]) (.join [(0,0),(2,0)] (.cond (.t 4) (.seq (.reg [] [zO 5 (.mv (.t 0)),zO 6 (.bin .shr (.t 5) (.c (.i .u64 16))),zO 0 (.mv (.t 6))]) (.reg [] [zO 2 (.mv (.c (.i .i64 16)))])) .skip))) (.seq (.seq (.reg [] [zO 7 (.mv (.t 0)),zO 8 (.bin .geq (.t 7) (.c (.i .u32 256)))]) (.join [(0,0),(2,0)] (.cond (.t 8) (.seq (.reg [] [zO 9 (.mv (.t 0)),zO 10 (.bin .shr (.t 9) (.c (.i .u64 8))),zO 0 (.mv (.t 10))]) (.reg [] [zO 11 (.mv (.t 2)),zO 12 (.bin .add (.t 11) (.c (.i .i64 8))),zO 2 (.mv (.t 12))])) .skip))) (.seq (.reg [] [zO 13 (.mv (.t 2)),zO 14 (.mv (.t 0)),zO 15 (.conv .u8 (.t 14)),zO 16 (.sidx (.c (.s len8)) (.t 15)),zO 17 (.conv .i64 (.t 16)),zO 18 (.bin .add (.t 13) (.t 17)),zO 2 (.mv (.t 18))]) .ret))))
def p139 : PF := ⟨[(.tmp 2,0)],[],c139⟩
def b140_0 : PC := (.seq (.reg [] [zO 14 (.bin .lss (.t 13) (.t 12))]) (.seq (.cond (.t 14) .skip (.exit 0)) (.seq (.block 1 (.seq (.reg [] [zO 15 (.mv (.t 13)),zO 9 (.mv (.t 15))]) (.seq (.reg [] [zO 16 (.mv (.t 7)),zO 17 (.mv (.t 2)),zO 18 (.mv (.t 1)),zO 19 (.mv (.t 9)),zO 20 (.call 129 [(.t 18),(.t 19)]),zO 21 (.bin .mul (.t 17) (.t 20)),zO 22 (.bin .add (.t 16) (.t 21)),zO 7 (.mv (.t 22))]) (.seq (.reg [] [zO 23 (.mv (.t 0)),zO 24 (.mv (.t 9)),zO 25 (.idx 1 (.t 23) (.t 24)),zO 26 (.ld false 1 (.t 25)),zO 27 (.bin .add (.c (.i .u64 4294967296)) (.t 26)),zO 28 (.mv (.t 7)),zO 29 (.bin .and (.t 28) (.c (.i .u64 4294967295))),zO 30 (.bin .sub (.t 27) (.t 29)),zO 31 (.mv (.t 8)),zO 32 (.bin .sub (.t 30) (.t 31)),zO 10 (.mv (.t 32))]) (.seq (.reg [] [zO 33 (.mv (.t 0)),zO 34 (.mv (.t 9)),zO 35 (.mv (.t 10)),zO 36 (.bin .and (.t 35) (.c (.i .u64 4294967295))),zO 37 (.idx 1 (.t 33) (.t 34)),⟨none,.st 1 (.t 37) (.t 36),none⟩]) (.seq (.reg [] [zO 38 (.mv (.t 10)),zO 39 (.bin .shr (.t 38) (.c (.i .u64 32))),zO 40 (.bin .sub (.c (.i .u64 1)) (.t 39)),zO 8 (.mv (.t 40))]) (.reg [] [zO 41 (.mv (.t 7)),zO 42 (.bin .shr (.t 41) (.c (.i .u64 32))),zO 7 (.mv (.t 42))]))))))) (.reg [] [zO 43 (.bin .add (.t 13) (.c (.i .i64 1))),zO 13 (.mv (.t 43))]))))
def c140 : PC := (.seq (.reg [] [zO 6 (.mv (.c (.b false)))]) (.seq (.reg [] [zO 7 (.mv (.c (.i .u64 0))),zO 8 (.mv (.c (.i .u64 0)))]) (.seq (.seq (.reg [] [zO 11 (.mv (.t 0)),zO 12 (.len (.t 11)),zO 13 (.mv (.c (.i .i64 0)))]) (.block 0 (.loop [(200000,2),(0,1),(1,0),(2,0),(7,0),(8,0),(12,0),(13,0)] [(200000,2),(0,1),(8,0)] b140_0))) (.seq (.reg [] [zO 44 (.mv (.t 8)),zO 45 (.bin .eql (.t 44) (.c (.i .u64 1))),zO 6 (.mv (.t 45))]) .ret))))
def p140 : PF := ⟨[(.tmp 6,0)],[0],c140⟩
def b141_0 : PC := (.seq (.reg [] [zO 9 (.bin .lss (.t 8) (.t 7))]) (.seq (.cond (.t 9) .skip (.exit 0)) (.seq (.block 1 (.seq (.reg [] [zO 10 (.mv (.t 8)),zO 5 (.mv (.t 10))]) (.seq (.reg [] [zO 11 (.mv (.t 4)),zO 12 (.mv (.t 0)),zO 13 (.mv (.t 5)),zO 14 (.idx 1 (.t 12) (.t 13)),zO 15 (.ld false 1 (.t 14)),zO 16 (.mv (.t 1)),zO 17 (.mv (.t 5)),zO 18 (.call 129 [(.t 16),(.t 17)]),zO 19 (.bin .add (.t 15) (.t 18)),zO 20 (.bin .add (.t 11) (.t 19)),zO 4 (.mv (.t 20))]) (.seq (.reg [] [zO 21 (.mv (.t 0)),zO 22 (.mv (.t 5)),zO 23 (.mv (.t 4)),zO 24 (.bin .and (.t 23) (.c (.i .u64 4294967295))),zO 25 (.idx 1 (.t 21) (.t 22)),⟨none,.st 1 (.t 25) (.t 24),none⟩]) (.reg [] [zO 26 (.mv (.t 4)),zO 27 (.bin .shr (.t 26) (.c (.i .u64 32))),zO 4 (.mv (.t 27))]))))) (.reg [] [zO 28 (.bin .add (.t 8) (.c (.i .i64 1))),zO 8 (.mv (.t 28))]))))
def c141 : PC := (.seq (.reg [] [zO 4 (.mv (.c (.i .u64 0)))]) (.seq (.reg [] [zO 6 (.mv (.t 0)),zO 7 (.len (.t 6)),zO 8 (.mv (.c (.i .i64 0)))]) (.block 0 (.loop [(200000,2),(0,1),(1,0),(4,0),(7,0),(8,0)] [(200000,2),(0,1)] b141_0))))
def p141 : PF := ⟨[],[0],c141⟩
def c162 : PC := (.seq (.reg [] [zO 1 (.box 1 3 (.t 0)),zO 2 (.mv (.c (.i .i64 0)))]) (.seq (.reg [] [zO 3 (.ld true 3 (.t 1)),zO 4 (.call 63 [(.t 3)]),zO 5 (.fpt true 2 0 (.t 4)),zO 6 (.call 83 [(.t 5)]),zO 2 (.mv (.t 6))]) .ret))
def p162 : PF := ⟨[(.tmp 2,0)],[],c162⟩
def b167_0 : PC := (.seq (.seq (.join [(2,1),(3,4),(1,0),(4,0),(19,0)] (.reg [] [zO 11 (.mv (.t 4)),zO 12 (.fld 2 (.t 1)),zO 13 (.ld false 1 (.t 12)),zO 14 (.len (.t 13)),zO 15 (.bin .lss (.t 11) (.t 14)),zO 16 (.mv (.t 15)),⟨some 17,.mv (.t 4),some (16,true)⟩,⟨some 18,.bin .lss (.t 17) (.c (.i .i64 6)),some (16,true)⟩,zO 19 (.pick (.t 16) (.t 18) (.c (.b false)))])) (.cond (.t 19) .skip (.exit 0))) (.seq (.block 1 (.reg [] [zO 22 (.fld 2 (.t 3)),zO 23 (.ld false 1 (.t 22)),zO 24 (.fld 2 (.t 1)),zO 25 (.ld false 1 (.t 24)),zO 26 (.mv (.t 4)),zO 27 (.idx 3 (.t 25) (.t 26)),zO 28 (.ld true 3 (.t 27)),zO 29 (.build [.b false,.b false,.ns 1,.ns 1] [(1,3,(.t 28))]),zO 30 (.bsl 30 4 [.b false,.b false,.ns 1,.ns 1] 1 [(0,(.t 29))]),zO 31 (.call 29 [(.t 30),(.c (.i .i64 1))]),zO 32 (.idx 4 (.t 31) (.c (.i .i64 0))),zO 33 (.fld 1 (.t 32)),zO 34 (.ld true 3 (.t 33)),zO 35 (.bsl 35 3 [.b false,.ns 1,.ns 1] 1 [(0,(.t 34))]),zO 36 (.app 36 3 56 (.t 23) (.t 35)),zO 37 (.fld 2 (.t 3)),⟨none,.st 1 (.t 37) (.t 36),none⟩])) (.reg [] [zO 20 (.mv (.t 4)),zO 21 (.bin .add (.t 20) (.c (.i .i64 1))),zO 4 (.mv (.t 21))])))
def c167 : PC := (.seq (.reg [] [zO 1 (.box 1 3 (.t 0)),zO 2 (.alloc 2 [.i .i64 0,.ns 1,.ns 3])]) (.seq (.reg [] [zO 5 (.fld 0 (.t 1)),zO 6 (.ld false 1 (.t 5)),zO 7 (.fld 1 (.t 1)),zO 8 (.ld false 1 (.t 7)),zO 9 (.call 97 [(.t 8),(.c (.i .i64 6)),(.c (.i .i64 4))]),zO 10 (.build [.i .i64 0,.ns 1,.ns 3] [(0,1,(.t 6)),(1,1,(.t 9))]),zO 3 (.alloc 3 [.i .i64 0,.ns 1,.ns 3]),⟨none,.st 3 (.t 3) (.t 10),none⟩]) (.seq (.seq (.reg [] [zO 4 (.mv (.c (.i .i64 0)))]) (.block 0 (.loop [(2,1),(3,4),(1,0),(4,0)] [(2,1),(3,0)] b167_0))) (.seq (.reg [] [zO 38 (.ld true 3 (.t 3)),⟨none,.st 3 (.t 2) (.t 38),none⟩]) .ret))))
def p167 : PF := ⟨[(.cell 2 true 3,0)],[],c167⟩
def b168_0 : PC := (.seq (.reg [] [zO 53 (.bin .lss (.t 52) (.t 51))]) (.seq (.cond (.t 53) .skip (.exit 1)) (.seq (.block 2 (.seq (.reg [] [zO 54 (.idx 1 (.t 50) (.t 52)),zO 55 (.ld false 1 (.t 54)),zO 6 (.mv (.t 55))]) (.seq (.reg [] [zO 56 (.mv (.t 6)),zO 57 (.len (.t 56)),zO 58 (.fld 0 (.t 2)),zO 59 (.ld false 1 (.t 58)),zO 60 (.bin .neq (.t 57) (.t 59))]) (.cond (.t 60) (.seq (.reg [] [zO 4 (.mv (.c (.i .i64 14)))]) .ret) .skip)))) (.reg [] [zO 61 (.bin .add (.t 52) (.c (.i .i64 1))),zO 52 (.mv (.t 61))]))))
def c168 : PC := (.seq (.reg [] [zO 2 (.box 2 3 (.t 0)),zO 3 (.box 3 2 (.t 1)),zO 4 (.mv (.c (.i .i64 0)))]) (.seq (.block 0 (.seq (.join [(2,0),(7,0)] (.reg [] [zO 8 (.fld 0 (.t 2)),zO 9 (.ld false 1 (.t 8)),zO 10 (.bin .lss (.t 9) (.c (.i .i64 0))),zO 11 (.mv (.t 10)),⟨some 12,.fld 0 (.t 2),some (11,false)⟩,⟨some 13,.ld false 1 (.t 12),some (11,false)⟩,⟨some 14,.bin .gtr (.t 13) (.c (.i .i64 64)),some (11,false)⟩,zO 15 (.pick (.t 11) (.c (.b true)) (.t 14)),zO 16 (.mv (.t 15)),⟨some 17,.fld 0 (.t 3),some (16,false)⟩,⟨some 18,.ld false 1 (.t 17),some (16,false)⟩,⟨some 19,.bin .lss (.t 18) (.c (.i .i64 0)),some (16,false)⟩,zO 20 (.pick (.t 16) (.c (.b true)) (.t 19)),zO 21 (.mv (.t 20)),⟨some 22,.fld 0 (.t 3),some (21,false)⟩,⟨some 23,.ld false 1 (.t 22),some (21,false)⟩,⟨some 24,.bin .gtr (.t 23) (.c (.i .i64 7)),some (21,false)⟩,zO 25 (.pick (.t 21) (.c (.b true)) (.t 24)),zO 26 (.mv (.t 25)),⟨some 27,.fld 1 (.t 3),some (26,false)⟩,⟨some 28,.ld false 1 (.t 27),some (26,false)⟩,⟨some 29,.bin .lss (.t 28) (.c (.i .i64 1)),some (26,false)⟩,zO 30 (.pick (.t 26) (.c (.b true)) (.t 29)),zO 7 (.mv (.t 30))])) (.cond (.t 7) (.seq (.reg [] [zO 4 (.mv (.c (.i .i64 8)))]) .ret) (.seq (.reg [] [zO 32 (.fld 1 (.t 2)),zO 33 (.ld false 1 (.t 32)),zO 34 (.len (.t 33)),zO 35 (.fld 2 (.t 2)),zO 36 (.ld false 1 (.t 35)),zO 37 (.len (.t 36)),zO 38 (.bin .neq (.t 34) (.t 37)),zO 31 (.mv (.t 38))]) (.cond (.t 31) (.seq (.reg [] [zO 4 (.mv (.c (.i .i64 14)))]) .ret) (.seq (.reg [] [zO 40 (.fld 1 (.t 2)),zO 41 (.ld false 1 (.t 40)),zO 42 (.len (.t 41)),zO 43 (.bin .eql (.t 42) (.c (.i .i64 0))),zO 39 (.mv (.t 43))]) (.cond (.t 39) (.seq (.reg [] [zO 4 (.mv (.c (.i .i64 15)))]) .ret) (.seq (.reg [] [zO 45 (.fld 1 (.t 2)),zO 46 (.ld false 1 (.t 45)),zO 47 (.len (.t 46)),zO 48 (.bin .gtr (.t 47) (.c (.i .i64 1000))),zO 44 (.mv (.t 48))]) (.cond (.t 44) (.seq (.reg [] [zO 4 (.mv (.c (.i .i64 16)))]) .ret) .skip))))))))) (.seq (.seq (.reg [] [zO 49 (.fld 1 (.t 2)),zO 50 (.ld false 1 (.t 49)),zO 51 (.len (.t 50)),zO 52 (.mv (.c (.i .i64 0)))]) (.block 1 (.loop [(2,0),(50,0),(51,0),(52,0)] [(4,0)] b168_0))) (.seq (.reg [] [zO 4 (.mv (.c (.i .i64 0)))]) .ret))))
def p168 : PF := ⟨[(.tmp 4,0)],[],c168⟩
def b169_0 : PC := (.seq (.seq (.reg [] [zO 40 (.mv (.t 5)),zO 41 (.fld 1 (.t 2)),zO 42 (.ld false 1 (.t 41)),zO 43 (.len (.t 42)),zO 44 (.bin .lss (.t 40) (.t 43))]) (.cond (.t 44) .skip (.exit 0))) (.seq (.block 1 (.seq (.reg [] [zO 47 (.fld 1 (.t 2)),zO 48 (.ld false 1 (.t 47)),zO 49 (.mv (.t 5)),zO 50 (.idx 1 (.t 48) (.t 49)),zO 51 (.ld false 1 (.t 50)),zO 52 (.len (.t 51)),zO 53 (.fld 0 (.t 2)),zO 54 (.ld false 1 (.t 53)),zO 55 (.bin .neq (.t 52) (.t 54))]) (.cond (.t 55) (.seq (.reg [] [zO 4 (.mv (.c (.i .i64 14)))]) .ret) .skip))) (.reg [] [zO 45 (.mv (.t 5)),zO 46 (.bin .add (.t 45) (.c (.i .i64 1))),zO 5 (.mv (.t 46))])))
def c169 : PC := (.seq (.reg [] [zO 2 (.box 2 3 (.t 0)),zO 3 (.box 3 2 (.t 1)),zO 4 (.mv (.c (.i .i64 0)))]) (.seq (.seq (.join [(2,0),(28,0)] (.reg [] [zO 6 (.fld 0 (.t 2)),zO 7 (.ld false 1 (.t 6)),zO 8 (.bin .lss (.t 7) (.c (.i .i64 0))),zO 9 (.mv (.t 8)),⟨some 10,.fld 0 (.t 2),some (9,false)⟩,⟨some 11,.ld false 1 (.t 10),some (9,false)⟩,⟨some 12,.bin .gtr (.t 11) (.c (.i .i64 64)),some (9,false)⟩,zO 13 (.pick (.t 9) (.c (.b true)) (.t 12)),zO 14 (.mv (.t 13)),⟨some 15,.fld 0 (.t 3),some (14,false)⟩,⟨some 16,.ld false 1 (.t 15),some (14,false)⟩,⟨some 17,.bin .lss (.t 16) (.c (.i .i64 0)),some (14,false)⟩,zO 18 (.pick (.t 14) (.c (.b true)) (.t 17)),zO 19 (.mv (.t 18)),⟨some 20,.fld 0 (.t 3),some (19,false)⟩,⟨some 21,.ld false 1 (.t 20),some (19,false)⟩,⟨some 22,.bin .gtr (.t 21) (.c (.i .i64 7)),some (19,false)⟩,zO 23 (.pick (.t 19) (.c (.b true)) (.t 22)),zO 24 (.mv (.t 23)),⟨some 25,.fld 1 (.t 3),some (24,false)⟩,⟨some 26,.ld false 1 (.t 25),some (24,false)⟩,⟨some 27,.bin .lss (.t 26) (.c (.i .i64 1)),some (24,false)⟩,zO 28 (.pick (.t 24) (.c (.b true)) (.t 27))])) (.cond (.t 28) (.seq (.reg [] [zO 4 (.mv (.c (.i .i64 8)))]) .ret) .skip)) (.seq (.seq (.reg [] [zO 29 (.fld 1 (.t 2)),zO 30 (.ld false 1 (.t 29)),zO 31 (.len (.t 30)),zO 32 (.fld 2 (.t 2)),zO 33 (.ld false 1 (.t 32)),zO 34 (.len (.t 33)),zO 35 (.bin .neq (.t 31) (.t 34))]) (.cond (.t 35) (.seq (.reg [] [zO 4 (.mv (.c (.i .i64 14)))]) .ret) .skip)) (.seq (.seq (.reg [] [zO 36 (.fld 1 (.t 2)),zO 37 (.ld false 1 (.t 36)),zO 38 (.len (.t 37)),zO 39 (.bin .eql (.t 38) (.c (.i .i64 0)))]) (.cond (.t 39) (.seq (.reg [] [zO 4 (.mv (.c (.i .i64 15)))]) .ret) .skip)) (.seq (.seq (.reg [] [zO 5 (.mv (.c (.i .i64 0)))]) (.block 0 (.loop [(2,0),(5,0)] [(4,0)] b169_0))) (.seq (.reg [] [zO 4 (.mv (.c (.i .i64 0)))]) .ret))))))
def p169 : PF := ⟨[(.tmp 4,0)],[],c169⟩
def c170 : PC := (.seq (.reg [] [zO 0 (.mv (.c (.b false)))]) (.seq (.reg [] [zO 4 (.call 68 [(.c (.i .i64 1))]),zO 5 (.build [.b false,.b false,.ns 1,.ns 1] [(1,3,(.t 4))]),zO 6 (.bsl 6 4 [.b false,.b false,.ns 1,.ns 1] 1 [(0,(.t 5))]),zO 7 (.call 68 [(.c (.i .i64 2))]),zO 8 (.build [.b false,.b false,.ns 1,.ns 1] [(1,3,(.t 7))]),zO 9 (.bsl 9 4 [.b false,.b false,.ns 1,.ns 1] 1 [(0,(.t 8))]),zO 10 (.bsl 10 1 [.ns 4] 2 [(0,(.t 6)),(1,(.t 9))]),zO 11 (.call 68 [(.c (.i .i64 0))]),zO 12 (.call 68 [(.c (.i .i64 1))]),zO 13 (.bsl 13 3 [.b false,.ns 1,.ns 1] 2 [(0,(.t 11)),(1,(.t 12))]),zO 14 (.build [.i .i64 0,.ns 1,.ns 3] [(0,1,(.c (.i .i64 1))),(1,1,(.t 10)),(2,1,(.t 13))]),zO 1 (.alloc 1 [.i .i64 0,.ns 1,.ns 3]),⟨none,.st 3 (.t 1) (.t 14),none⟩]) (.seq (.reg [] [zO 16 (.ld true 3 (.t 1)),zO 17 (.build [.i .i64 0,.i .i64 0] [(0,1,(.c (.i .i64 2))),(1,1,(.c (.i .i64 1)))]),zO 18 (.callo 214 [(.t 16),(.t 17)] 18),zO 15 (.mv (.t 18)),zO 19 (.ext 0 (.t 15)),zO 20 (.ext 1 (.t 15)),zO 2 (.mv (.t 19)),zO 3 (.mv (.t 20))]) (.seq (.join [(0,0)] (.reg [] [zO 21 (.mv (.t 3)),zO 22 (.bin .eql (.t 21) (.c (.i .i64 0))),zO 23 (.mv (.t 22)),⟨some 24,.mv (.t 2),some (23,true)⟩,⟨some 25,.len (.t 24),some (23,true)⟩,⟨some 26,.bin .eql (.t 25) (.c (.i .i64 3)),some (23,true)⟩,zO 27 (.pick (.t 23) (.t 26) (.c (.b false))),zO 28 (.mv (.t 27)),⟨some 29,.mv (.t 2),some (28,true)⟩,⟨some 30,.idx 14 (.t 29) (.c (.i .i64 0)),some (28,true)⟩,⟨some 31,.fld 2 (.t 30),some (28,true)⟩,⟨some 32,.ld true 3 (.t 31),some (28,true)⟩,⟨some 33,.call 68 [(.c (.i .i64 2))],some (28,true)⟩,⟨some 34,.call 57 [(.t 32),(.t 33)],some (28,true)⟩,zO 35 (.pick (.t 28) (.t 34) (.c (.b false))),zO 36 (.mv (.t 35)),⟨some 37,.mv (.t 2),some (36,true)⟩,⟨some 38,.idx 14 (.t 37) (.c (.i .i64 1)),some (36,true)⟩,⟨some 39,.fld 8 (.t 38),some (36,true)⟩,⟨some 40,.ld true 3 (.t 39),some (36,true)⟩,⟨some 41,.call 162 [(.t 40)],some (36,true)⟩,⟨some 42,.bin .eql (.t 41) (.c (.i .i64 0)),some (36,true)⟩,zO 43 (.pick (.t 36) (.t 42) (.c (.b false))),zO 44 (.mv (.t 43)),⟨some 45,.mv (.t 2),some (44,true)⟩,⟨some 46,.idx 14 (.t 45) (.c (.i .i64 2)),some (44,true)⟩,⟨some 47,.fld 8 (.t 46),some (44,true)⟩,⟨some 48,.ld true 3 (.t 47),some (44,true)⟩,⟨some 49,.call 56 [],some (44,true)⟩,⟨some 50,.call 57 [(.t 48),(.t 49)],some (44,true)⟩,zO 51 (.pick (.t 44) (.t 50) (.c (.b false))),zO 0 (.mv (.t 51))])) .ret))))
def p170 : PF := ⟨[(.tmp 0,0)],[],c170⟩
def c171 : PC := (.seq (.reg [] [zO 2 (.box 2 3 (.t 0)),zO 3 (.box 3 3 (.t 1)),zO 4 (.mv (.c (.b false)))]) (.seq (.reg [] [zO 5 (.ld true 3 (.t 2)),zO 6 (.ld true 3 (.t 3)),zO 7 (.call 216 [(.t 6)]),zO 8 (.call 215 [(.t 5),(.t 7)]),zO 4 (.mv (.t 8))]) .ret))
def p171 : PF := ⟨[(.tmp 4,0)],[],c171⟩
def b173_0 : PC := (.seq (.seq (.reg [] [zO 13 (.mv (.t 7)),zO 14 (.mv (.t 1)),zO 15 (.len (.t 14)),zO 16 (.bin .lss (.t 13) (.t 15))]) (.cond (.t 16) .skip (.exit 0))) (.seq (.block 1 (.seq (.reg [] [zO 19 (.fld 2 (.t 2)),zO 20 (.ld false 1 (.t 19)),zO 21 (.mv (.t 1)),zO 22 (.mv (.t 7)),zO 23 (.idx 1 (.t 21) (.t 22)),zO 24 (.ld false 1 (.t 23)),zO 25 (.idx 3 (.t 20) (.t 24)),zO 26 (.ld true 3 (.t 25)),zO 27 (.ld true 3 (.t 5)),zO 28 (.call 55 [(.t 26),(.t 27)]),zO 8 (.alloc 8 [.b false,.ns 1,.ns 1]),⟨none,.st 3 (.t 8) (.t 28),none⟩]) (.reg [] [zO 29 (.ld true 3 (.t 6)),zO 30 (.ld true 3 (.t 8)),zO 31 (.ld true 3 (.t 8)),zO 32 (.call 94 [(.t 30),(.t 31)]),zO 33 (.call 31 [(.t 29),(.t 32)]),⟨none,.st 3 (.t 6) (.t 33),none⟩]))) (.reg [] [zO 17 (.mv (.t 7)),zO 18 (.bin .add (.t 17) (.c (.i .i64 1))),zO 7 (.mv (.t 18))])))
def c173 : PC := (.seq (.reg [] [zO 2 (.box 2 3 (.t 0)),zO 4 (.alloc 4 [.b false,.ns 1,.ns 1])]) (.seq (.reg [] [zO 9 (.ld true 3 (.t 2)),zO 10 (.mv (.t 1)),zO 11 (.call 219 [(.t 9),(.t 10)]),zO 5 (.alloc 5 [.b false,.ns 1,.ns 1]),⟨none,.st 3 (.t 5) (.t 11),none⟩]) (.seq (.reg [] [zO 12 (.call 54 []),zO 6 (.alloc 6 [.b false,.ns 1,.ns 1]),⟨none,.st 3 (.t 6) (.t 12),none⟩]) (.seq (.seq (.reg [] [zO 7 (.mv (.c (.i .i64 0)))]) (.block 0 (.loop [(4,1),(6,1),(1,0),(2,0),(5,0),(7,0)] [(4,1),(6,0)] b173_0))) (.seq (.reg [] [zO 34 (.ld true 3 (.t 6)),⟨none,.st 3 (.t 4) (.t 34),none⟩]) .ret)))))
def p173 : PF := ⟨[(.cell 4 true 3,0)],[],c173⟩
def b201_0 : PC := (.seq (.seq (.reg [] [zO 9 (.mv (.t 6)),zO 10 (.fld 1 (.t 2)),zO 11 (.ld false 1 (.t 10)),zO 12 (.len (.t 11)),zO 13 (.bin .lss (.t 9) (.t 12))]) (.cond (.t 13) .skip (.exit 0))) (.seq (.block 1 (.seq (.reg [] [zO 16 (.fld 1 (.t 2)),zO 17 (.ld false 1 (.t 16)),zO 18 (.mv (.t 6)),zO 19 (.idx 1 (.t 17) (.t 18)),zO 20 (.ld false 1 (.t 19)),zO 21 (.mv (.t 1)),zO 22 (.call 206 [(.t 20),(.c (.i .i64 0)),(.t 21)]),zO 7 (.mv (.t 22))]) (.reg [] [zO 23 (.ld true 3 (.t 5)),zO 24 (.fld 1 (.t 2)),zO 25 (.ld false 1 (.t 24)),zO 26 (.mv (.t 6)),zO 27 (.idx 1 (.t 25) (.t 26)),zO 28 (.ld false 1 (.t 27)),zO 29 (.mv (.t 7)),zO 30 (.mv (.t 7)),zO 31 (.len (.t 30)),zO 32 (.bin .sub (.t 31) (.c (.i .i64 1))),zO 33 (.idx 1 (.t 29) (.t 32)),zO 34 (.ld false 1 (.t 33)),zO 35 (.idx 14 (.t 28) (.t 34)),zO 36 (.fld 8 (.t 35)),zO 37 (.ld true 3 (.t 36)),zO 38 (.call 31 [(.t 23),(.t 37)]),⟨none,.st 3 (.t 5) (.t 38),none⟩]))) (.reg [] [zO 14 (.mv (.t 6)),zO 15 (.bin .add (.t 14) (.c (.i .i64 1))),zO 6 (.mv (.t 15))])))
def c201 : PC := (.seq (.reg [] [zO 2 (.box 2 2 (.t 0)),zO 4 (.alloc 4 [.b false,.ns 1,.ns 1])]) (.seq (.reg [] [zO 8 (.call 54 []),zO 5 (.alloc 5 [.b false,.ns 1,.ns 1]),⟨none,.st 3 (.t 5) (.t 8),none⟩]) (.seq (.seq (.reg [] [zO 6 (.mv (.c (.i .i64 0)))]) (.block 0 (.loop [(4,1),(5,1),(1,0),(2,0),(6,0)] [(4,1),(5,0)] b201_0))) (.seq (.reg [] [zO 39 (.ld true 3 (.t 5)),⟨none,.st 3 (.t 4) (.t 39),none⟩]) .ret))))
def p201 : PF := ⟨[(.cell 4 true 3,0)],[],c201⟩
def c206 : PC := (.seq (.reg [] [zO 6 (.mv (.c (.ns 1)))]) (.seq (.reg [] [zO 8 (.mv (.t 0)),zO 9 (.mv (.t 1)),zO 10 (.idx 14 (.t 8) (.t 9)),zO 11 (.ld true 14 (.t 10)),zO 7 (.alloc 7 [.b false,.i .i64 0,.b false,.ns 1,.ns 1,.i .i64 0,.i .i64 0,.b false,.b false,.ns 1,.ns 1,.b false,.ns 1,.ns 1]),⟨none,.st 14 (.t 7) (.t 11),none⟩]) (.seq (.seq (.reg [] [zO 12 (.fld 0 (.t 7)),zO 13 (.ld false 1 (.t 12))]) (.cond (.t 13) (.seq (.reg [] [zO 14 (.mv (.t 1)),zO 15 (.bsl 15 1 [.i .i64 0] 1 [(0,(.t 14))]),zO 6 (.mv (.t 15))]) .ret) .skip)) (.seq (.seq (.reg [] [zO 16 (.ld true 14 (.t 7)),zO 17 (.mv (.t 2)),zO 18 (.fld 1 (.t 7)),zO 19 (.ld false 1 (.t 18)),zO 20 (.idx 4 (.t 17) (.t 19)),zO 21 (.ld true 4 (.t 20)),zO 22 (.call 231 [(.t 16),(.t 21)])]) (.cond (.t 22) (.seq (.reg [] [zO 23 (.mv (.t 1)),zO 24 (.bsl 24 1 [.i .i64 0] 1 [(0,(.t 23))]),zO 25 (.mv (.t 0)),zO 26 (.fld 5 (.t 7)),zO 27 (.ld false 1 (.t 26)),zO 28 (.mv (.t 2)),zO 29 (.call 206 [(.t 25),(.t 27),(.t 28)]),zO 30 (.app 30 1 8 (.t 24) (.t 29)),zO 6 (.mv (.t 30))]) .ret) .skip)) (.seq (.reg [] [zO 31 (.mv (.t 1)),zO 32 (.bsl 32 1 [.i .i64 0] 1 [(0,(.t 31))]),zO 33 (.mv (.t 0)),zO 34 (.fld 6 (.t 7)),zO 35 (.ld false 1 (.t 34)),zO 36 (.mv (.t 2)),zO 37 (.call 206 [(.t 33),(.t 35),(.t 36)]),zO 38 (.app 38 1 8 (.t 32) (.t 37)),zO 6 (.mv (.t 38))]) .ret)))))
def p206 : PF := ⟨[(.tmp 6,0)],[],c206⟩
end Go.Pe
