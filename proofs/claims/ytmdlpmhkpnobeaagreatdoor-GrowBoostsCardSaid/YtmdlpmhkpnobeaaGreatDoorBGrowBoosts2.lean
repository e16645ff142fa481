/- Part 2 of the texts of GrowBoosts: words, the machine's side of functions (written by a program), plain lemmas. -/
import Derived.Test.YtmdlpmhkpnobeaaGreatDoorBGrowBoosts1
import Derived.Laws.StructEq
import Derived.ChangeKeysEq
import Derived.Laws.BytesString
import Derived.Laws.IdiomStrings
import Derived.Orders
set_option linter.unusedVariables false
set_option linter.unusedSimpArgs false
open Nat renaming reduceEqDiff → za, reduceLeDiff → zb, reduceAdd → zd, reduceMul → ze, reduceMod → zf, reduceLT → zj, le_refl → zz, le_trans → zE, mul_le_mul_right → zK, zero_add → zX, add_mul → zZ, lt_of_lt_of_le → je, min_eq_left → jh, lt_or_ge → jl
open Int renaming reduceToNat → zc, reduceSub → zg, reduceNeg → zh, reduceAdd → zi, reduceLT → zk, reduceLE → zm, reduceEq → zn, natCast_nonneg → zq, ofNat_zero → zI, mul_le_mul_of_nonneg_right → zJ, natAbs → zM
open List renaming getD_eq_getElem?_getD → zo, take_of_length_le → zp, getElem?_eq_getElem → zr, take_length → zt, length_append → zx, length_map → zC, length_take → zD, length_cons → zF, mem_cons_self → zG, mem_cons_of_mem → zH, replicate → zL, length_replicate → zP, take → zQ, map_nil → zR, range → zT, length_set → zU, drop_of_length_le → zW, not_mem_nil → zY, mem_singleton → ja, map_append → jb, getElem?_append_right → jc, length_drop → jd, getElem?_eq_none → jf, length_singleton → jg, take_zero → jk
open Bool renaming and_eq_true → zu, false_eq_true → ji
open Option renaming map_eq_some_iff → zw, bind_eq_some_iff → zy, bind_some → zN, map_some → jj
open Rat renaming num → zV
open Go
namespace Go.Pe
def oneR (vs : Array Value) : Value := if h : vs.size = 1 then vs[0] else .tuple vs
def CallOk (P : Program) (f : Nat) (res : List (PR × Nat)) (lent : List Nat) (tabs : List (Nat × List AV)) (xs : List AV) (r : AV) : Prop :=
 ∀ (fr : Fr) (ρ : Rho) (vs : Array Value),fr.tabs = tabs → fr.lids = lent.map lid → vs.size = xs.length →
  WInv fr fr.w0 fr.T0 ρ (un (parN lent 0 xs) xs).h → Env fr.w0 fr.T0 ρ (un (parN lent 0 xs) xs).env ⟨vs,[]⟩ →
  Calls P f vs fr.w0 fun e w' => ∃ out vals T' ρ',e = .returned (oneR vals) ∧ vals.size = res.length ∧ out.length = (resL res lent).length ∧ r = retV lent out ∧
   WInv fr w' T' ρ' (un (resL res lent) out).h ∧ Env w' T' ρ' (un (resL res lent) out).env ⟨vals,[]⟩ ∧ Flat w' T' (un (resL res lent) out).env ⟨vals,[]⟩
def Shown (st : St) (t : Nat) : AV → Prop
 | .own ap z es => st.env t = .sl (pid t) z 0 es.length ∧ st.h (pid t) = some (.sl ap z es)
 | .ownp cs => st.env t = .p (pid t) 0 0 ∧ st.h (pid t) = some (.st cs)
 | x => st.env t = x
theorem pid_ne {i j : Nat} (h : i ≠ j) : pid i ≠ pid j := by unfold pid; omega
theorem kindL_length : ∀ (res : List (PR × Nat)) (k : Nat),(kindL k res).length = res.length
 | [],_ => rfl
 | _ :: l,k => by simp only [kindL,zF,kindL_length l]
theorem un1_shown (st : St) (t : Nat) (x : AV) : Shown ⟨upd st.env t (un1 st.h (pid t) x).1,(un1 st.h (pid t) x).2⟩ t x := by
 cases x <;> simp [Shown,un1,upd,Heap.put]
theorem un1_other (h : Heap) (q q' : Nat) (x : AV) (hne : q' ≠ q) : (un1 h q x).2 q' = h q' := by
 cases x <;> simp [un1,Heap.put,hne]
theorem unpack_kind' : ∀ (res : List (PR × Nat)) (k : Nat) (out : List AV) (st : St),(∀ x ∈ res,x.2 ≤ 1) → out.length = res.length →
  (∀ j,j < k → (unpack (kindL k res) out st).env j = st.env j) ∧ (∀ q,(∀ j,k ≤ j → j < k + res.length → q ≠ pid j) → (unpack (kindL k res) out st).h q = st.h q) ∧
  ∀ j,j < res.length → Shown (unpack (kindL k res) out st) (k + j) (out.getD j .junk) := by
 intro res
 induction res with
 | nil =>
  intro k out st _ hl
  cases out with
  | nil => exact ⟨fun _ _ => rfl,fun _ _ => rfl,fun j hj => by cases hj⟩
  | cons => cases hl
 | cons x res ih =>
  intro k out st hk hl
  cases out with
  | nil => cases hl
  | cons y out =>
   obtain ⟨pr,q⟩ := x
   have hq := hk (pr,q) zG
   have hun : unpack (kindL k ((pr,q) :: res)) (y :: out) st = unpack (kindL (k + 1) res) out ⟨upd st.env k (un1 st.h (pid k) y).1,(un1 st.h (pid k) y).2⟩ := by
    match q,hq with
    | 0,_ => rfl
    | 1,_ => rfl
   obtain ⟨h1,h2,h3⟩ := ih (k + 1) out ⟨upd st.env k (un1 st.h (pid k) y).1,(un1 st.h (pid k) y).2⟩ (fun x hx => hk x (zH _ hx)) (by simpa using hl)
   rw [hun]
   refine ⟨fun j hj => ?_,fun q hq => ?_,fun j hj => ?_⟩
   ·rw [h1 j (by omega)]
    simp only [upd]
    rw [if_neg (by omega)]
   ·rw [h2 q fun j hj hj2 => hq j (by omega) (by simp only [zF]; omega)]
    exact un1_other _ _ _ _ (hq k (zz _) (by simp only [zF]; omega))
   ·cases j with
    | zero =>
     have hs := un1_shown st k y
     have e1 := h1 k (by omega)
     have e2 := h2 (pid k) fun j hj _ => pid_ne (by omega)
     show Shown _ (k + 0) y
     rw [Nat.add_zero]
     cases y <;> simp only [Shown] at hs ⊢ <;> first
      | exact ⟨e1.trans hs.1,e2.trans hs.2⟩
      | exact e1.trans hs
    | succ j =>
     have := h3 j (by simpa using hj)
     rw [show k + (j + 1) = k + 1 + j by omega]
     exact this
theorem parN_nil : ∀ (xs : List AV) (k : Nat) (st : St) (hx : ∀ x ∈ xs,∀ g q,un1 g q x = (x,g)),
  (unpack (parN [] k xs) xs st).h = st.h ∧ (∀ t,t < k ∨ k + xs.length ≤ t → (unpack (parN [] k xs) xs st).env t = st.env t) ∧ ∀ j,j < xs.length → (unpack (parN [] k xs) xs st).env (k + j) = xs.getD j .junk := by
 intro xs
 induction xs with
 | nil => intro k st _; exact ⟨rfl,fun _ _ => rfl,fun j hj => by cases hj⟩
 | cons x xs ih =>
  intro k st hx
  have hun : unpack (parN [] k (x :: xs)) (x :: xs) st = unpack (parN [] (k + 1) xs) xs ⟨upd st.env k x,st.h⟩ := by
   have h1 := hx x zG st.h (pid k)
   show unpack ((k,if k ∈ ([] : List Nat) then 3 else if k + 1000 ∈ ([] : List Nat) then 6 else 0) :: parN [] (k + 1) xs) (x :: xs) st = _
   rw [if_neg (show ¬ k + 1000 ∈ ([] : List Nat) by simp)]
   rw [if_neg (by simp)]
   simp only [unpack,h1]
  rw [hun]
  obtain ⟨h1,h2,h3⟩ := ih (k + 1) ⟨upd st.env k x,st.h⟩ fun x hx' => hx x (zH _ hx')
  refine ⟨h1,fun t ht => ?_,fun j hj => ?_⟩
  ·rw [zF] at ht
   rw [h2 t (by omega)]
   simp only [upd]
   rw [if_neg (by omega)]
  ·cases j with
   | zero =>
    show (unpack (parN [] (k + 1) xs) xs { env := upd st.env k x,h := st.h }).env k = x
    rw [h2 k (by omega)]
    simp [upd]
   | succ j =>
    rw [show k + (j + 1) = k + 1 + j by omega,h3 j (by simpa using hj)]
    rfl
section
variable {P : Program} {f : Fr} {w w' : World} {T T' : Nat → Prop} {ρ ρ' : Rho} {h : Heap} {e : Nat → AV} {a : Act} {o : Oper}
theorem Keeps.old {w w' : World} (h : Keeps (fun _ _ => False) w w') : Old w w' := by
 refine ⟨h.os,h.tape,h.output,h.size,fun b hb => ?_⟩
 have := h.same (T := fun _ => False) fun _ _ _ h => h.elim
 exact this.same b hb fun h => h
theorem demote_rv {av : AV} {v : Value} (k : Rv w T Rho.none av v) : Rv w T Rho.none (demote av) v := by
 cases k with
 | sl hr => cases hr
 | slz hr => cases hr
 | slnil hr => cases hr
 | p hr => cases hr
 | junk => exact .junk
 | b => exact .b
 | i => exact .i
 | s => exact .s
 | np => exact .np
 | ns => exact .ns
 | lnil ha hm => exact .lnil ha hm
 | l g a1 a2 a3 a4 a5 a6 a7 => exact .l g a1 a2 a3 a4 a5 a6 a7
 | tp g a1 a2 a3 a4 => exact .tp g a1 a2 a3 a4
 | agg vs a1 a2 a3 => exact .agg vs a1 a2 a3
 | tup vs a1 a2 => exact .tup vs a1 a2
theorem shown_rv' {fr : Fr} {st : St} (k : WInv fr w' T' ρ' st.h) (he : Env w' T' ρ' st.env a) (hf : Flat w' T' st.env a) (h0 : ∀ b,fr.T0 b → T' b) (hN : ∀ b,fr.N0 b → ¬ fr.T0 b) {t : Nat} {x : AV} (hp : pid t ∉ fr.lids) (hs : Shown st t x) :
  Rv w' fr.T0 Rho.none (demote x) (a.tmps.getD t undef) := by
 have plain : st.env t = x → Rv w' fr.T0 Rho.none (demote x) (a.tmps.getD t undef) := by
  intro hx
  rcases hf t with h1 | h1
  ·rw [hx] at h1
   cases x <;> simp [isRef] at h1 <;> exact .junk
  ·rw [hx] at h1
   exact demote_rv (h1.less fun b _ hb => h0 b hb)
 cases x with
 | own ap z es =>
  obtain ⟨h1,h2⟩ := hs
  have hv := he t
  rw [h1] at hv
  have := tell0_rv (T' := fr.T0) k.rows (fun b _ hb => h0 b hb) hv (fun r hr b hb => by
   simp only [ref0,ja] at hr
   subst hr
   obtain ⟨x,p,base,hx,hlv,hρ,hloc⟩ := hb
   have hge := k.own _ _ _ _ _ hp hx hlv hρ hloc
   exact fun hb => hge.elim (fun hge => by have := k.t0lt b hb; omega) fun hh => hN b hh hb) (by intros; simp) (by intros; simp) (by intros; simp)
  simpa [tell0,h2,Row.win,demote] using this
 | ownp cs => exact .junk
 | junk => exact .junk
 | b | i | s | np | ns | l | tp | sl | p | agg | tup | back => exact plain hs
theorem one_rv {n : Nat} {out : List AV} {vals : Array Value} (hs : vals.size = n) (hol : out.length = n) (each : ∀ j,j < n → Rv w T Rho.none (demote (out.getD j .junk)) (vals.getD j undef)) : Rv w T Rho.none (demoteT (oneV out)) (oneR vals) := by
 by_cases h1 : vals.size = 1
 ·have : n = 1 := by omega
  match out,hol with
  | [x],_ =>
   have := each 0 (by omega)
   show Rv w T Rho.none (demoteT x) (oneR vals)
   have hv : oneR vals = vals.getD 0 undef := by simp [oneR,h1]
   rw [hv]
   have h5 : Rv w T Rho.none (demote x) (vals.getD 0 undef) := this
   by_cases hx : ∃ cs,x = .tup cs
   rotate_left
   ·cases x <;> first
     | exact h5
     | exact absurd ⟨_,rfl⟩ hx
   obtain ⟨cs,rfl⟩ := hx
   have h6 : Rv w T Rho.none (.tup cs) (vals.getD 0 undef) := h5
   generalize vals.getD 0 undef = u at h6
   cases h6 with
   | tup us a1 a2 =>
    refine .tup us (by simpa using a1) fun c hc => ?_
    rw [zC] at hc
    rw [getD_map_lt demote cs c .junk .junk hc]
    exact demote_rv (a2 c hc)
  | [],h => simp at h; omega
  | _ :: _ :: _,h => simp at h; omega
 ·have hv : oneR vals = .tuple vals := by simp [oneR,h1]
  rw [hv]
  have hone : oneV out = .tup out := by
   match out,hol with
   | [],_ => rfl
   | [x],h => simp at h; omega
   | _ :: _ :: _,_ => rfl
  rw [hone]
  refine .tup vals (by simp; omega) fun c hc => ?_
  rw [zC] at hc
  rw [getD_map_lt demote out c .junk .junk hc]
  exact each c (by omega)
theorem init_told (k : WInv f w T ρ h) {xs : List AV} {vs : Array Value} (hl : vs.size = xs.length) (hx : ∀ j,j < xs.length → Rv w T Rho.none (xs.getD j .junk) (vs.getD j undef)) :
  WInv ⟨w,fun _ _ => False,T,[],fun _ => ⟨0,0,none⟩,f.tabs,fun _ => False,fun _ h => (by cases h),fun _ h => h.elim⟩ w T Rho.none (un (parN [] 0 xs) xs).h ∧ Env w T Rho.none (un (parN [] 0 xs) xs).env ⟨vs,[]⟩ := by
 obtain ⟨h1,h2,h3⟩ := parN_nil xs 0 St.none fun x hm g q => by
  obtain ⟨j,hj,rfl⟩ := List.getElem_of_mem hm
  have := un1_rv (hx j hj) g q
  simpa [hj] using this
 refine ⟨?_,fun t => ?_⟩
 ·show WInv _ w T Rho.none (unpack (parN [] 0 xs) xs St.none).h
  rw [h1]
  exact ⟨Keeps.refl _ _,k.tlt,fun _ _ h => (by cases h),fun _ _ => rfl,fun _ _ _ _ _ h => (by cases h),fun _ _ _ _ _ h => (by cases h),fun b hb _ => .inl hb,fun _ h => (by cases h),fun _ _ _ _ _ _ h => (by cases h),k.tlt,fun _ h => (by cases h),k.tab⟩
 ·show Rv w T Rho.none ((unpack (parN [] 0 xs) xs St.none).env t) (vs.getD t undef)
  by_cases ht : t < xs.length
  ·have := h3 t ht
   rw [zX] at this
   rw [this]
   exact hx t ht
  ·rw [h2 t (by omega)]
   exact .junk
theorem call_told (k : WInv f w T ρ h) {g : Nat} {res : List (PR × Nat)} {xs : List AV} {vs : Array Value} {r : AV} (hk : ∀ x ∈ res,x.2 ≤ 1) (hc : CallOk P g res [] f.tabs xs r) (hl : vs.size = xs.length) (hx : ∀ j,j < xs.length → Rv w T Rho.none (xs.getD j .junk) (vs.getD j undef)) :
  Calls P g vs w fun e w' => ∃ v,e = .returned v ∧ Old w w' ∧ Rv w' T Rho.none (demoteT r) v := by
 obtain ⟨h1,h2⟩ := init_told k hl hx
 refine (hc ⟨w,fun _ _ => False,T,[],fun _ => ⟨0,0,none⟩,f.tabs,fun _ => False,fun _ h => (by cases h),fun _ h => h.elim⟩ Rho.none vs rfl rfl hl h1 h2).mono fun e w' he => ?_
 obtain ⟨out,vals,T',ρ',rfl,hs,ho,rfl,k',e',fl⟩ := he
 refine ⟨_,rfl,k'.keeps.old,?_⟩
 have hol : out.length = res.length := by rw [ho]; exact kindL_length res 0
 obtain ⟨_,_,h3⟩ := unpack_kind' res 0 out St.none hk hol
 have h0 : ∀ b,T b → T' b := fun b hb => (k'.t0 b hb id).elim id fun ⟨r,hr,_⟩ => by cases hr
 have each : ∀ j,j < res.length → Rv w' T Rho.none (demote (out.getD j .junk)) (vals.getD j undef) := fun j hj => by
  have := h3 j hj
  rw [zX] at this
  exact shown_rv' (fr := ⟨w,fun _ _ => False,T,[],fun _ => ⟨0,0,none⟩,f.tabs,fun _ => False,fun _ h => (by cases h),fun _ h => h.elim⟩) k' e' fl h0 (fun _ h => h.elim) (by simp) this
 unfold retV
 rw [if_pos rfl]
 exact one_rv hs hol each
theorem flat_rv {av : AV} {v : Value} (hf : av.flat = true) (k : Rv w T ρ av v) : Rv w T' ρ' av v := by
 cases k <;> simp [AV.flat] at hf
 ·exact .b
 ·exact .i
 ·exact .s
theorem scalar_rv {av : AV} {v : Value} (hf : av.scalar = true) (k : Rv w T ρ (demoteT av) v) : Rv w T' ρ' (demoteT av) v := by
 cases av <;> simp [AV.scalar,AV.flat] at hf
 ·exact flat_rv rfl k
 ·exact flat_rv rfl k
 ·exact flat_rv rfl k
 ·rename_i cs
  generalize hd : demoteT (.tup cs) = d at k
  cases k <;> first | (cases hd; done) | skip
  rename_i ds vs a1 a2
  have : cs.map demote = ds := by injection hd
  refine .tup vs a1 fun c hc => flat_rv ?_ (a2 c hc)
  subst this
  rw [zC] at hc
  rw [getD_map_lt demote cs c .junk .junk hc]
  have := hf _ (getD_mem .junk hc)
  generalize cs.getD c .junk = x at this
  cases x <;> simp [AV.flat] at this <;> rfl
def Goes1 (P : Program) (f : Fr) (o : Oper) (a : Act) (w : World) (T : Nat → Prop) (ρ : Rho) (av : AV) (h' : Heap) : Prop :=
 ∀ (K : Act → World → Prop) (Q : Exit → Act → World → Prop),(∀ v w' T' ρ',WInv f w' T' ρ' h' → Goes w w' T T' ρ ρ' → Rv w' T' ρ' av v → K (a.put o.dst v) w') → o.wp P a w K Q
theorem Turns.goes1 {av : AV} {h' : Heap} (t : Turns P f o a w T ρ av h') : Goes1 P f o a w T ρ av h' := by
 intro K Q hK
 obtain ⟨v,w',T',ρ',h1,h2,h3,h4⟩ := t
 unfold Oper.wp
 rcases h1 with h1 | ⟨h1,rfl⟩ <;> rw [h1]
 ·exact hK _ _ _ _ h2 h3 h4
 ·exact hK _ _ _ _ h2 h3 h4
theorem goes1_of_gives {av : AV} {h' : Heap} (k : WInv f w T ρ h) (t : h' = h ∧ ∃ v,Gives P o a w v ∧ Rv w T ρ av v) : Goes1 P f o a w T ρ av h' := by
 intro K Q hK
 obtain ⟨rfl,v,h1,h2⟩ := t
 unfold Oper.wp
 rw [h1]
 exact hK _ _ _ _ k (Goes.refl _ _ _) h2
def mas (tabs : List (Nat × List AV)) : List Operand → List At → Bool
 | [],[] => true
 | x :: xs,y :: ys => ma tabs x y && mas tabs xs ys
 | _,_ => false
theorem mas_rv (k : WInv f w T ρ h) (he : Env w T ρ e a) : ∀ {xs : List Operand} {ys : List At},mas f.tabs xs ys = true → xs.length = ys.length ∧ ∀ j,j < ys.length → Rv w T ρ ((ys.map (At.ev e)).getD j .junk) ((xs.map a.eval).getD j undef) := by
 intro xs
 induction xs with
 | nil => intro ys hm; cases ys with
  | nil => exact ⟨rfl,fun j hj => by cases hj⟩
  | cons => cases hm
 | cons x xs ih =>
  intro ys hm
  cases ys with
  | nil => cases hm
  | cons y ys =>
   simp only [mas,zu] at hm
   obtain ⟨h1,h2⟩ := ih hm.2
   refine ⟨by simp [h1],fun j hj => ?_⟩
   cases j with
   | zero => exact ma_rv k he hm.1
   | succ j => exact h2 j (by simpa using hj)
def arOf (P : Program) (g : Nat) : Nat := match P.funcs[g]? with
 | some fn => fn.params.size
 | none => 0
def bodied (P : Program) (g : Nat) : Bool := match P.funcs[g]? with
 | some fn => fn.body.isSome && !(fn.name == "runtime.NumGoroutine")
 | none => false
theorem run_callFunc {g : Nat} (hb : bodied P g = true) (args : Array Value) : (callFunc g args).run P w = .ok (.enter g args) w := by
 unfold bodied at hb
 cases hf : P.funcs[g]? with
 | none => rw [hf] at hb; cases hb
 | some fn =>
  rw [hf] at hb
  simp only [zu,Bool.not_eq_true'] at hb
  obtain ⟨h1,h2⟩ := hb
  have h3 : fn.body.isNone = false := by cases hx : fn.body <;> simp_all
  have h4 : ¬ fn.name = "runtime.NumGoroutine" := by simpa using h2
  have h5 : ¬ fn.body = none := by intro hn; rw [hn] at h1; cases h1
  simp [callFunc,hf,h4,h5]
theorem op_call (k : WInv f w T ρ h) (he : Env w T ρ e a) {c : Go.Call} {g g' : Nat} {ys : List At} {res : List (PR × Nat)} {av : AV} {h' : Heap} (call : Call) (ho : o.op = .call c) (hcal : c.callee = .value (.func g')) (hm : mas f.tabs c.args.toList ys = true) (hb : bodied P g' = true)
  (hk : ∀ x ∈ res,x.2 ≤ 1) (hc : ∀ xs r,xs.length = ys.length → call g xs = some r → CallOk P g' res [] f.tabs xs r) (hv : PO.ev call (.call g ys) e h = some (av,h')) : Goes1 P f o a w T ρ av h' := by
 simp only [PO.ev,callV,zw] at hv
 obtain ⟨r,hr,hv⟩ := hv
 obtain ⟨hlen,hrv⟩ := mas_rv k he hm
 obtain ⟨T1,k1,g1,hfree,_⟩ := k.freeze ((ys.map (At.ev e)).flatMap (ref h))
 have hrun : (execOp a.eval o).run P w = .ok (.enter g' (c.args.map a.eval)) w := by
  simp [execOp,ho,resolve,hcal,Act.eval,Deferred.ofValue,invoke,run_callFunc hb]
 have hcalls := call_told k1 (vs := c.args.map a.eval) hk (hc _ _ (by simp) hr) (by simp [← hlen]) fun j hj => by
  simp only [zC] at hj
  have h1 := hrv j hj
  rw [getD_map_lt (tell h) _ j .junk .junk (by simpa using hj)]
  have h2 : (c.args.map a.eval).getD j undef = (c.args.toList.map a.eval).getD j undef := by simp [zo]
  rw [h2]
  exact tell_rv k.rows g1.less h1 fun r hr' b hb => hfree r (List.mem_flatMap.2 ⟨_,getD_mem .junk (by simpa using hj),hr'⟩) b hb
 intro K Q hK
 unfold Oper.wp
 rw [hrun]
 refine hcalls.mono fun e w' hw => ?_
 obtain ⟨v,rfl,hold,hrv'⟩ := hw
 show K (a.put o.dst v) w'
 split at hv
 ·rename_i hs
  cases hv
  exact hK v w' T ρ (k.old hold) (Goes.old hold) (scalar_rv hs hrv')
 ·cases hv
  exact hK v w' T1 ρ (k1.old hold) (g1.trans (Goes.old hold)) hrv'.any
end
theorem Keeps.other {w w' : World} {b : Nat} {Wb : Nat → Prop} (h : Keeps (fun b' i => b' = b ∧ Wb i) w w') {c : Nat} (hc : c < w.heap.size) (hne : c ≠ b) : w'.heap[c]? = w.heap[c]? := by
 rcases h.block c hc with h1 | ⟨d,d',e,fr,h1,h2,h3,h4⟩
 ·exact h1
 ·rw [h1,h2]
  have : d' = d := by
   apply Array.ext_getElem?
   intro o
   exact h4 o fun hw => hne hw.1
  rw [this]
section
variable {P : Program} {f : Fr} {w w' : World} {T T' : Nat → Prop} {ρ ρ' : Rho} {h : Heap} {e : Nat → AV} {a : Act} {o : Oper}
theorem WInv.rewriteK (k : WInv f w T ρ h) {r : Nat} {x : Row} {p : Pl} {b base : Nat} (hr : h r = some x) (hl : x.live = true) (hp : ρ r = some p) (hloc : p.loc = some (b,base)) {w' : World} {Wb : Nat → Prop} (hw : Keeps (fun b' i => b' = b ∧ Wb i) w w') (hWb : f.w0.heap.size ≤ b ∨ ∀ i,Wb i → f.W0 b i)
  {x' : Row} (hx' : RowOk w' T ρ r x') (hap : x'.isAp = true → x.isAp = true) : WInv f w' T ρ (h.put r x') ∧ Goes w w' T T ρ ρ := by
 have hT : T b := (k.rows r x hr).inT hl p b base hp hloc
 have hs : Same T w w' := hw.same fun b' o _ hh => by rw [hh.1]; exact hT
 have old : ∀ q y,(h.put r x') q = some y → (q = r ∧ y = x') ∨ (q ≠ r ∧ h q = some y) := by
  intro q y hy
  simp only [Heap.put] at hy
  split at hy
  ·rename_i e; cases hy; exact .inl ⟨e,rfl⟩
  ·rename_i e; exact .inr ⟨e,hy⟩
 have live : ∀ q y,(h.put r x') q = some y → y.live = true → ∃ z,h q = some z ∧ z.live = true ∧ (y.isAp = true → z.isAp = true) := by
  intro q y hy hyl
  rcases old q y hy with ⟨rfl,rfl⟩ | ⟨_,hq⟩
  ·exact ⟨x,hr,hl,hap⟩
  ·exact ⟨y,hq,hyl,fun h => h⟩
 refine ⟨⟨k.keeps.trans hw fun b' i hb hh => ?_,fun b' hb => je (k.tlt b' hb) hw.size,fun q y hy => ?_,fun q hq => ?_,fun q q' y y' hne hy hy' hyl hyl' pp pp' c cb c' cb' hpp hpp' hc hc' => ?_,fun q y pp c cb hy hyl hpp hc => ?_,fun b' hb hn => ?_,k.lp,fun q y pp c cb hq hy hyl hpp hc => ?_,k.t0lt,fun q hq y hy => ?_,fun pp hpp => (k.tab pp hpp).mono hs (fun _ _ h => h) fun _ _ h => h⟩,hs,fun _ _ h => h,fun _ _ h => h⟩
 ·obtain ⟨rfl,hi⟩ := hh
  rcases hWb with h1 | h1
  ·omega
  ·exact h1 i hi
 ·rcases old q y hy with ⟨rfl,rfl⟩ | ⟨hne,hq⟩
  ·exact hx'
  ·refine (k.rows q y hq).mono hs (fun _ _ h => h) (fun _ _ h => h) fun pp c cb hpp hc hyl => ⟨hw.other (k.tlt c ((k.rows q y hq).inT hyl pp c cb hpp hc)) ?_,(k.rows q y hq).inT hyl pp c cb hpp hc⟩
   exact k.sep q r y x hne hq hr hyl hl pp p c cb b base hpp hp hc hloc
 ·simp only [Heap.put] at hq
  split at hq
  ·cases hq
  ·exact k.dom q hq
 ·obtain ⟨z,hz,hzl,_⟩ := live q y hy hyl
  obtain ⟨z',hz',hzl',_⟩ := live q' y' hy' hyl'
  exact k.sep q q' z z' hne hz hz' hzl hzl' pp pp' c cb c' cb' hpp hpp' hc hc'
 ·obtain ⟨z,hz,hzl,hza⟩ := live q y hy hyl
  rcases k.wr q z pp c cb hz hzl hpp hc with h1 | ⟨h1,h2⟩
  ·exact .inl h1
  ·exact .inr ⟨h1,fun hh => h2 (hza hh)⟩
 ·rcases k.t0 b' hb hn with h1 | ⟨q,hq,hx⟩
  ·exact .inl h1
  ·refine .inr ⟨q,hq,fun y hy => ?_⟩
   rcases old q y hy with ⟨rfl,rfl⟩ | ⟨_,hq'⟩
   ·exact absurd (hx x hr) (by rw [hl]; simp)
   ·exact hx y hq'
 ·obtain ⟨z,hz,hzl,_⟩ := live q y hy hyl
  exact k.own q z pp c cb hq hz hzl hpp hc
 ·rcases old q y hy with ⟨rfl,rfl⟩ | ⟨_,hq'⟩
  ·have := k.la q hq x hr
   cases hxa : y.isAp with
   | false => rfl
   | true => rw [hap hxa] at this; cases this
  ·exact k.la q hq y hq'
theorem parN_one {li : Nat} (hli : li < 1000) : ∀ (xs : List AV) (k : Nat) (st : St),(∀ j,j < xs.length → k + j ≠ li → ∀ g q,un1 g q (xs.getD j .junk) = (xs.getD j .junk,g)) →
  (unpack (parN [li] k xs) xs st).h = (if k ≤ li ∧ li < k + xs.length then (un1 st.h (lid li) (xs.getD (li - k) .junk)).2 else st.h) ∧
  (∀ t,t < k ∨ k + xs.length ≤ t → (unpack (parN [li] k xs) xs st).env t = st.env t) ∧
  ∀ j,j < xs.length → (unpack (parN [li] k xs) xs st).env (k + j) = if k + j = li then (un1 st.h (lid li) (xs.getD j .junk)).1 else xs.getD j .junk := by
 intro xs
 induction xs with
 | nil => intro k st _; exact ⟨by simp only [List.length_nil]; rw [if_neg (by omega)]; rfl,fun _ _ => rfl,fun j hj => by cases hj⟩
 | cons x xs ih =>
  intro k st hx
  by_cases hk : k = li
  ·subst hk
   have hun : unpack (parN [k] k (x :: xs)) (x :: xs) st = unpack (parN [k] (k + 1) xs) xs ⟨upd st.env k (un1 st.h (lid k) x).1,(un1 st.h (lid k) x).2⟩ := by
    show unpack ((k,if k ∈ [k] then 3 else if k + 1000 ∈ [k] then 6 else 0) :: parN [k] (k + 1) xs) (x :: xs) st = _
    rw [if_pos (by simp)]
    rfl
   rw [hun]
   -- behind it all are told
   have hrest : ∀ (xs : List AV) (m : Nat) (st : St),k < m → (∀ j,j < xs.length → ∀ g q,un1 g q (xs.getD j .junk) = (xs.getD j .junk,g)) → unpack (parN [k] m xs) xs st = unpack (parN [] m xs) xs st := by
    intro xs
    induction xs with
    | nil => intro m st _ _; rfl
    | cons y ys ihh =>
     intro m st hm hy
     have h1 := hy 0 (by simp)
     simp only [List.getD_cons_zero] at h1
     show unpack ((m,if m ∈ [k] then 3 else if m + 1000 ∈ [k] then 6 else 0) :: parN [k] (m + 1) ys) (y :: ys) st = unpack ((m,if m ∈ ([] : List Nat) then 3 else if m + 1000 ∈ ([] : List Nat) then 6 else 0) :: parN [] (m + 1) ys) (y :: ys) st
     rw [if_neg (show ¬ m + 1000 ∈ [k] by simp; omega),if_neg (show ¬ m + 1000 ∈ ([] : List Nat) by simp)]
     rw [if_neg (by simp; omega),if_neg (by simp)]
     simp only [unpack]
     exact ihh (m + 1) _ (by omega) fun j hj => hy (j + 1) (by simpa using hj)
   have hx' : ∀ j,j < xs.length → ∀ g q,un1 g q (xs.getD j .junk) = (xs.getD j .junk,g) := fun j hj => hx (j + 1) (by simpa using hj) (by omega)
   rw [hrest xs (k + 1) _ (by omega) hx']
   obtain ⟨h1,h2,h3⟩ := parN_nil xs (k + 1) ⟨upd st.env k (un1 st.h (lid k) x).1,(un1 st.h (lid k) x).2⟩ fun y hy g q => by
    obtain ⟨j,hj,rfl⟩ := List.getElem_of_mem hy
    have := hx' j hj g q
    simpa [hj] using this
   refine ⟨?_,fun t ht => ?_,fun j hj => ?_⟩
   ·rw [h1,if_pos (by simp)]
    simp
   ·rw [h2 t (by simp only [zF] at ht; omega)]
    simp only [upd]
    rw [if_neg (by simp only [zF] at ht; omega)]
   ·cases j with
    | zero =>
     rw [if_pos (Nat.add_zero k)]
     show (unpack (parN [] (k + 1) xs) xs _).env k = _
     rw [h2 k (by omega)]
     simp [upd]
    | succ j =>
     rw [if_neg (by omega),show k + (j + 1) = k + 1 + j by omega,h3 j (by simpa using hj)]
     rfl
  ·have h0 := hx 0 (by simp) (by omega) st.h (pid k)
   simp only [List.getD_cons_zero] at h0
   have hun : unpack (parN [li] k (x :: xs)) (x :: xs) st = unpack (parN [li] (k + 1) xs) xs ⟨upd st.env k x,st.h⟩ := by
    show unpack ((k,if k ∈ [li] then 3 else if k + 1000 ∈ [li] then 6 else 0) :: parN [li] (k + 1) xs) (x :: xs) st = _
    rw [if_neg (show ¬ k + 1000 ∈ [li] by simp; omega)]
    rw [if_neg (by simp; exact hk)]
    simp only [unpack,h0]
   rw [hun]
   obtain ⟨h1,h2,h3⟩ := ih (k + 1) ⟨upd st.env k x,st.h⟩ (fun j hj hne => hx (j + 1) (by simpa using hj) (by omega))
   refine ⟨?_,fun t ht => ?_,fun j hj => ?_⟩
   ·rw [h1]
    by_cases hc : k + 1 ≤ li ∧ li < k + 1 + xs.length
    ·rw [if_pos hc,if_pos (by simp only [zF]; omega),show li - k = (li - (k + 1)) + 1 by omega]
     rfl
    ·rw [if_neg hc,if_neg (by simp only [zF]; omega)]
   ·rw [h2 t (by simp only [zF] at ht; omega)]
    simp only [upd]
    rw [if_neg (by simp only [zF] at ht; omega)]
   ·cases j with
    | zero =>
     rw [if_neg (by omega)]
     show (unpack (parN [li] (k + 1) xs) xs _).env k = _
     rw [h2 k (by omega)]
     simp [upd]
    | succ j =>
     rw [show k + (j + 1) = k + 1 + j by omega,h3 j (by simpa using hj)]
     rfl
theorem lend_sl (k : WInv f w T ρ h) {r z oo n : Nat} {ap : Bool} {z' : Nat} {es : List (List AV)} (hr : h r = some (.sl ap z' es)) {v : Value} (hv : Rv w T ρ (.sl r z oo n) v) (q : Nat) :
  z' = z ∧ oo + n ≤ es.length ∧ ((es.drop oo).take n).length = n ∧ ∃ pl : Pl,Rv w T (fun s => if s = q then some pl else none) (.sl q z 0 n) v ∧ RowOk w T (fun s => if s = q then some pl else none) q (.sl false z ((es.drop oo).take n)) ∧ pl.z = z ∧ pl.n = n ∧
   (pl.loc = none ∧ es = [] ∧ n = 0 ∧ oo = 0 ∧ ρ r = some ⟨z,0,none⟩ ∨ ∃ b base base',ρ r = some ⟨z,es.length,some (b,base)⟩ ∧ pl.loc = some (b,base') ∧ (0 < n → base' = base + oo * z)) := by
 have ok := k.rows r _ hr
 have key : ∀ base j c,base + oo * z + j * z + c = base + (oo + j) * z + c := by intro base j c; rw [zZ]; omega
 cases hv with
 | @sl _ _ _ _ _ m b base cap hρ hn hc hm hs =>
  rcases ok with ⟨_,_,h3⟩ | ⟨b',base',cur,el,h3,h4,h5,h6,h7,h8⟩
  ·rw [hρ] at h3; have := congrArg Pl.loc (Option.some.inj h3); cases this
  rw [hρ] at h3
  cases h3
  have hl : ((es.drop oo).take n).length = n := by rw [zD,jd]; omega
  have hsz : base + oo * z + n * z ≤ cur.size := by
   have := zK z hn
   rw [zZ] at this
   omega
  refine ⟨rfl,hn,hl,⟨z,n,some (b,base + oo * z)⟩,?_,?_,rfl,rfl,.inr ⟨b,base,_,hρ,rfl,fun _ => rfl⟩⟩
  ·have := Rv.sl (w := w) (T := T) (ρ := fun s => if s = q then some ⟨z,n,some (b,base + oo * z)⟩ else none) (r := q) (o := 0) (n := n) (cap := cap) (if_pos rfl) (by omega) hc hm (by
    obtain ⟨cur2,e2,fr2,h9,h10⟩ := hs
    refine ⟨cur2,e2,fr2,h9,?_⟩
    rw [zZ] at h10
    rw [zX]
    omega)
   rw [Nat.zero_mul,Nat.add_zero] at this
   exact this
  ·refine .inr ⟨b,base + oo * z,cur,el,by rw [hl]; exact if_pos rfl,h4,h5,by rw [hl]; exact hsz,fun hh => (by cases hh),⟨fun j hj => ?_,fun j c hj hc' => ?_⟩⟩
   ·rw [hl] at hj
    rw [getD_drop_take _ _ _ _ _ hj]
    exact h8.len _ (by omega)
   ·rw [hl] at hj
    rw [getD_drop_take _ _ _ _ _ hj,key]
    exact h8.cell _ c (by omega) hc'
 | @slz _ _ _ _ m b base off hρ hn =>
  rcases ok with ⟨_,_,h3⟩ | ⟨b',base',cur,el,h3,h4,h5,h6,h7,h8⟩
  ·rw [hρ] at h3; have := congrArg Pl.loc (Option.some.inj h3); cases this
  rw [hρ] at h3
  cases h3
  rw [jk]
  refine ⟨rfl,hn,rfl,⟨z,0,some (b,0)⟩,.slz (if_pos rfl) (zz _),.inr ⟨b,0,cur,el,if_pos rfl,h4,h5,by simp,fun hh => (by cases hh),⟨fun j hj => (by cases hj),fun j c hj => (by cases hj)⟩⟩,rfl,rfl,.inr ⟨b,base,0,hρ,rfl,fun h => by omega⟩⟩
 | slnil hρ =>
  rcases ok with ⟨h1,h2,h3⟩ | ⟨b',base',cur,el,h3,h4,h5,h6,h7,h8⟩
  ·subst h1
   have hz : z' = z := by
    rw [hρ] at h3
    exact (congrArg Pl.z (Option.some.inj h3)).symm
   subst hz
   exact ⟨rfl,zz _,rfl,⟨z',0,none⟩,.slnil (if_pos rfl),.inl ⟨rfl,trivial,if_pos rfl⟩,rfl,rfl,.inl ⟨rfl,rfl,rfl,rfl,hρ⟩⟩
  ·rw [hρ] at h3
   have := congrArg Pl.loc (Option.some.inj h3)
   cases this
theorem isLid_lid (i : Nat) : isLid (lid i) = true := by unfold isLid lid; simp
def frL (w : World) (T : Nat → Prop) (li : Nat) (pl : Pl) (tabs : List (Nat × List AV)) : Fr :=
 ⟨w,fun b i => ∃ base,pl.loc = some (b,base) ∧ base ≤ i ∧ i < base + pl.n * pl.z,T,[lid li],fun _ => pl,tabs,fun _ => False,fun r hr => by rw [List.mem_singleton.1 hr]; exact isLid_lid li,fun _ h => h.elim⟩
theorem init_lent (k : WInv f w T ρ h) {xs : List AV} {vs : Array Value} {li : Nat} (hl1 : li < 1000) (hli : li < xs.length) (hl : vs.size = xs.length) (hx : ∀ j,j < xs.length → j ≠ li → Rv w T Rho.none (xs.getD j .junk) (vs.getD j undef)) {x : Row} {av : AV} {pl : Pl}
  (hu : un1 Heap.none (lid li) (xs.getD li .junk) = (av,Heap.none.put (lid li) x)) (hxl : x.live = true) (hxa : x.isAp = false) (hv : Rv w T (fun s => if s = lid li then some pl else none) av (vs.getD li undef)) (ok : RowOk w T (fun s => if s = lid li then some pl else none) (lid li) x) :
  WInv (frL w T li pl f.tabs) w T (fun s => if s = lid li then some pl else none) (un (parN [li] 0 xs) xs).h ∧ Env w T (fun s => if s = lid li then some pl else none) (un (parN [li] 0 xs) xs).env ⟨vs,[]⟩ := by
 obtain ⟨h1,h2,h3⟩ := parN_one (li := li) hl1 xs 0 St.none fun j hj hne g q => un1_rv (hx j hj (by omega)) g q
 have hh : (un (parN [li] 0 xs) xs).h = Heap.none.put (lid li) x := by
  show (unpack (parN [li] 0 xs) xs St.none).h = _
  rw [h1,if_pos (by omega),Nat.sub_zero]
  show (un1 Heap.none (lid li) (xs.getD li .junk)).2 = _
  rw [hu]
 have only : ∀ r y,(Heap.none.put (lid li) x) r = some y → r = lid li ∧ y = x := by
  intro r y hy
  simp only [Heap.put,Heap.none] at hy
  split at hy
  ·rename_i e; cases hy; exact ⟨e,rfl⟩
  ·cases hy
 refine ⟨?_,fun t => ?_⟩
 ·rw [hh]
  refine ⟨Keeps.refl _ _,k.tlt,fun r y hy => ?_,fun r hr => ?_,fun r r' y y' hne hy hy' => ?_,fun r y p b base hy hyl hp hloc => ?_,fun b hb _ => .inl hb,fun r hr => ?_,fun r y p b base hr hy => ?_,k.tlt,fun r hr y hy => ?_,k.tab⟩
  ·obtain ⟨rfl,rfl⟩ := only r y hy; exact ok
  ·simp only [Heap.put,Heap.none] at hr
   split at hr
   ·cases hr
   ·rename_i hne; simp only [hne,if_false]
  ·obtain ⟨rfl,rfl⟩ := only r y hy
   obtain ⟨rfl,rfl⟩ := only r' y' hy'
   exact absurd rfl hne
  ·obtain ⟨rfl,rfl⟩ := only r y hy
   rw [if_pos rfl] at hp
   cases hp
   exact .inr ⟨fun o h1 h2 => ⟨base,hloc,h1,h2⟩,fun hh => by rw [hxa] at hh; cases hh⟩
  ·have : r = lid li := by simpa [frL] using hr
   subst this
   exact if_pos rfl
  ·obtain ⟨rfl,rfl⟩ := only r y hy
   exact absurd (by simp [frL]) hr
  ·obtain ⟨rfl,rfl⟩ := only r y hy
   exact hxa
 ·show Rv w T _ ((unpack (parN [li] 0 xs) xs St.none).env t) (vs.getD t undef)
  by_cases ht : t < xs.length
  ·have := h3 t ht
   rw [zX] at this
   rw [this]
   split
   ·rename_i e
    subst e
    show Rv w T _ (un1 Heap.none (lid t) (xs.getD t .junk)).1 _
    rw [hu]
    exact hv
   ·rename_i hne
    exact (hx t ht hne).any
  ·rw [h2 t (by omega)]
   exact .junk
theorem lid_pid {i j n : Nat} (hn : n ≤ 100) (h : j < n) : lid i ≠ pid j := by unfold lid pid; omega
theorem back_facts {fr : Fr} {li : Nat} {res : List (PR × Nat)} {vals : Array Value} {out : List AV} {vr o1 : AV} {T' : Nat → Prop} {ρ' : Rho} (hk : ∀ x ∈ res,x.2 ≤ 1) (hrl : res.length ≤ 100) (hl1 : li < 1000) (hlid : fr.lids = [lid li]) (hN0 : ∀ b,¬ fr.N0 b)
  (hs : vals.size = res.length) (ho : out.length = (resL res [li]).length) (hr : AV.back vr [o1] = retV [li] out)
  (k' : WInv fr w' T' ρ' (un (resL res [li]) out).h) (he' : Env w' T' ρ' (un (resL res [li]) out).env ⟨vals,[]⟩) (fl : Flat w' T' (un (resL res [li]) out).env ⟨vals,[]⟩) {x : Row} {av : AV} (hu : un1 Heap.none (lid li) o1 = (av,Heap.none.put (lid li) x)) (hxl : x.live = true) :
  (un (resL res [li]) out).h (lid li) = some x ∧ (∀ b,fr.T0 b → T' b) ∧ Rv w' fr.T0 Rho.none (demoteT vr) (oneR vals) ∧ ∀ r1 z1 p1 n1,vr = .sl r1 z1 p1 n1 → Rv w' T' ρ' vr (oneR vals) := by
 have hlen : out.length = 1 + res.length := by
  rw [ho]
  show (kindL 0 res).length + 1 = _
  rw [kindL_length]
  omega
 match out,hlen with
 | [],h => simp only [List.length_nil] at h; omega
 | o2 :: rs,hlen =>
  have hrs : rs.length = res.length := by simp at hlen; omega
  have hret : retV [li] (o2 :: rs) = .back (oneV rs) [o2] := rfl
  rw [hret] at hr
  injection hr with e1 e2
  injection e2 with e2 _
  subst e1
  subst e2
  have hun : un (resL res [li]) (o1 :: rs) = unpack (kindL 0 res) rs ⟨fun _ => .junk,(un1 Heap.none (lid li) o1).2⟩ := by
   show unpack ((lid li,if li < 1000 then 2 else 5) :: kindL 0 res) (o1 :: rs) St.none = _
   rw [if_pos hl1]
   rfl
  rw [hu] at hun
  obtain ⟨_,q2,q3⟩ := unpack_kind' res 0 rs ⟨fun _ => .junk,Heap.none.put (lid li) x⟩ hk hrs
  have hrow : (un (resL res [li]) (o1 :: rs)).h (lid li) = some x := by
   rw [hun,q2 (lid li) fun j _ hj => lid_pid hrl (by omega)]
   simp [Heap.put]
  have h0 : ∀ b,fr.T0 b → T' b := fun b hb => (k'.t0 b hb (hN0 b)).elim id fun ⟨r,hr,hd⟩ => by
   rw [hlid,ja] at hr
   subst hr
   rw [hd x hrow] at hxl
   cases hxl
  refine ⟨hrow,h0,?_,fun r1 z1 p1 n1 hvr => ?_⟩
  rotate_left
  ·match rs,hrs,hvr with
   | [y],hrs,hvr =>
    have hy : y = .sl r1 z1 p1 n1 := hvr
    have h5 := q3 0 (by rw [← hrs]; simp)
    rw [zX,← hun] at h5
    have h6 : (un (resL res [li]) [o1,y]).env 0 = y := by
     rw [hy] at h5 ⊢
     exact h5
    have h7 := he' 0
    rw [h6] at h7
    have hone : vals.size = 1 := by rw [hs,← hrs]; rfl
    have hv : oneR vals = vals.getD 0 undef := by simp [oneR,hone]
    rw [hv]
    exact h7
   | [],_,hvr => cases hvr
   | _ :: _ :: _,_,hvr => cases hvr
  have each : ∀ j,j < res.length → Rv w' fr.T0 Rho.none (demote (rs.getD j .junk)) (vals.getD j undef) := fun j hj => by
   have h5 := q3 j hj
   rw [zX,← hun] at h5
   exact shown_rv' k' he' fl h0 (fun b h => absurd h (hN0 b)) (by
    rw [hlid,ja]
    exact fun e => lid_pid (i := li) hrl (show j < res.length by omega) e.symm) h5
  exact one_rv hs hrs each
theorem Keeps.cellW {W : Nat → Nat → Prop} (h : Keeps W w w') {b i : Nat} (hb : b < w.heap.size) (hi : ¬ W b i) : w'.cell? ⟨b,i,none⟩ = w.cell? ⟨b,i,none⟩ := by
 rcases h.block b hb with h1 | ⟨c,c',e,fr,h1,h2,h3,h4⟩
 ·simp only [World.cell?,h1]
 ·simp only [World.cell?,h1,h2]
  cases fr with
  | mk x y => simp only [h4 i hi]
theorem alias_rv {vr : AV} {u : Value} {pl : Pl} {li r oo z n : Nat} (hplace : ρ' (lid li) = some pl) (b3 : Rv w' T Rho.none (demoteT vr) u) (b4 : ∀ r1 z1 p1 n1,vr = .sl r1 z1 p1 n1 → Rv w' T' ρ' vr u) (hz : pl.z = z) (hn : pl.n = n)
  (hq : ∀ b base',pl.loc = some (b,base') → ∃ base m,ρ r = some ⟨z,m,some (b,base)⟩ ∧ oo + n ≤ m ∧ (0 < n → base' = base + oo * z)) : Rv w' T ρ (aliasV li r oo vr) u := by
 by_cases hx : ∃ r1 z1 p1 n1,vr = .sl r1 z1 p1 n1
 ·obtain ⟨r1,z1,p1,n1,rfl⟩ := hx
  simp only [aliasV]
  split
  ·rename_i hc
   obtain ⟨rfl,h0⟩ := hc
   have h1 := b4 _ _ _ _ rfl
   cases h1 with
   | @sl _ _ _ _ _ m b base' cap hr hnn hc hm hs =>
    rw [hplace] at hr
    cases hr
    simp only at hz hn
    subst hz
    subst hn
    obtain ⟨base,m2,q1,q2,q3⟩ := hq b base' rfl
    have q4 := q3 (by omega)
    subst q4
    obtain ⟨cur,el,fr,s1,s2⟩ := hs
    have := Rv.sl (w := w') (T := T) (ρ := ρ) (r := r) (o := oo + p1) (n := n1) (cap := cap) q1 (by omega) hc hm ⟨cur,el,fr,s1,by
     rw [zZ] at s2 ⊢
     rw [zZ]
     omega⟩
    rw [zZ,← Nat.add_assoc] at this
    exact this
   | slz => omega
   | slnil => omega
  ·split
   ·rename_i hc
    subst hc
    have h1 := b4 _ _ _ _ rfl
    cases h1 with
    | sl _ _ _ hm _ => exact .lnil (fun h => by cases h) hm
    | slz => exact .lnil (fun h => by cases h) (Nat.zero_le _)
    | slnil => exact .lnil0
   ·exact .junk
 ·have : aliasV li r oo vr = demoteT vr := by
   cases vr <;> first | rfl | exact absurd ⟨_,_,_,_,rfl⟩ hx
  rw [this]
  exact b3.any
theorem lent_sl (k : WInv f w T ρ h) {g li : Nat} {res : List (PR × Nat)} {xs : List AV} {vs : Array Value} {r z oo n : Nat} {ap : Bool} {z' : Nat} {es : List (List AV)} (hr : h r = some (.sl ap z' es)) (hl1 : li < 1000) (hli : li < xs.length) (hl : vs.size = xs.length)
  (hv : Rv w T ρ (.sl r z oo n) (vs.getD li undef)) (hx : ∀ j,j < xs.length → j ≠ li → Rv w T Rho.none (xs.getD j .junk) (vs.getD j undef)) (hxl : xs.getD li .junk = .own false z ((es.drop oo).take n))
  (hk : ∀ x ∈ res,x.2 ≤ 1) (hrl : res.length ≤ 100) {vr : AV} {a2 : Bool} {z2 : Nat} {es2 : List (List AV)} (hc : CallOk P g res [li] f.tabs xs (.back vr [.own a2 z2 es2])) (hn2 : es2.length = n) (hz2 : z2 = z') :
  Calls P g vs w fun e w' => ∃ u,e = .returned u ∧ WInv f w' T ρ (h.put r (.sl ap z' (es.take oo ++ es2 ++ es.drop (oo + n)))) ∧ Goes w w' T T ρ ρ ∧ Rv w' T ρ (aliasV li r oo vr) u := by
 obtain ⟨hzz,hle,hwl,pl,p1,p2,p3,p4,p5⟩ := lend_sl k hr hv (lid li)
 subst hzz
 subst hz2
 have hu : un1 Heap.none (lid li) (xs.getD li .junk) = (.sl (lid li) z2 0 n,Heap.none.put (lid li) (.sl false z2 ((es.drop oo).take n))) := by rw [hxl]; simp only [un1,hwl]
 obtain ⟨i1,i2⟩ := init_lent k hl1 hli hl hx hu rfl rfl p1 p2
 refine (hc (frL w T li pl f.tabs) _ vs rfl rfl hl i1 i2).mono fun e w' he => ?_
 obtain ⟨out,vals,T',ρ',rfl,hs,ho,hret,k',e',fl⟩ := he
 obtain ⟨b1,b2,b3',b4⟩ := back_facts hk hrl hl1 (fr := frL w T li pl f.tabs) rfl (fun _ h => h) hs ho hret k' e' fl (x := .sl a2 z2 es2) (av := .sl (lid li) z2 0 es2.length) rfl rfl
 have hplace : ρ' (lid li) = some pl := k'.lp (lid li) (by simp [frL])
 have b3 : Rv w' T ρ (aliasV li r oo vr) (oneR vals) := alias_rv hplace b3' b4 p3 p4 fun b base' hb => by
  rcases p5 with ⟨q1,_⟩ | ⟨b2,base,base2,q1,q2,q3⟩
  ·rw [q1] at hb; cases hb
  ·rw [q2] at hb
   cases hb
   exact ⟨base,es.length,q1,hle,q3⟩
 have ok2 := k'.rows _ _ b1
 have hnew : (es.take oo ++ es2 ++ es.drop (oo + n)).length = es.length := by simp only [zx,zD,jd]; omega
 have go : ∀ {p : Pl} {b base : Nat},ρ r = some p → p.loc = some (b,base) → Keeps (fun b' i => b' = b ∧ (frL w T li pl f.tabs).W0 b' i) w w' → (f.w0.heap.size ≤ b ∨ ∀ i,(frL w T li pl f.tabs).W0 b i → f.W0 b i) → RowOk w' T ρ r (.sl ap z2 (es.take oo ++ es2 ++ es.drop (oo + n))) →
   ∃ u,Ending.returned (oneR vals) = .returned u ∧ WInv f w' T ρ (h.put r (.sl ap z2 (es.take oo ++ es2 ++ es.drop (oo + n)))) ∧ Goes w w' T T ρ ρ ∧ Rv w' T ρ (aliasV li r oo vr) u := by
  intro p b base hp hloc hkeep hW hok
  have hkeep2 : Keeps (fun b' i => b' = b ∧ (frL w T li pl f.tabs).W0 b i) w w' := ⟨hkeep.os,hkeep.tape,hkeep.output,hkeep.size,fun c hc => (hkeep.block c hc).imp id fun ⟨d,d',e,fr,q1,q2,q3,q4⟩ => ⟨d,d',e,fr,q1,q2,q3,fun o ho => q4 o fun hh => ho ⟨hh.1,by rw [← hh.1]; exact hh.2⟩⟩⟩
  obtain ⟨k2,g2⟩ := k.rewriteK hr rfl hp hloc hkeep2 hW hok (fun hh => hh)
  exact ⟨_,rfl,k2,g2,b3⟩
 rcases p5 with ⟨q1,rfl,rfl,rfl,q5⟩ | ⟨b,base,base',q1,q2,q3⟩
 ·-- a nil slice
  have h0 : es2 = [] := List.eq_nil_of_length_eq_zero hn2
  subst h0
  have hold : Old w w' := by
   refine Keeps.old ⟨k'.keeps.os,k'.keeps.tape,k'.keeps.output,k'.keeps.size,fun c hc => (k'.keeps.block c hc).imp id fun ⟨d,d',e,fr,s1,s2,s3,s4⟩ => ⟨d,d',e,fr,s1,s2,s3,fun o ho => s4 o fun hh => ?_⟩⟩
   obtain ⟨bb,hb,_⟩ := hh
   rw [q1] at hb
   cases hb
  have hsame : h.put r (.sl ap z2 (zQ 0 [] ++ [] ++ List.drop (0 + 0) [])) = h := by
   funext q
   simp only [Heap.put]
   split
   ·rename_i e; rw [e,hr]; rfl
   ·rfl
  rw [hsame]
  exact ⟨_,rfl,k.old hold,Goes.old hold,b3⟩
 ·have okr := k.rows r _ hr
  rcases okr with ⟨h1,_,h3⟩ | ⟨b',bs,cur,el,h3,h4,h5,h6,h7,h8⟩
  ·rw [q1] at h3
   have := congrArg Pl.loc (Option.some.inj h3)
   cases this
  ·rw [q1] at h3
   cases h3
   have hWb : ∀ c i,(frL w T li pl f.tabs).W0 c i → c = b ∧ base' ≤ i ∧ i < base' + n * z2 := by
    rintro c i ⟨bb,hb,hi1,hi2⟩
    rw [q2] at hb
    cases hb
    rw [p3,p4] at hi2
    exact ⟨rfl,hi1,hi2⟩
   have hkeep : Keeps (fun b' i => b' = b ∧ (frL w T li pl f.tabs).W0 b' i) w w' := ⟨k'.keeps.os,k'.keeps.tape,k'.keeps.output,k'.keeps.size,fun c hc => (k'.keeps.block c hc).imp id fun ⟨d,d',e,fr,s1,s2,s3,s4⟩ => ⟨d,d',e,fr,s1,s2,s3,fun o ho => s4 o fun hh => ho ⟨(hWb c o hh).1,hh⟩⟩⟩
   have hsm : Same T w w' := hkeep.same fun c i _ hh => by rw [hh.1]; exact h4
   have hblt : b < w.heap.size := lt_of_cells h5
   have hin : ∀ i,base' ≤ i → i < base' + n * z2 → base + oo * z2 ≤ i ∧ i < base + (oo + n) * z2 := by
    intro i g1 g2
    rcases Nat.eq_zero_or_pos n with hn0 | hn0
    ·subst hn0; omega
    ·rw [q3 hn0] at g1 g2
     rw [zZ]
     omega
   refine go q1 rfl hkeep ?_ ?_
   ·rcases k.wr r _ _ _ _ hr rfl q1 rfl with g1 | ⟨g1,_⟩
    ·exact .inl g1
    ·refine .inr fun i hi => ?_
     obtain ⟨_,g2,g3⟩ := hWb b i hi
     obtain ⟨g4,g5⟩ := hin i g2 g3
     refine g1 i (by omega) ?_
     have := zK z2 hle
     show i < base + es.length * z2
     omega
   ·obtain ⟨cur',hc1,hc2⟩ := hsm.shape b cur el (0,0) h5
    refine .inr ⟨b,base,cur',el,by rw [hnew]; exact q1,h4,hc1,by rw [hnew,hc2]; exact h6,fun ha => ⟨(h7 ha).1,fun hz o' v' ho' hv' => by
     rw [hnew] at ho'
     have hout : ¬ (frL w T li pl f.tabs).W0 b o' := fun hh => by
      obtain ⟨_,g2,g3⟩ := hWb _ _ hh
      obtain ⟨g4,g5⟩ := hin _ g2 g3
      have hb9 := (h7 ha).1
      have := zK z2 hle
      rw [hz] at this g5
      omega
     have hcc : w'.cell? ⟨b,o',none⟩ = w.cell? ⟨b,o',none⟩ := k'.keeps.cellW hblt hout
     rw [cell_of hc1,cell_of h5] at hcc
     exact (h7 ha).2 hz o' v' ho' (by rw [← hcc]; exact hv')⟩,⟨fun j hj => ?_,fun j c hj hcz => ?_⟩⟩
    ·rw [hnew] at hj
     rcases jl j oo with g1 | g1
     ·rw [List.append_assoc,getD_append_left' _ _ _ _ (by simp only [zD]; omega),zo,List.getElem?_take_of_lt g1,← zo]
      exact h8.len j hj
     ·rcases jl j (oo + n) with g2 | g2
      ·rw [getD_append_left' _ _ _ _ (by simp only [zx,zD]; omega),getD_append_right' _ _ _ _ (by simp only [zD]; omega),zD,jh (by omega)]
       rcases ok2 with ⟨s1,_,_⟩ | ⟨_,_,_,_,_,_,_,_,_,s8⟩
       ·rw [s1] at hn2; simp at hn2; omega
       ·exact s8.len (j - oo) (by omega)
      ·rw [getD_append_right' _ _ _ _ (by simp only [zx,zD]; omega),zx,zD,jh (by omega),hn2,zo,List.getElem?_drop,← zo,show oo + n + (j - (oo + n)) = j by omega]
       exact h8.len j hj
    ·rw [hnew] at hj
     have outside : (j < oo ∨ oo + n ≤ j) → ∃ v,w'.cell? ⟨b,base + j * z2 + c,none⟩ = some v ∧ v.oneCell' = true ∧ Rv w' T Rho.none ((es.getD j []).getD c .junk) v := by
      intro hj2
      obtain ⟨v,s1,s2,s3⟩ := h8.cell j c hj hcz
      refine ⟨v,?_,s2,s3.mono hsm (fun _ _ h => h) fun _ _ h => h⟩
      rw [← s1]
      refine k'.keeps.cellW hblt fun hh => ?_
      obtain ⟨_,g2,g3⟩ := hWb _ _ hh
      obtain ⟨g4,g5⟩ := hin _ g2 g3
      rcases hj2 with hj2 | hj2
      ·have : (j + 1) * z2 ≤ oo * z2 := zK z2 hj2
       rw [zZ] at this
       omega
      ·have : (oo + n) * z2 ≤ j * z2 := zK z2 hj2
       omega
     rcases jl j oo with g1 | g1
     ·rw [List.append_assoc,getD_append_left' _ _ _ _ (by simp only [zD]; omega),zo (l := zQ oo es),List.getElem?_take_of_lt g1,← zo]
      exact outside (.inl g1)
     ·rcases jl j (oo + n) with g2 | g2
      ·rw [getD_append_left' _ _ _ _ (by simp only [zx,zD]; omega),getD_append_right' _ _ _ _ (by simp only [zD]; omega),zD,jh (by omega)]
       rcases ok2 with ⟨s1,_,_⟩ | ⟨b9,base9,cur9,el9,s3,s4,s5,s6,s7,s8⟩
       ·rw [s1] at hn2; simp at hn2; omega
       ·rw [hplace] at s3
        have s3' := congrArg Pl.loc (Option.some.inj s3)
        rw [q2] at s3'
        cases s3'
        obtain ⟨v,t1,t2,t3⟩ := s8.cell (j - oo) c (by omega) hcz
        refine ⟨v,?_,t2,t3.less fun b _ hb => b2 b hb⟩
        rw [← t1,q3 (by omega)]
        congr 2
        have : j * z2 = oo * z2 + (j - oo) * z2 := by rw [← zZ,Nat.add_sub_cancel' g1]
        omega
      ·rw [getD_append_right' _ _ _ _ (by simp only [zx,zD]; omega),zx,zD,jh (by omega),hn2,zo (l := List.drop (oo + n) es),List.getElem?_drop,← zo,show oo + n + (j - (oo + n)) = j by omega]
       exact outside (.inr g2)
end
section
variable {P : Program} {f : Fr} {w w' : World} {T T' : Nat → Prop} {ρ ρ' : Rho} {h : Heap} {e : Nat → AV} {a : Act} {o : Oper}
theorem demote_any {av : AV} {v : Value} (k : Rv w T ρ av v) (h1 : v.oneCell' = true) : Rv w T Rho.none (demote av) v := by
 obtain ⟨n1,n2⟩ := one_of_cell k h1
 cases k with
 | sl => exact .junk
 | slz => exact .junk
 | slnil => exact .junk
 | p => exact .junk
 | junk => exact .junk
 | b => exact .b
 | i => exact .i
 | s => exact .s
 | np => exact .np
 | ns => exact .ns
 | lnil ha hm => exact .lnil ha hm
 | l g a1 a2 a3 a4 a5 a6 a7 => exact .l g a1 a2 a3 a4 a5 a6 a7
 | tp g a1 a2 a3 a4 => exact .tp g a1 a2 a3 a4
 | agg => exact absurd rfl (n1 _)
 | tup => exact absurd rfl (n2 _)
theorem lent_st (k : WInv f w T ρ h) {g li : Nat} {res : List (PR × Nat)} {xs : List AV} {vs : Array Value} {r : Nat} {cs cs' : List AV} (hr : h r = some (.st cs)) (hl1 : li < 1000) (hli : li < xs.length) (hl : vs.size = xs.length)
  (hv : Rv w T ρ (.p r 0 0) (vs.getD li undef)) (hx : ∀ j,j < xs.length → j ≠ li → Rv w T Rho.none (xs.getD j .junk) (vs.getD j undef)) (hxl : xs.getD li .junk = .ownp cs') (hcl : cs'.length = cs.length)
  (hcs : ∀ c,c < cs.length → ∀ v,v.oneCell' = true → Rv w T ρ (cs.getD c .junk) v → Rv w T Rho.none (cs'.getD c .junk) v)
  (hk : ∀ x ∈ res,x.2 ≤ 1) (hrl : res.length ≤ 100) {vr : AV} {cs2 : List AV} (hc : CallOk P g res [li] f.tabs xs (.back vr [.ownp cs2])) (hn2 : cs2.length = cs.length) :
  Calls P g vs w fun e w' => ∃ u,e = .returned u ∧ WInv f w' T ρ (h.put r (.st (cs2.map demote))) ∧ Goes w w' T T ρ ρ ∧ Rv w' T Rho.none (demoteT vr) u := by
 obtain ⟨b,base,cur,el,h3,h4,h5,h6,h7⟩ := k.rows r _ hr
 have hu : un1 Heap.none (lid li) (xs.getD li .junk) = (.p (lid li) 0 0,Heap.none.put (lid li) (.st cs')) := by rw [hxl]; rfl
 have p1 : Rv w T (fun s => if s = lid li then some (⟨cs.length,1,some (b,base)⟩ : Pl) else none) (.p (lid li) 0 0) (vs.getD li undef) := by
  generalize vs.getD li undef = v at hv
  cases hv with
  | p hρ =>
   rw [h3] at hρ
   cases hρ
   exact .p (if_pos rfl)
 have p2 : RowOk w T (fun s => if s = lid li then some (⟨cs.length,1,some (b,base)⟩ : Pl) else none) (lid li) (.st cs') := by
  refine ⟨b,base,cur,el,by rw [hcl]; exact if_pos rfl,h4,h5,by rw [hcl]; exact h6,⟨fun j hj => ?_,fun j c hj hcz => ?_⟩⟩
  ·cases j with
   | zero => rfl
   | succ j => simp at hj
  ·cases j with
   | succ j => simp at hj
   | zero =>
    rw [hcl] at hcz
    obtain ⟨v,s1,s2,s3⟩ := h7.cell 0 c (by simp) hcz
    exact ⟨v,by simpa only [Nat.zero_mul] using s1,s2,(hcs c hcz v s2 s3).any⟩
 obtain ⟨i1,i2⟩ := init_lent k hl1 hli hl hx hu rfl rfl p1 p2
 refine (hc (frL w T li _ f.tabs) _ vs rfl rfl hl i1 i2).mono fun e w' he => ?_
 obtain ⟨out,vals,T',ρ',rfl,hs,ho,hret,k',e',fl⟩ := he
 obtain ⟨b1,b2,b3,_⟩ := back_facts hk hrl hl1 (fr := frL w T li _ f.tabs) rfl (fun _ h => h) hs ho hret k' e' fl (x := .st cs2) (av := .p (lid li) 0 0) rfl rfl
 have hplace : ρ' (lid li) = some (⟨cs.length,1,some (b,base)⟩ : Pl) := k'.lp (lid li) (by simp [frL])
 obtain ⟨b9,base9,cur9,el9,s3,s4,s5,s6,s7⟩ := k'.rows _ _ b1
 rw [hplace] at s3
 have s3' := congrArg Pl.loc (Option.some.inj s3)
 cases s3'
 have hWb : ∀ c i,(frL w T li (⟨cs.length,1,some (b,base)⟩ : Pl) f.tabs).W0 c i → c = b ∧ base ≤ i ∧ i < base + cs.length := by
  rintro c i ⟨bb,hb,hi1,hi2⟩
  cases hb
  exact ⟨rfl,hi1,by simpa using hi2⟩
 have hkeep : Keeps (fun b' i => b' = b ∧ base ≤ i ∧ i < base + cs.length) w w' := ⟨k'.keeps.os,k'.keeps.tape,k'.keeps.output,k'.keeps.size,fun c hc => (k'.keeps.block c hc).imp id fun ⟨d,d',e,fr,t1,t2,t3,t4⟩ => ⟨d,d',e,fr,t1,t2,t3,fun o ho => t4 o fun hh => ho (hWb c o hh)⟩⟩
 have hsm : Same T w w' := hkeep.same fun c i _ hh => by rw [hh.1]; exact h4
 have hok : RowOk w' T ρ r (.st (cs2.map demote)) := by
  obtain ⟨cur',hc1,hc2⟩ := hsm.shape b cur el (0,0) h5
  have hlen : (cs2.map demote).length = cs.length := by rw [zC]; exact hn2
  refine ⟨b,base,cur',el,by rw [hlen]; exact h3,h4,hc1,by rw [hlen,hc2]; exact h6,⟨fun j hj => ?_,fun j c hj hcz => ?_⟩⟩
  ·cases j with
   | zero => rfl
   | succ j => simp at hj
  ·cases j with
   | succ j => simp at hj
   | zero =>
    rw [hlen] at hcz
    obtain ⟨v,t1,t2,t3⟩ := s7.cell 0 c (by simp) (by omega)
    refine ⟨v,by simpa only [Nat.zero_mul] using t1,t2,?_⟩
    show Rv w' T ρ ((cs2.map demote).getD c .junk) v
    rw [getD_map_lt demote cs2 c .junk .junk (by omega)]
    exact ((demote_any t3 t2).less fun b _ hb => b2 b hb).any
 obtain ⟨k2,g2⟩ := k.rewriteK hr rfl h3 rfl hkeep ((k.wr r _ _ _ _ hr rfl h3 rfl).imp id fun hh i hi => hh.1 i hi.1 (by
  show i < base + 1 * cs.length
  omega)) hok (fun hh => by cases hh)
 exact ⟨_,rfl,k2,g2,b3⟩
theorem argsL_get {x : AV} : ∀ {li : Nat} {vs : List AV},(argsL h x li vs).length = vs.length ∧ ∀ j,j < vs.length → (argsL h x li vs).getD j .junk = if j = li then x else tell h (vs.getD j .junk) := by
 intro li
 induction li with
 | zero =>
  intro vs
  cases vs with
  | nil => exact ⟨rfl,fun j hj => by cases hj⟩
  | cons v vs =>
   refine ⟨by simp [argsL],fun j hj => ?_⟩
   cases j with
   | zero => rfl
   | succ j =>
    rw [if_neg (by omega)]
    show (vs.map (tell h)).getD j .junk = tell h (vs.getD j .junk)
    exact getD_map_lt (tell h) vs j .junk .junk (by simpa using hj)
 | succ li ih =>
  intro vs
  cases vs with
  | nil => exact ⟨rfl,fun j hj => by cases hj⟩
  | cons v vs =>
   obtain ⟨h1,h2⟩ := ih (vs := vs)
   refine ⟨by simp [argsL,h1],fun j hj => ?_⟩
   cases j with
   | zero => rw [if_neg (by omega)]; rfl
   | succ j =>
    have := h2 j (by simpa using hj)
    show (argsL h x li vs).getD j .junk = _
    rw [this]
    by_cases hji : j = li
    ·rw [if_pos hji,if_pos (by omega)]
    ·rw [if_neg hji,if_neg (by omega)]; rfl
theorem refsL_mem {r : Nat} : ∀ {li : Nat} {vs : List AV} {j : Nat},j < vs.length → j ≠ li → r ∈ ref h (vs.getD j .junk) → r ∈ refsL h li vs := by
 intro li
 induction li with
 | zero =>
  intro vs j hj hne hr
  cases vs with
  | nil => cases hj
  | cons v vs =>
   cases j with
   | zero => exact absurd rfl hne
   | succ j => exact List.mem_flatMap.2 ⟨vs.getD j AV.junk,getD_mem AV.junk (by simpa using hj),show r ∈ ref h (vs.getD j AV.junk) from hr⟩
 | succ li ih =>
  intro vs j hj hne hr
  cases vs with
  | nil => cases hj
  | cons v vs =>
   cases j with
   | zero => exact List.mem_append.2 (.inl hr)
   | succ j => exact List.mem_append.2 (.inr (ih (by simpa using hj) (by omega) hr))
theorem freeze_win0 (rs : List Nat) (r o n : Nat) : ((h.freeze rs) r).bind (Row.win o n) = (h r).bind (Row.win o n) := by
 induction rs with
 | nil => rfl
 | cons q rs ih =>
  simp only [Heap.freeze]
  split
  ·rw [← ih]
   cases h.freeze rs r with
   | none => rfl
   | some x => cases x <;> rfl
  ·exact ih
theorem freeze_tell0 (rs : List Nat) (v : AV) : tell0 (h.freeze rs) v = tell0 h v := by
 cases v <;> try rfl
 simp only [tell0,freeze_win0]
theorem op_callw (k : WInv f w T ρ h) (he : Env w T ρ e a) {c : Go.Call} {g g' li : Nat} {ys : List At} {res : List (PR × Nat)} {av : AV} {h' : Heap} (call : Call) (ho : o.op = .call c) (hcal : c.callee = .value (.func g')) (hm : mas f.tabs c.args.toList ys = true) (hb : bodied P g' = true) (hl1 : li < 1000) (hli : li < ys.length)
  (hk : ∀ x ∈ res,x.2 ≤ 1) (hrl : res.length ≤ 100) (hc : ∀ xs r,xs.length = ys.length → call g xs = some r → CallOk P g' res [li] f.tabs xs r) (hv : PO.ev call (.callw g ys li) e h = some (av,h')) : Goes1 P f o a w T ρ av h' := by
 simp only [PO.ev,callL,zy] at hv
 obtain ⟨x,hlend,r,hr,hback⟩ := hv
 obtain ⟨hlen,hrv⟩ := mas_rv k he hm
 have hrun : (execOp a.eval o).run P w = .ok (.enter g' (c.args.map a.eval)) w := by
  simp [execOp,ho,resolve,hcal,Act.eval,Deferred.ofValue,invoke,run_callFunc hb]
 have hvs : ∀ j,(c.args.map a.eval).getD j undef = (c.args.toList.map a.eval).getD j undef := fun j => by simp [zo]
 have hsz : (c.args.map a.eval).size = (argsL h x li (ys.map (At.ev e))).length := by rw [(argsL_get (h := h) (x := x) (li := li)).1]; simp [← hlen]
 have hll : li < (argsL h x li (ys.map (At.ev e))).length := by rw [(argsL_get (h := h) (x := x) (li := li)).1]; simpa using hli
 have hxl : (argsL h x li (ys.map (At.ev e))).getD li .junk = x := by rw [(argsL_get (h := h) (x := x) (li := li)).2 li (by simpa using hli),if_pos rfl]
 have hli' := hrv li hli
 have others : ∀ {T1 : Nat → Prop},(∀ b,b < w.heap.size → T1 b → T b) → (∀ r ∈ refsL h li (ys.map (At.ev e)),∀ b,rowBlk h ρ r b → ¬ T1 b) → ∀ j,j < (argsL h x li (ys.map (At.ev e))).length → j ≠ li → Rv w T1 Rho.none ((argsL h x li (ys.map (At.ev e))).getD j .junk) ((c.args.map a.eval).getD j undef) := by
  intro T1 hless hfree j hj hne
  rw [(argsL_get (h := h) (x := x) (li := li)).1,zC] at hj
  rw [(argsL_get (h := h) (x := x) (li := li)).2 j (by simpa using hj),if_neg hne,hvs]
  exact tell_rv k.rows hless (hrv j hj) fun r hr' b hb => hfree r (refsL_mem (by simpa using hj) hne hr') b hb
 have finish : ∀ {T1 : Nat → Prop} {h2 : Heap} {vr : AV},Goes w w T T1 ρ ρ → av = vr → h' = h2 → Calls P g' (c.args.map a.eval) w (fun e w' => ∃ u,e = .returned u ∧ WInv f w' T1 ρ h2 ∧ Goes w w' T1 T1 ρ ρ ∧ Rv w' T1 ρ vr u) → Goes1 P f o a w T ρ av h' := by
  intro T1 h2 vr g1 e1 e2 hcalls K Q hK
  subst e1
  subst e2
  unfold Oper.wp
  rw [hrun]
  refine hcalls.mono fun e w' hw => ?_
  obtain ⟨u,rfl,k2,g2,r2⟩ := hw
  exact hK u w' T1 ρ k2 (g1.trans g2) r2
 unfold backL at hback
 split at hback
 ·rename_i q z oo n vr a2 z2 es2 hy
  split at hback
  ·rename_i ap z' es hrow
   split at hback
   ·rename_i hcond
    obtain ⟨c1,c2,c3⟩ := hcond
    cases hback
    rw [hy] at hlend hli'
    simp only [lendL,hrow] at hlend
    cases hlend
    obtain ⟨T1,k1,g1,hfree,_⟩ := k.freeze (refsL h li (ys.map (At.ev e)))
    refine finish g1 rfl rfl ?_
    refine lent_sl k1 (by rw [freeze_notin c1]; exact hrow) hl1 hll hsz ?_ (others g1.less hfree) hxl hk hrl (hc _ _ ((argsL_get (li := li)).1.trans (zC ..)) hr) c2 c3
    rw [hvs]
    exact g1.rv hli'
   ·cases hback
  ·cases hback
 ·rename_i q vr cs2 hy
  split at hback
  ·rename_i cs hrow
   split at hback
   ·rename_i hcond
    obtain ⟨c1,c2⟩ := hcond
    cases hback
    rw [hy] at hlend hli'
    simp only [lendL,hrow] at hlend
    cases hlend
    obtain ⟨T1,k1,g1,hfree,_⟩ := k.freeze (refsL h li (ys.map (At.ev e)) ++ cs.flatMap ref0)
    refine finish g1 rfl rfl ((lent_st k1 (by rw [freeze_notin c1]; exact hrow) hl1 hll hsz ?_ (others g1.less fun r hr b hb => hfree r (List.mem_append.2 (.inl hr)) b hb) hxl (by simp) (fun c hcc v hv1 hv2 => ?_) hk hrl (hc _ _ ((argsL_get (li := li)).1.trans (zC ..)) hr) c2).mono fun e w' hw => by obtain ⟨u,e1,k2,g2,r2⟩ := hw; exact ⟨u,e1,k2,g2,r2.any⟩)
    ·rw [hvs]
     exact g1.rv hli'
    ·rw [getD_map_lt (tell0 h) cs c .junk .junk hcc]
     have := tell0_cell (T' := T1) (h := h.freeze (refsL h li (ys.map (At.ev e)) ++ cs.flatMap ref0)) k1.rows (fun _ _ h => h) hv1 hv2 fun r hr b hb => by
      obtain ⟨x,p,base,hx,hl,hp,hloc⟩ := hb
      have := freeze_live' hx hl
      exact absurd (List.mem_append.2 (.inr (List.mem_flatMap.2 ⟨_,getD_mem .junk hcc,hr⟩))) this.2
     rwa [freeze_tell0] at this
   ·cases hback
  ·cases hback
 ·cases hback
end
section
variable {P : Program} {f : Fr} {w w' : World} {T T' : Nat → Prop} {ρ ρ' : Rho} {h : Heap} {e : Nat → AV} {a : Act} {o : Oper}
theorem call_own (k : WInv f w T ρ h) {g : Nat} {res : List (PR × Nat)} {xs : List AV} {vs : Array Value} {ap : Bool} {z : Nat} {es : List (List AV)} (hk : ∀ x ∈ res,x.2 ≤ 1) (hc : CallOk P g res [] f.tabs xs (.own ap z es)) (hl : vs.size = xs.length) (hx : ∀ j,j < xs.length → Rv w T Rho.none (xs.getD j .junk) (vs.getD j undef)) {id : Nat} (hid : h id = none) :
  Calls P g vs w fun e w' => ∃ v T' ρ',e = .returned v ∧ WInv f w' T' ρ' (h.put id (.sl ap z es)) ∧ Goes w w' T T' ρ ρ' ∧ Rv w' T' ρ' (.sl id z 0 es.length) v := by
 obtain ⟨h1,h2⟩ := init_told k hl hx
 refine (hc ⟨w,fun _ _ => False,T,[],fun _ => ⟨0,0,none⟩,f.tabs,fun _ => False,fun _ h => (by cases h),fun _ h => h.elim⟩ Rho.none vs rfl rfl hl h1 h2).mono fun e w' he => ?_
 obtain ⟨out,vals,T',ρ',rfl,hs,ho,hret,k',e',fl⟩ := he
 have hol : out.length = res.length := by rw [ho]; exact kindL_length res 0
 have hout : out = [.own ap z es] := by
  match out,hret with
  | [x],hret => have : AV.own ap z es = x := hret; rw [this]
  | [],hret => cases hret
  | _ :: _ :: _,hret => cases hret
 subst hout
 have hone : vals.size = 1 := by rw [hs,← hol]; rfl
 have hv : oneR vals = vals.getD 0 undef := by simp [oneR,hone]
 obtain ⟨_,_,h3⟩ := unpack_kind' res 0 [.own ap z es] St.none hk hol
 obtain ⟨s1,s2⟩ : (un (resL res []) [.own ap z es]).env 0 = .sl (pid 0) z 0 es.length ∧ (un (resL res []) [.own ap z es]).h (pid 0) = some (.sl ap z es) := by
  have := h3 0 (by rw [← hol]; simp)
  exact this
 have hold := k'.keeps.old
 have hrv := e' 0
 rw [s1] at hrv
 have h0 : ∀ b,T b → T' b := fun b hb => (k'.t0 b hb (fun h => h)).elim (fun h => h) fun ⟨r,hr,_⟩ => by cases hr
 have ko := k.old hold
 rcases k'.rows _ _ s2 with ⟨r1,r2,r3⟩ | ⟨b,base,cur,el,r3,r4,r5,r6,r7,r8⟩
 ·subst r1
  obtain ⟨k2,g2⟩ := ko.newnil hid z (ap := ap)
  refine ⟨_,_,_,rfl,k2,(Goes.old hold).trans g2,?_⟩
  rw [hv]
  have hrv2 : Rv w' T' ρ' (.sl (pid 0) z 0 0) (vals.getD 0 undef) := hrv
  generalize vals.getD 0 undef = u at hrv2
  cases hrv2 with
  | sl q1 => rw [r3] at q1; have := congrArg Pl.loc (Option.some.inj q1); cases this
  | slz q1 => rw [r3] at q1; have := congrArg Pl.loc (Option.some.inj q1); cases this
  | slnil q1 => exact .slnil (if_pos rfl)
 ·have hge : w.heap.size ≤ b := (k'.own _ _ _ _ _ (by simp) s2 rfl r3 rfl).elim (fun h => h) False.elim
  have hlt := lt_of_cells r5
  have less : ∀ c,c < w'.heap.size → (T c ∨ c = b) → T' c := fun c _ hc => hc.elim (h0 c) fun e => e ▸ r4
  obtain ⟨k2,g2⟩ := k.new' hold hid (x := .sl ap z es) (z := z) (n := es.length) (base := base) (by omega) hge hlt (.inr ⟨b,base,cur,el,if_pos rfl,.inr rfl,r5,r6,r7,r8.mono (fun _ => rfl) fun av v hh => hh.less less⟩)
  refine ⟨_,_,_,rfl,k2,g2,?_⟩
  rw [hv]
  have hrv2 : Rv w' T' ρ' (.sl (pid 0) z 0 es.length) (vals.getD 0 undef) := hrv
  generalize vals.getD 0 undef = u at hrv2
  generalize hn0 : es.length = n0 at *
  cases hrv2 with
  | sl q1 q2 q3 q4 q5 => rw [r3] at q1; cases q1; exact .sl (if_pos rfl) q2 q3 q4 q5
  | slz q1 q2 => rw [r3] at q1; cases q1; exact .slz (if_pos rfl) q2
  | slnil q1 => rw [r3] at q1; have := congrArg Pl.loc (Option.some.inj q1); cases this
theorem call_own2 (k : WInv f w T ρ h) {g : Nat} {res : List (PR × Nat)} {xs : List AV} {vs : Array Value} {ap : Bool} {z : Nat} {es : List (List AV)} {v : AV} (hk : ∀ x ∈ res,x.2 ≤ 1) (hc : CallOk P g res [] f.tabs xs (.tup [.own ap z es,v])) (hl : vs.size = xs.length) (hx : ∀ j,j < xs.length → Rv w T Rho.none (xs.getD j .junk) (vs.getD j undef)) {id : Nat} (hid : h id = none) :
  Calls P g vs w fun e w' => ∃ v' T' ρ',e = .returned v' ∧ WInv f w' T' ρ' (h.put id (.sl ap z es)) ∧ Goes w w' T T' ρ ρ' ∧ Rv w' T' ρ' (.tup [.sl id z 0 es.length,demote v]) v' := by
 obtain ⟨h1,h2⟩ := init_told k hl hx
 refine (hc ⟨w,fun _ _ => False,T,[],fun _ => ⟨0,0,none⟩,f.tabs,fun _ => False,fun _ h => (by cases h),fun _ h => h.elim⟩ Rho.none vs rfl rfl hl h1 h2).mono fun e w' he => ?_
 obtain ⟨out,vals,T',ρ',rfl,hs,ho,hret,k',e',fl⟩ := he
 have hol : out.length = res.length := by rw [ho]; exact kindL_length res 0
 obtain ⟨_,_,h3⟩ := unpack_kind' res 0 out St.none hk hol
 have hout : out = [.own ap z es,v] := by
  match out,hret with
  | [x],hret =>
   exfalso
   have hx : AV.tup [.own ap z es,v] = x := hret
   subst hx
   have h4 : (un (resL res []) [.tup [.own ap z es,v]]).env 0 = .tup [.own ap z es,v] := h3 0 (by rw [← hol]; simp)
   have h5 := e' 0
   rw [h4] at h5
   generalize vals.getD 0 undef = u at h5
   cases h5 with
   | tup us a1 a2 =>
    have := a2 0 (by simp)
    cases this
  | [],hret => cases hret
  | [a,b],hret =>
   have : AV.tup [.own ap z es,v] = .tup [a,b] := hret
   rw [AV.tup.inj this]
  | _ :: _ :: _ :: _,hret => cases hret
 subst hout
 have htwo : vals.size = 2 := by rw [hs,← hol]; rfl
 have hv : oneR vals = .tuple vals := by simp [oneR,htwo]
 obtain ⟨s1,s2⟩ : (un (resL res []) [.own ap z es,v]).env 0 = .sl (pid 0) z 0 es.length ∧ (un (resL res []) [.own ap z es,v]).h (pid 0) = some (.sl ap z es) := h3 0 (by rw [← hol]; simp)
 have sh1 := h3 1 (by rw [← hol]; simp)
 rw [zX] at sh1
 have hold := k'.keeps.old
 have hrv := e' 0
 rw [s1] at hrv
 have h0 : ∀ b,T b → T' b := fun b hb => (k'.t0 b hb (fun h => h)).elim (fun h => h) fun ⟨r,hr,_⟩ => by cases hr
 have ko := k.old hold
 have fin : ∀ {T2 : Nat → Prop} {ρ2 : Rho} {u : Value},vals.getD 0 undef = u → Rv w' T2 ρ2 (.sl id z 0 es.length) u → Rv w' T2 Rho.none (demote v) (vals.getD 1 undef) → Rv w' T2 ρ2 (.tup [.sl id z 0 es.length,demote v]) (oneR vals) := by
  intro T2 ρ2 u hu r1 r2
  rw [hv]
  refine .tup vals (by simp [htwo]) fun c hc => ?_
  match c,hc with
  | 0,_ => rw [hu]; exact r1
  | 1,_ => exact r2.any
 rcases k'.rows _ _ s2 with ⟨r1,r2,r3⟩ | ⟨b,base,cur,el,r3,r4,r5,r6,r7,r8⟩
 ·subst r1
  obtain ⟨k2,g2⟩ := ko.newnil hid z (ap := ap)
  refine ⟨_,_,_,rfl,k2,(Goes.old hold).trans g2,fin rfl ?_ (shown_rv' (fr := ⟨w,fun _ _ => False,T,[],fun _ => ⟨0,0,none⟩,f.tabs,fun _ => False,fun _ h => (by cases h),fun _ h => h.elim⟩) k' e' fl h0 (fun _ h => h.elim) (by simp) sh1)⟩
  have hrv2 : Rv w' T' ρ' (.sl (pid 0) z 0 0) (vals.getD 0 undef) := hrv
  generalize vals.getD 0 undef = u at hrv2
  cases hrv2 with
  | sl q1 => rw [r3] at q1; have := congrArg Pl.loc (Option.some.inj q1); cases this
  | slz q1 => rw [r3] at q1; have := congrArg Pl.loc (Option.some.inj q1); cases this
  | slnil q1 => exact .slnil (if_pos rfl)
 ·have hge : w.heap.size ≤ b := (k'.own _ _ _ _ _ (by simp) s2 rfl r3 rfl).elim (fun h => h) False.elim
  have hlt := lt_of_cells r5
  have less : ∀ c,c < w'.heap.size → (T c ∨ c = b) → T' c := fun c _ hc => hc.elim (h0 c) fun e => e ▸ r4
  obtain ⟨k2,g2⟩ := k.new' hold hid (x := .sl ap z es) (z := z) (n := es.length) (base := base) (by omega) hge hlt (.inr ⟨b,base,cur,el,if_pos rfl,.inr rfl,r5,r6,r7,r8.mono (fun _ => rfl) fun av v hh => hh.less less⟩)
  refine ⟨_,_,_,rfl,k2,g2,fin rfl ?_ ?_⟩
  ·have hrv2 : Rv w' T' ρ' (.sl (pid 0) z 0 es.length) (vals.getD 0 undef) := hrv
   generalize vals.getD 0 undef = u at hrv2
   generalize hn0 : es.length = n0 at *
   cases hrv2 with
   | sl q1 q2 q3 q4 q5 => rw [r3] at q1; cases q1; exact .sl (if_pos rfl) q2 q3 q4 q5
   | slz q1 q2 => rw [r3] at q1; cases q1; exact .slz (if_pos rfl) q2
   | slnil q1 => rw [r3] at q1; have := congrArg Pl.loc (Option.some.inj q1); cases this
  ·have plain : (un (resL res []) [.own ap z es,v]).env 1 = v → Rv w' (fun a => T a ∨ a = b) Rho.none (demote v) (vals.getD 1 undef) := by
    intro hxe
    rcases fl 1 with q1 | q1
    ·rw [hxe] at q1
     cases v <;> simp [isRef] at q1 <;> exact .junk
    ·rw [hxe] at q1
     exact demote_rv (q1.less less)
   cases v with
   | own ap2 z2 es2 =>
    obtain ⟨q1,q2⟩ : (un (resL res []) [.own ap z es,.own ap2 z2 es2]).env 1 = .sl (pid 1) z2 0 es2.length ∧ (un (resL res []) [.own ap z es,.own ap2 z2 es2]).h (pid 1) = some (.sl ap2 z2 es2) := sh1
    have hv1 := e' 1
    rw [q1] at hv1
    have := tell0_rv (T' := fun a => T a ∨ a = b) k'.rows less hv1 (fun r hr b2 hb => by
     simp only [ref0,ja] at hr
     subst hr
     obtain ⟨x,p,base2,hx,hlv,hρ,hloc⟩ := hb
     intro hb2
     have hge2 : w.heap.size ≤ b2 := (k'.own _ _ _ _ _ (by simp) hx hlv hρ hloc).elim (fun h => h) False.elim
     rcases hb2 with m1 | m1
     ·have := k.tlt b2 m1; omega
     ·exact k'.sep (pid 1) (pid 0) x _ (by unfold pid; omega) hx s2 hlv rfl p _ b2 base2 b base hρ r3 hloc rfl m1) (by intros; simp) (by intros; simp) (by intros; simp)
    simpa [tell0,q2,Row.win,demote] using this
   | ownp cs => exact .junk
   | junk => exact .junk
   | b | i | s | np | ns | l | tp | sl | p | agg | tup | back => exact plain sh1
theorem op_callo (k : WInv f w T ρ h) (he : Env w T ρ e a) {c : Go.Call} {g g' id : Nat} {ys : List At} {res : List (PR × Nat)} {av : AV} {h' : Heap} (call : Call) (ho : o.op = .call c) (hcal : c.callee = .value (.func g')) (hm : mas f.tabs c.args.toList ys = true) (hb : bodied P g' = true)
  (hk : ∀ x ∈ res,x.2 ≤ 1) (hc : ∀ xs r,xs.length = ys.length → call g xs = some r → CallOk P g' res [] f.tabs xs r) (hv : PO.ev call (.callo g ys id) e h = some (av,h')) : Goes1 P f o a w T ρ av h' := by
 simp only [PO.ev,callO,zy] at hv
 obtain ⟨r,hr,hv⟩ := hv
 obtain ⟨hlen,hrv⟩ := mas_rv k he hm
 obtain ⟨T1,k1,g1,hfree,_⟩ := k.freeze ((ys.map (At.ev e)).flatMap (ref h))
 have hrun : (execOp a.eval o).run P w = .ok (.enter g' (c.args.map a.eval)) w := by
  simp [execOp,ho,resolve,hcal,Act.eval,Deferred.ofValue,invoke,run_callFunc hb]
 unfold ownR at hv
 split at hv
 ·rename_i ap z es
  split at hv
  ·rename_i hid
   cases hv
   have hcalls := call_own k1 (vs := c.args.map a.eval) hk (hc _ _ (by simp) hr) (by simp [← hlen]) (fun j hj => by
    simp only [zC] at hj
    have h1 := hrv j hj
    rw [getD_map_lt (tell h) _ j .junk .junk (by simpa using hj)]
    have h2 : (c.args.map a.eval).getD j undef = (c.args.toList.map a.eval).getD j undef := by simp [zo]
    rw [h2]
    exact tell_rv k.rows g1.less h1 fun r hr' b hb => hfree r (List.mem_flatMap.2 ⟨_,getD_mem .junk (by simpa using hj),hr'⟩) b hb) (id := id) (freeze_none.2 (by simpa using hid))
   intro K Q hK
   unfold Oper.wp
   rw [hrun]
   refine hcalls.mono fun e w' hw => ?_
   obtain ⟨v,T2,ρ2,rfl,k2,g2,r2⟩ := hw
   exact hK v w' T2 ρ2 k2 (g1.trans g2) r2
  ·cases hv
 ·cases hv
  have hcalls := call_told k1 (vs := c.args.map a.eval) hk (hc _ _ (by simp) hr) (by simp [← hlen]) fun j hj => by
   simp only [zC] at hj
   have h1 := hrv j hj
   rw [getD_map_lt (tell h) _ j .junk .junk (by simpa using hj)]
   have h2 : (c.args.map a.eval).getD j undef = (c.args.toList.map a.eval).getD j undef := by simp [zo]
   rw [h2]
   exact tell_rv k.rows g1.less h1 fun r hr' b hb => hfree r (List.mem_flatMap.2 ⟨_,getD_mem .junk (by simpa using hj),hr'⟩) b hb
  intro K Q hK
  unfold Oper.wp
  rw [hrun]
  refine hcalls.mono fun e w' hw => ?_
  obtain ⟨v,rfl,hold,hrv'⟩ := hw
  exact hK v w' T1 ρ (k1.old hold) (g1.trans (Goes.old hold)) (Rv.any hrv')
 ·rename_i ap z es v
  split at hv
  ·rename_i hid
   cases hv
   have hcalls := call_own2 k1 (vs := c.args.map a.eval) hk (hc _ _ (by simp) hr) (by simp [← hlen]) (fun j hj => by
    simp only [zC] at hj
    have h1 := hrv j hj
    rw [getD_map_lt (tell h) _ j .junk .junk (by simpa using hj)]
    have h2 : (c.args.map a.eval).getD j undef = (c.args.toList.map a.eval).getD j undef := by simp [zo]
    rw [h2]
    exact tell_rv k.rows g1.less h1 fun r hr' b hb => hfree r (List.mem_flatMap.2 ⟨_,getD_mem .junk (by simpa using hj),hr'⟩) b hb) (id := id) (freeze_none.2 (by simpa using hid))
   intro K Q hK
   unfold Oper.wp
   rw [hrun]
   refine hcalls.mono fun e w' hw => ?_
   obtain ⟨v,T2,ρ2,rfl,k2,g2,r2⟩ := hw
   exact hK v w' T2 ρ2 k2 (g1.trans g2) r2
  ·cases hv
 ·cases hv
end
section
variable {P : Program} {f : Fr} {w w' : World} {T T' : Nat → Prop} {ρ ρ' : Rho} {h : Heap} {e : Nat → AV} {a : Act} {o : Oper}
theorem parN_nest {li : Nat} : ∀ (xs : List AV) (k : Nat) (st : St),k + xs.length ≤ 1000 → (∀ j,j < xs.length → k + j ≠ li → ∀ g q,un1 g q (xs.getD j .junk) = (xs.getD j .junk,g)) →
  (unpack (parN [li + 1000] k xs) xs st).h = (if k ≤ li ∧ li < k + xs.length then (unN st.h (lid (li + 1000)) (xs.getD (li - k) .junk)).2 else st.h) ∧
  (∀ t,t < k ∨ k + xs.length ≤ t → (unpack (parN [li + 1000] k xs) xs st).env t = st.env t) ∧
  ∀ j,j < xs.length → (unpack (parN [li + 1000] k xs) xs st).env (k + j) = if k + j = li then (unN st.h (lid (li + 1000)) (xs.getD j .junk)).1 else xs.getD j .junk := by
 intro xs
 induction xs with
 | nil => intro k st _ _; exact ⟨by simp only [List.length_nil]; rw [if_neg (by omega)]; rfl,fun _ _ => rfl,fun j hj => by cases hj⟩
 | cons x xs ih =>
  intro k st hk1 hx
  rw [zF] at hk1
  by_cases hk : k = li
  ·subst hk
   have hun : unpack (parN [k + 1000] k (x :: xs)) (x :: xs) st = unpack (parN [k + 1000] (k + 1) xs) xs ⟨upd st.env k (unN st.h (lid (k + 1000)) x).1,(unN st.h (lid (k + 1000)) x).2⟩ := by
    show unpack ((k,if k ∈ [k + 1000] then 3 else if k + 1000 ∈ [k + 1000] then 6 else 0) :: parN [k + 1000] (k + 1) xs) (x :: xs) st = _
    rw [if_neg (show ¬ k ∈ [k + 1000] by simp),if_pos (by simp)]
    rfl
   rw [hun]
   obtain ⟨h1,h2,h3⟩ := ih (k + 1) ⟨upd st.env k (unN st.h (lid (k + 1000)) x).1,(unN st.h (lid (k + 1000)) x).2⟩ (by omega) (fun j hj hne => hx (j + 1) (by simpa using hj) (by omega))
   refine ⟨?_,fun t ht => ?_,fun j hj => ?_⟩
   ·rw [h1,if_neg (by omega),if_pos (by simp)]
    simp
   ·rw [h2 t (by simp only [zF] at ht; omega)]
    simp only [upd]
    rw [if_neg (by simp only [zF] at ht; omega)]
   ·cases j with
    | zero =>
     rw [if_pos (Nat.add_zero k)]
     show (unpack (parN [k + 1000] (k + 1) xs) xs _).env k = _
     rw [h2 k (by omega)]
     simp [upd]
    | succ j =>
     rw [if_neg (by omega),show k + (j + 1) = k + 1 + j by omega,h3 j (by simpa using hj),if_neg (by omega)]
     rfl
  ·have h0 := hx 0 (by simp) (by omega) st.h (pid k)
   simp only [List.getD_cons_zero] at h0
   have hun : unpack (parN [li + 1000] k (x :: xs)) (x :: xs) st = unpack (parN [li + 1000] (k + 1) xs) xs ⟨upd st.env k x,st.h⟩ := by
    show unpack ((k,if k ∈ [li + 1000] then 3 else if k + 1000 ∈ [li + 1000] then 6 else 0) :: parN [li + 1000] (k + 1) xs) (x :: xs) st = _
    rw [if_neg (show ¬ k ∈ [li + 1000] by simp; omega),if_neg (by simp; omega)]
    simp only [unpack,h0]
   rw [hun]
   obtain ⟨h1,h2,h3⟩ := ih (k + 1) ⟨upd st.env k x,st.h⟩ (by omega) (fun j hj hne => hx (j + 1) (by simpa using hj) (by omega))
   refine ⟨?_,fun t ht => ?_,fun j hj => ?_⟩
   ·rw [h1]
    by_cases hc : k + 1 ≤ li ∧ li < k + 1 + xs.length
    ·rw [if_pos hc,if_pos (by simp only [zF]; omega),show li - k = (li - (k + 1)) + 1 by omega]
     rfl
    ·rw [if_neg hc,if_neg (by simp only [zF]; omega)]
   ·rw [h2 t (by simp only [zF] at ht; omega)]
    simp only [upd]
    rw [if_neg (by simp only [zF] at ht; omega)]
   ·cases j with
    | zero =>
     rw [if_neg (by omega)]
     show (unpack (parN [li + 1000] (k + 1) xs) xs _).env k = _
     rw [h2 k (by omega)]
     simp [upd]
    | succ j =>
     rw [show k + (j + 1) = k + 1 + j by omega,h3 j (by simpa using hj)]
     rfl
theorem unL_cell : ∀ (xs : List AV) (s : Nat) (g : Heap) (c : Nat),c < xs.length → (∃ ap z es,xs.getD c .junk = .own ap z es ∧ (unL s g xs).1.getD c .junk = .sl (s + c) z 0 es.length ∧ (unL s g xs).2 (s + c) = some (.sl ap z es)) ∨ ((∀ ap z es,xs.getD c .junk ≠ .own ap z es) ∧ (unL s g xs).1.getD c .junk = xs.getD c .junk ∧ (unL s g xs).2 (s + c) = g (s + c)) := by
 intro xs
 induction xs with
 | nil => intro s g c hc; cases hc
 | cons x xs ih =>
  intro s g c hc
  cases c with
  | zero =>
   rw [Nat.add_zero]
   have hl : (unL (s + 1) (unC s g x).2 xs).2 s = (unC s g x).2 s := unL_other _ _ _ (by omega)
   have e1 : (unL s g (x :: xs)).1.getD 0 .junk = (unC s g x).1 := rfl
   have e2 : (unL s g (x :: xs)).2 s = (unC s g x).2 s := hl
   rw [e1,e2]
   show (∃ ap z es,x = .own ap z es ∧ _) ∨ ((∀ ap z es,x ≠ .own ap z es) ∧ _ = x ∧ _)
   by_cases hx : ∃ ap z es,x = .own ap z es
   ·obtain ⟨ap,z,es,rfl⟩ := hx
    exact .inl ⟨ap,z,es,rfl,rfl,by simp [unC,Heap.put]⟩
   ·refine .inr ⟨fun ap z es e => hx ⟨ap,z,es,e⟩,?_⟩
    cases x <;> first | exact ⟨rfl,rfl⟩ | exact absurd ⟨_,_,_,rfl⟩ hx
  | succ c =>
   have := ih (s + 1) (unC s g x).2 c (by simpa using hc)
   rw [show s + (c + 1) = s + 1 + c by omega]
   have e : (unC s g x).2 (s + 1 + c) = g (s + 1 + c) := unC_other (by omega) g x
   rw [e] at this
   exact this
theorem nestC_inv {ls2 : List Nat} {h h' : Heap} {x y : AV} (k : WInv f w T ρ h) (hn : nestC ls2 h x = some (y,h')) : WInv f w T ρ h' := by
 unfold nestC at hn
 split at hn
 ·cases hn; exact k
 ·split at hn
  ·cases hn
  ·split at hn
   ·rename_i hrow
    cases hn
    exact k.kill hrow
   ·cases hn; exact k
   ·cases hn
 ·cases hn; exact k
theorem nestC_live {ls2 : List Nat} {h h' : Heap} {x y : AV} (hn : nestC ls2 h x = some (y,h')) : ∀ q z,h' q = some z → z.live = true → h q = some z := by
 intro q z hq hz
 unfold nestC at hn
 split at hn
 ·cases hn; exact hq
 ·split at hn
  ·cases hn
  ·split at hn
   ·cases hn
    simp only [Heap.put] at hq
    split at hq
    ·cases hq; cases hz
    ·exact hq
   ·cases hn; exact hq
   ·cases hn
 ·cases hn; exact hq
theorem nestL_inv {ls2 : List Nat} : ∀ (xs : List AV) {h h' : Heap} {ys : List AV},WInv f w T ρ h → nestL ls2 h xs = some (ys,h') → WInv f w T ρ h' ∧ (∀ q z,h' q = some z → z.live = true → h q = some z) ∧
  ∀ c ap z es,c < xs.length → ys.getD c .junk = .own ap z es → xs.getD c .junk = .ns z ∨ ∃ q o n x,xs.getD c .junk = .sl q z o n ∧ q ∉ ls2 ∧ h q = some x ∧ x.live = true := by
 intro xs
 induction xs with
 | nil => intro h h' ys k hn; cases hn; exact ⟨k,fun _ _ h _ => h,fun c _ _ _ hc => by cases hc⟩
 | cons x xs ih =>
  intro h h' ys k hn
  simp only [nestL,zy,zw] at hn
  obtain ⟨⟨y,h1⟩,hc,⟨ys',h2⟩,hl,he⟩ := hn
  cases he
  obtain ⟨k2,l2,c2⟩ := ih (nestC_inv k hc) hl
  have l1 := nestC_live hc
  refine ⟨k2,fun q z hq hz => l1 q z (l2 q z hq hz) hz,fun c ap z es hcl hy => ?_⟩
  cases c with
  | zero =>
   have hy' : y = .own ap z es := hy
   subst hy'
   show x = .ns z ∨ ∃ q o n x',x = .sl q z o n ∧ _
   unfold nestC at hc
   split at hc
   ·cases hc; exact .inl rfl
   ·split at hc
    ·cases hc
    ·rename_i hq
     split at hc
     ·rename_i hrow
      cases hc
      exact .inr ⟨_,_,_,_,rfl,hq,hrow,rfl⟩
     ·cases hc
     ·cases hc
   ·rename_i n1 n2
    exfalso
    cases x <;> simp [tell0] at hc
    all_goals first
     | exact n1 _ rfl
     | exact n2 _ _ _ _ rfl
     | skip
  | succ c =>
   rcases c2 c ap z es (by simpa using hcl) hy with h3 | ⟨q,o,n,x',h3,h4,h5,h6⟩
   ·exact .inl h3
   ·exact .inr ⟨q,o,n,x',h3,h4,l1 q x' h5 h6,h6⟩
theorem unL_none : ∀ (xs : List AV) (s : Nat) (q : Nat),q < s ∨ s + xs.length ≤ q → (unL s Heap.none xs).2 q = none := fun xs s q h => by rw [unL_out xs s Heap.none q h]; rfl
theorem demoteN_own {ap : Bool} {z : Nat} {es : List (List AV)} : demoteN (.own ap z es) = .own ap z es := rfl
theorem demoteN_not {v : AV} (h : ∀ ap z es,v ≠ .own ap z es) : demoteN v = demote v := by
 cases v <;> first | rfl | exact absurd rfl (h _ _ _)
theorem demote_not_own {v : AV} : ∀ ap z es,demote v ≠ .own ap z es := by
 intro ap z es
 cases v <;> simp [demote]
theorem sl_at {v : Value} {s z o n : Nat} (h1 : Rv w T ρ (.sl s z o n) v) : ∃ p,ρ s = some p ∧ ((∃ b base off m cap,p.loc = some (b,base) ∧ v = .slice (some ⟨b,off,none⟩) m cap) ∨ (p.loc = none ∧ v = .slice none 0 0)) := by
 cases h1 with
 | sl hr => exact ⟨_,hr,.inl ⟨_,_,_,_,_,rfl,rfl⟩⟩
 | slz hr => exact ⟨_,hr,.inl ⟨_,_,_,_,_,rfl,rfl⟩⟩
 | slnil hr => exact ⟨_,hr,.inr ⟨rfl,rfl⟩⟩
theorem sl_loc {v : Value} {s q z z' o o' n m : Nat} {ρ1 ρ2 : Rho} (h1 : Rv w T ρ1 (.sl s z o' n) v) (h2 : Rv w T' ρ2 (.sl q z' o m) v) {p : Pl} {b base : Nat} (hp : ρ1 s = some p) (hl : p.loc = some (b,base)) : ∃ p' base',ρ2 q = some p' ∧ p'.loc = some (b,base') := by
 obtain ⟨p1,e1,h3⟩ := sl_at h1
 obtain ⟨p2,e2,h4⟩ := sl_at h2
 rw [hp] at e1
 cases e1
 rcases h3 with ⟨b1,c1,f1,m1,k1,g1,rfl⟩ | ⟨g1,_⟩
 ·rw [hl] at g1
  cases g1
  rcases h4 with ⟨b2,c2,f2,m2,k2,g2,g3⟩ | ⟨_,g3⟩
  ·cases g3
   exact ⟨_,_,e2,g2⟩
  ·cases g3
 ·rw [hl] at g1
  cases g1
end
section
variable {P : Program} {f : Fr} {w w' : World} {T T' : Nat → Prop} {ρ ρ' : Rho} {h : Heap} {e : Nat → AV} {a : Act} {o : Oper}
def frW (f : Fr) : Fr := ⟨f.w0,fun _ _ => True,fun _ => False,[],f.pl0,f.tabs,fun _ => True,fun _ h => (by cases h),fun _ _ _ => trivial⟩
theorem WInv.weak (k : WInv f w T ρ h) : WInv (frW f) w T ρ h :=
 ⟨⟨k.keeps.os,k.keeps.tape,k.keeps.output,k.keeps.size,fun b hb => (k.keeps.block b hb).imp id fun ⟨c,c',e,fr,h1,h2,h3,_⟩ => ⟨c,c',e,fr,h1,h2,h3,fun _ h => absurd trivial h⟩⟩,k.tlt,k.rows,k.dom,k.sep,
  fun _ _ _ _ _ _ _ _ _ => .inr ⟨fun _ _ _ => trivial,fun _ _ => trivial⟩,fun _ h => h.elim,fun _ h => (by cases h),fun _ _ _ _ _ _ _ _ _ _ => .inr trivial,fun _ h => h.elim,fun _ h => (by cases h),k.tab⟩
def nB (L : Nat) (ρ0 : Rho) (h0 : Heap) (b : Nat) : Prop := ∃ s x p base,s ≠ L ∧ h0 s = some x ∧ x.live = true ∧ ρ0 s = some p ∧ p.loc = some (b,base)
def frN (w : World) (T : Nat → Prop) (i : Nat) (pl : Pl) (tabs : List (Nat × List AV)) (N : Nat → Prop) : Fr :=
 ⟨w,fun b o => (∃ base,pl.loc = some (b,base) ∧ base ≤ o ∧ o < base + pl.n * pl.z) ∨ N b,T,[lid i],fun _ => pl,tabs,N,fun r hr => by rw [List.mem_singleton.1 hr]; exact isLid_lid i,fun _ h _ => .inr h⟩
theorem graft (k : WInv f w T ρ h) {w' : World} {W : Nat → Nat → Prop} (hw : Keeps W w w') {r n id L : Nat} {cs cs2 : List AV} {b base : Nat} (hr : h r = some (.st cs)) (hp : ρ r = some ⟨n,1,some (b,base)⟩) (hn : cs.length = n) (hn2 : cs2.length = n) (hid : ∀ c,c < n → h (id + c) = none)
  {N : Nat → Prop} (hW : ∀ b' o,W b' o → (b' = b ∧ base ≤ o ∧ o < base + n) ∨ N b') (hNT : ∀ b,N b → T b) (hNf : ∀ b,N b → f.w0.heap.size ≤ b ∨ f.N0 b) (hNr : ¬ N b) (hNo : ∀ q x p b base,h q = some x → x.live = true → ρ q = some p → p.loc = some (b,base) → ¬ N b)
  {Tc : Nat → Prop} {ρ1 : Rho} {h1 : Heap} (hTc : ∀ b,T b → ¬ N b → Tc b) (rows : ∀ q x,h1 q = some x → RowOk w' Tc ρ1 q x) (dom : ∀ q,h1 q = none → ρ1 q = none) (hL : h1 L = some (.st (unL (L + 1) Heap.none cs2).1)) (hLp : ρ1 L = some ⟨n,1,some (b,base)⟩)
  (hc : ∀ c,c < n → h1 (L + 1 + c) = (unL (L + 1) Heap.none cs2).2 (L + 1 + c)) (sep : ∀ r r' x x',r ≠ r' → h1 r = some x → h1 r' = some x' → x.live = true → x'.live = true → ∀ p p' b base b' base',ρ1 r = some p → ρ1 r' = some p' → p.loc = some (b,base) → p'.loc = some (b',base') → b ≠ b')
  (hown : ∀ c x p b base,c < n → h1 (L + 1 + c) = some x → x.live = true → ρ1 (L + 1 + c) = some p → p.loc = some (b,base) → w.heap.size ≤ b ∨ N b) :
  ∃ T' ρ',WInv f w' T' ρ' ((unL id h (cs2.map demoteN)).2.put r (.st (unL id h (cs2.map demoteN)).1)) ∧ Goes w w' T T' ρ ρ' ∧ (∀ b,T' b → Tc b) ∧ ∀ b,T' b → (T b ∧ ¬ N b) ∨ ∃ c x p base,c < n ∧ h1 (L + 1 + c) = some x ∧ x.live = true ∧ ρ1 (L + 1 + c) = some p ∧ p.loc = some (b,base) := by
 let Bn : Nat → Prop := fun b => ∃ c x p base,c < n ∧ h1 (L + 1 + c) = some x ∧ x.live = true ∧ ρ1 (L + 1 + c) = some p ∧ p.loc = some (b,base)
 let T' : Nat → Prop := fun b => (T b ∧ ¬ N b) ∨ Bn b
 let ρ' : Rho := fun q => if id ≤ q ∧ q < id + n then ρ1 (L + 1 + (q - id)) else ρ q
 let cs3 := cs2.map demoteN
 have hl3 : cs3.length = n := by show (cs2.map demoteN).length = n; rw [zC]; exact hn2
 have hTb : T b := (k.rows r _ hr).inT rfl _ b base hp rfl
 have hWT : ∀ b' o,b' < w.heap.size → W b' o → T b' := fun b' o _ hh => by
  rcases hW b' o hh with ⟨h1,_⟩ | h1
  ·exact h1 ▸ hTb
  ·exact hNT _ h1
 have hsame : Same T w w' := hw.same hWT
 have hless : ∀ b,b < w.heap.size → T' b → T b := fun b' hb' ht => by
  rcases ht with ⟨h1,_⟩ | ⟨c,x,p,base',hcn,h2,h3,h4,h5⟩
  ·exact h1
  ·rcases hown c x p b' base' hcn h2 h3 h4 h5 with h6 | h6
   ·omega
   ·exact hNT _ h6
 have hBc : ∀ b,Bn b → Tc b := fun b' ⟨c,x,p,base',hcn,h2,h3,h4,h5⟩ => (rows _ _ h2).inT h3 p b' base' h4 h5
 have hTTc : ∀ b,T' b → Tc b := fun b' ht => ht.elim (fun h => hTc b' h.1 h.2) (hBc b')
 have hmore : ∀ q p,ρ q = some p → ρ' q = some p := fun q p hq => by
  show (if id ≤ q ∧ q < id + n then ρ1 (L + 1 + (q - id)) else ρ q) = some p
  rw [if_neg ?_]
  ·exact hq
  ·rintro ⟨h1,h2⟩
   have := hid (q - id) (by omega)
   rw [show id + (q - id) = q by omega] at this
   rw [k.dom q this] at hq
   cases hq
 have hρc : ∀ c,c < n → ρ' (id + c) = ρ1 (L + 1 + c) := fun c hcn => by
  show (if id ≤ id + c ∧ id + c < id + n then ρ1 (L + 1 + (id + c - id)) else ρ (id + c)) = _
  rw [if_pos (by omega),Nat.add_sub_cancel_left]
 have hgoes : Goes w w' T T' ρ ρ' := ⟨hsame,hless,hmore⟩
 have hrid : ∀ c,c < n → r ≠ id + c := fun c hcn e => by have := hid c hcn; rw [← e,hr] at this; cases this
 -- the new heap
 let h' : Heap := (unL id h cs3).2.put r (.st (unL id h cs3).1)
 have get3 : ∀ c,c < n → cs3.getD c .junk = demoteN (cs2.getD c .junk) := fun c hcn => getD_map_lt demoteN cs2 c .junk .junk (by omega)
 have old : ∀ q x,h' q = some x → (q = r ∧ x = .st (unL id h cs3).1) ∨ (q ≠ r ∧ ∃ c ap z es,c < n ∧ q = id + c ∧ cs2.getD c .junk = .own ap z es ∧ x = .sl ap z es ∧ h1 (L + 1 + c) = some (.sl ap z es)) ∨ (q ≠ r ∧ (∀ c,c < n → q ≠ id + c) ∧ h q = some x) := by
  intro q x hq
  by_cases e1 : q = r
  ·subst e1
   simp only [h',Heap.put,if_true] at hq
   cases hq
   exact .inl ⟨rfl,rfl⟩
  ·have hq2 : (unL id h cs3).2 q = some x := by
    simp only [h',Heap.put] at hq
    rw [if_neg e1] at hq
    exact hq
   by_cases e2 : id ≤ q ∧ q < id + n
   ·have hcn : q - id < n := by omega
    rcases unL_cell cs3 id h (q - id) (by omega) with ⟨ap,z,es,h2,h3,h4⟩ | ⟨h2,h3,h4⟩
    ·rw [show id + (q - id) = q by omega,hq2] at h4
     cases h4
     rw [get3 _ hcn] at h2
     have h5 : cs2.getD (q - id) .junk = .own ap z es := by
      by_cases hh : ∃ a z e,cs2.getD (q - id) .junk = .own a z e
      ·obtain ⟨a,z,e,hh⟩ := hh
       rw [hh,demoteN_own] at h2
       rw [hh,h2]
      ·rw [demoteN_not fun a z e h => hh ⟨a,z,e,h⟩] at h2
       exact absurd h2 (demote_not_own _ _ _)
     refine .inr (.inl ⟨e1,q - id,ap,z,es,hcn,by omega,h5,rfl,?_⟩)
     rw [hc _ hcn]
     rcases unL_cell cs2 (L + 1) Heap.none (q - id) (by omega) with ⟨a2,z2,e2',k1,k2,k3⟩ | ⟨k1,_⟩
     ·rw [h5] at k1; cases k1; exact k3
     ·exact absurd h5 (k1 _ _ _)
    ·rw [show id + (q - id) = q by omega] at h4
     rw [h4] at hq2
     have := hid (q - id) hcn
     rw [show id + (q - id) = q by omega] at this
     rw [this] at hq2
     cases hq2
   ·refine .inr (.inr ⟨e1,fun c hcn e => e2 (by omega),?_⟩)
    rw [unL_out cs3 id h q (by rw [hl3]; omega)] at hq2
    exact hq2
 have hρr : ρ' r = some ⟨n,1,some (b,base)⟩ := hmore _ _ hp
 have hρo : ∀ q,(∀ c,c < n → q ≠ id + c) → ρ' q = ρ q := fun q hq => by
  show (if id ≤ q ∧ q < id + n then ρ1 (L + 1 + (q - id)) else ρ q) = ρ q
  rw [if_neg fun ⟨h1,h2⟩ => hq (q - id) (by omega) (by omega)]
 -- blocks of rows that were there all the time are as they were
 have hblk : ∀ q x p b' base',q ≠ r → h q = some x → x.live = true → ρ q = some p → p.loc = some (b',base') → w'.heap[b']? = w.heap[b']? ∧ T' b' := by
  intro q x p b' base' hne hq hx hpq hl
  have hTq := (k.rows q x hq).inT hx p b' base' hpq hl
  have hNq := hNo q x p b' base' hq hx hpq hl
  refine ⟨?_,.inl ⟨hTq,hNq⟩⟩
  have hbne : b' ≠ b := k.sep q r x _ hne hq hr hx rfl p _ b' base' b base hpq hp hl rfl
  rcases hw.block b' (k.tlt b' hTq) with h2 | ⟨d,d',e,fr,h2,h3,h4,h5⟩
  ·exact h2
  ·rw [h2,h3]
   have : d' = d := by
    apply Array.ext_getElem?
    intro o
    exact h5 o fun hh => by
     rcases hW b' o hh with ⟨h6,_⟩ | h6
     ·exact hbne h6
     ·exact hNq h6
   rw [this]
 have okL := rows L _ hL
 refine ⟨T',ρ',⟨k.keeps.trans hw fun b' o hb' hh => ?_,fun b' ht => ?_,fun q x hq => ?_,fun q hq => ?_,fun q q' x x' hne hq hq' hx hx' p p' c cb c' cb' hpq hpq' hl hl' => ?_,fun q x p c cb hq hx hpq hl => ?_,fun b' hb' hn' => ?_,fun q hq => hmore _ _ (k.lp q hq),fun q x p c cb hql hq hx hpq hl => ?_,k.t0lt,fun q hql x hq => ?_,fun p hpt => (k.tab p hpt).mono hsame hless fun _ _ h => h⟩,hgoes,hTTc,fun _ ht => ht⟩
 ·-- what may be written
  rcases hW b' o hh with ⟨rfl,h2,h3⟩ | h2
  ·rcases k.wr r _ _ _ _ hr rfl hp rfl with h4 | ⟨h4,_⟩
   ·omega
   ·exact h4 o h2 (by show o < base + 1 * n; omega)
  ·rcases hNf b' h2 with h4 | h4
   ·omega
   ·exact f.n0w b' h4 o
 ·rcases ht with ⟨h2,_⟩ | ⟨c,x,p,base',hcn,h2,h3,h4,h5⟩
  ·exact je (k.tlt b' h2) hw.size
  ·exact (rows _ _ h2).lt (by cases x <;> simp_all [Row.live]) p b' base' h4 h5
 ·-- rows
  rcases old q x hq with ⟨rfl,rfl⟩ | ⟨hne,c,ap,z,es,hcn,rfl,hown2,rfl,hh1⟩ | ⟨hne,hnid,hq'⟩
  ·obtain ⟨bb,bs,cur,el,s3,s4,s5,s6,s7⟩ := okL
   rw [hLp] at s3
   have s3n := congrArg Pl.z (Option.some.inj s3)
   have s3l := congrArg Pl.loc (Option.some.inj s3)
   simp only at s3n s3l
   cases s3l
   have hul : (unL id h cs3).1.length = n := by rw [unL_len,hl3]
   have hul2 : (unL (L + 1) Heap.none cs2).1.length = n := by rw [unL_len,hn2]
   refine ⟨b,base,cur,el,by rw [hul]; exact hρr,.inl ⟨hTb,hNr⟩,s5,by rw [hul]; rw [hul2] at s6; exact s6,⟨fun j hj => ?_,fun j c hj hcz => ?_⟩⟩
   ·cases j with
    | zero => rfl
    | succ j => simp at hj
   ·cases j with
    | succ j => simp at hj
    | zero =>
     rw [hul] at hcz
     obtain ⟨v,t1,t2,t3⟩ := s7.cell 0 c (by simp) (by rw [hul2]; exact hcz)
     refine ⟨v,by simpa only [Nat.zero_mul] using t1,t2,?_⟩
     show Rv w' T' ρ' ((unL id h cs3).1.getD c .junk) v
     have t3' : Rv w' Tc ρ1 ((unL (L + 1) Heap.none cs2).1.getD c .junk) v := t3
     rcases unL_cell cs2 (L + 1) Heap.none c (by omega) with ⟨ap,z,es,k1,k2,k3⟩ | ⟨k1,k2,k3⟩
     ·have g3 : cs3.getD c .junk = .own ap z es := by rw [get3 c hcz,k1,demoteN_own]
      rcases unL_cell cs3 id h c (by omega) with ⟨a2,z2,e2,m1,m2,m3⟩ | ⟨m1,_⟩
      ·rw [g3] at m1
       cases m1
       rw [m2]
       rw [k2] at t3'
       have e1 := hρc c hcz
       generalize es.length = len at *
       cases t3' with
       | sl q1 q2 q3 q4 q5 => exact .sl (by rw [e1]; exact q1) q2 q3 q4 q5
       | slz q1 q2 => exact .slz (by rw [e1]; exact q1) q2
       | slnil q1 => exact .slnil (by rw [e1]; exact q1)
      ·exact absurd g3 (m1 _ _ _)
     ·have g3 : cs3.getD c .junk = demote (cs2.getD c .junk) := by rw [get3 c hcz,demoteN_not k1]
      rcases unL_cell cs3 id h c (by omega) with ⟨a2,z2,e2,m1,m2,m3⟩ | ⟨m1,m2,m3⟩
      ·rw [g3] at m1
       exact absurd m1 (demote_not_own _ _ _)
      ·rw [m2,g3]
       rw [k2] at t3'
       exact ((demote_any t3' t2).less fun b' _ hb' => hTTc b' hb').any
  ·rcases rows _ _ hh1 with ⟨r1,r2,r3⟩ | ⟨bb,bs,cur,el,r3,r4,r5,r6,r7,r8⟩
   ·exact .inl ⟨r1,r2,by rw [hρc c hcn]; exact r3⟩
   ·exact .inr ⟨bb,bs,cur,el,by rw [hρc c hcn]; exact r3,.inr ⟨c,_,_,bs,hcn,hh1,rfl,r3,rfl⟩,r5,r6,r7,r8.mono (fun _ => rfl) fun av v hh => hh.less fun b' _ hb' => hTTc b' hb'⟩
  ·exact (k.rows q x hq').mono hsame hless hmore fun p b' base' hpq hl hx => hblk q x p b' base' hne hq' hx hpq hl
 ·-- rows that are not there
  have hne : q ≠ r := fun e => by
   subst e
   simp [h',Heap.put] at hq
  have hq2 : (unL id h cs3).2 q = none := by
   simp only [Heap.put] at hq
   rw [if_neg hne] at hq
   exact hq
  by_cases e2 : id ≤ q ∧ q < id + n
  ·show (if id ≤ q ∧ q < id + n then ρ1 (L + 1 + (q - id)) else ρ q) = none
   rw [if_pos e2]
   have hcn : q - id < n := by omega
   refine dom _ ?_
   rw [hc _ hcn]
   rcases unL_cell cs3 id h (q - id) (by omega) with ⟨ap,z,es,k1,k2,k3⟩ | ⟨k1,k2,k3⟩
   ·rw [show id + (q - id) = q by omega,hq2] at k3; cases k3
   ·rcases unL_cell cs2 (L + 1) Heap.none (q - id) (by omega) with ⟨ap,z,es,m1,m2,m3⟩ | ⟨m1,m2,m3⟩
    ·exact absurd (by rw [get3 _ hcn,m1,demoteN_own]) (k1 ap z es)
    ·rw [m3]; rfl
  ·have hq3 : h q = none := by rw [← unL_out cs3 id h q (by rw [hl3]; omega)]; exact hq2
   show (if id ≤ q ∧ q < id + n then ρ1 (L + 1 + (q - id)) else ρ q) = none
   rw [if_neg e2]
   exact k.dom q hq3
 ·-- rows lie apart
  have new : ∀ c ap z es p b' base',c < n → h1 (L + 1 + c) = some (.sl ap z es) → ρ' (id + c) = some p → p.loc = some (b',base') → (w.heap.size ≤ b' ∨ N b') ∧ b' ≠ b := by
   intro c ap z es p b' base' hcn hh hpp hll
   rw [hρc c hcn] at hpp
   refine ⟨hown c _ p b' base' hcn hh rfl hpp hll,?_⟩
   exact sep (L + 1 + c) L _ _ (by omega) hh hL rfl rfl p _ b' base' b base hpp hLp hll rfl
  have far : ∀ q x p b' base' b'',q ≠ r → h q = some x → x.live = true → ρ q = some p → p.loc = some (b',base') → (w.heap.size ≤ b'' ∨ N b'') → b' ≠ b'' := by
   intro q x p b' base' b'' _ hq hx hpq hl hh e
   subst e
   rcases hh with hh | hh
   ·have := k.tlt b' ((k.rows q x hq).inT hx p b' base' hpq hl); omega
   ·exact hNo q x p b' base' hq hx hpq hl hh
  rcases old q x hq with ⟨rfl,rfl⟩ | ⟨hne1,c1,ap,z,es,hcn,rfl,_,rfl,hh1⟩ | ⟨hne1,hnid,hq1⟩
  ·rw [hρr] at hpq
   cases hpq
   cases hl
   rcases old q' x' hq' with ⟨rfl,rfl⟩ | ⟨_,c2,ap,z,es,hcn,rfl,_,rfl,hh1⟩ | ⟨hne2,hnid,hq2⟩
   ·exact absurd rfl hne
   ·exact (new c2 ap z es p' c' cb' hcn hh1 hpq' hl').2.symm
   ·rw [hρo q' hnid] at hpq'
    exact (k.sep q' q x' _ hne2 hq2 hr hx' rfl p' _ c' cb' b base hpq' hp hl' rfl).symm
  ·have n1 := new c1 ap z es p c cb hcn hh1 hpq hl
   rcases old q' x' hq' with ⟨rfl,rfl⟩ | ⟨_,c2,ap2,z2,es2,hcn2,rfl,_,rfl,hh2⟩ | ⟨hne2,hnid,hq2⟩
   ·rw [hρr] at hpq'
    cases hpq'
    cases hl'
    exact n1.2
   ·rw [hρc _ hcn] at hpq
    rw [hρc _ hcn2] at hpq'
    exact sep _ _ _ _ (by omega) hh1 hh2 rfl rfl p p' c cb c' cb' hpq hpq' hl hl'
   ·rw [hρo q' hnid] at hpq'
    exact (far q' x' p' c' cb' c hne2 hq2 hx' hpq' hl' n1.1).symm
  ·rw [hρo q hnid] at hpq
   rcases old q' x' hq' with ⟨rfl,rfl⟩ | ⟨_,c2,ap2,z2,es2,hcn2,rfl,_,rfl,hh2⟩ | ⟨hne2,hnid2,hq2⟩
   ·rw [hρr] at hpq'
    cases hpq'
    cases hl'
    exact k.sep q q' x _ hne1 hq1 hr hx rfl p _ c cb b base hpq hp hl rfl
   ·exact far q x p c cb c' hne1 hq1 hx hpq hl (new c2 ap2 z2 es2 p' c' cb' hcn2 hh2 hpq' hl').1
   ·rw [hρo q' hnid2] at hpq'
    exact k.sep q q' x x' hne hq1 hq2 hx hx' p p' c cb c' cb' hpq hpq' hl hl'
 ·-- which may be written
  rcases old q x hq with ⟨rfl,rfl⟩ | ⟨hne1,c1,ap,z,es,hcn,rfl,_,rfl,hh1⟩ | ⟨hne1,hnid,hq1⟩
  ·rw [hρr] at hpq
   cases hpq
   cases hl
   rcases k.wr q _ _ _ _ hr rfl hp rfl with h4 | ⟨h4,_⟩
   ·exact .inl h4
   ·exact .inr ⟨h4,fun hh => by cases hh⟩
  ·rw [hρc _ hcn] at hpq
   rcases hown c1 _ p c cb hcn hh1 rfl hpq hl with h4 | h4
   ·have := k.keeps.size; exact .inl (by omega)
   ·rcases hNf c h4 with h5 | h5
    ·exact .inl h5
    ·exact .inr ⟨fun o _ _ => f.n0w c h5 o,fun _ o => f.n0w c h5 o⟩
  ·rw [hρo q hnid] at hpq
   exact k.wr q x p c cb hq1 hx hpq hl
 ·-- what must not be told
  rcases k.t0 b' hb' hn' with h2 | ⟨q,hql,hd⟩
  ·by_cases hN : N b'
   ·rcases hNf b' hN with h3 | h3
    ·have := k.t0lt b' hb'; omega
    ·exact absurd h3 hn'
   ·exact .inl (.inl ⟨h2,hN⟩)
  ·refine .inr ⟨q,hql,fun x hq => ?_⟩
   rcases old q x hq with ⟨rfl,rfl⟩ | ⟨hne1,c1,ap,z,es,hcn,rfl,_,rfl,hh1⟩ | ⟨hne1,hnid,hq1⟩
   ·have := hd _ hr; cases this
   ·have := k.lp _ hql
    rw [k.dom _ (hid c1 hcn)] at this
    cases this
   ·exact hd x hq1
 ·rcases old q x hq with ⟨rfl,rfl⟩ | ⟨hne1,c1,ap,z,es,hcn,rfl,_,rfl,hh1⟩ | ⟨hne1,hnid,hq1⟩
  ·rw [hρr] at hpq
   cases hpq
   cases hl
   exact k.own q _ _ _ _ hql hr rfl hp rfl
  ·rw [hρc _ hcn] at hpq
   rcases hown c1 _ p c cb hcn hh1 rfl hpq hl with h4 | h4
   ·have := k.keeps.size; exact .inl (by omega)
   ·exact hNf c h4
  ·rw [hρo q hnid] at hpq
   exact k.own q x p c cb hql hq1 hx hpq hl
 ·rcases old q x hq with ⟨rfl,rfl⟩ | ⟨hne1,c1,ap,z,es,hcn,rfl,_,rfl,hh1⟩ | ⟨hne1,hnid,hq1⟩
  ·rfl
  ·have := k.lp _ hql
   rw [k.dom _ (hid c1 hcn)] at this
   cases this
  ·exact k.la q hql x hq1
end
section
variable {P : Program} {f : Fr} {w w' : World} {T T' : Nat → Prop} {ρ ρ' : Rho} {h : Heap} {e : Nat → AV} {a : Act} {o : Oper}
theorem lent_n (k : WInv f w T ρ h) {g li r : Nat} {res : List (PR × Nat)} {xs : List AV} {vs : Array Value} {cs ys : List AV} {h2 : Heap} {ls2 : List Nat} (hr : h r = some (.st cs)) (hn : nestL ls2 h cs = some (ys,h2)) (hls : ∀ q z o n,AV.sl q z o n ∈ cs → q ∉ ls2 → q ∉ f.lids)
  (hli : li < xs.length) (hlx : xs.length ≤ 1000) (hl : vs.size = xs.length) (hv : Rv w T ρ (.p r 0 0) (vs.getD li undef)) (hx : ∀ j,j < xs.length → j ≠ li → Rv w T Rho.none (xs.getD j .junk) (vs.getD j undef)) (hxl : xs.getD li .junk = .ownp ys)
  (hk : ∀ x ∈ res,x.2 ≤ 1) (hrl : res.length ≤ 100) {vr : AV} {cs2 : List AV} (hc : CallOk P g res [li + 1000] f.tabs xs (.back vr [.ownp cs2])) (hn2 : cs2.length = ys.length) {id : Nat} (hid : ∀ c,c < ys.length → h2 (id + c) = none) :
  Calls P g vs w fun e w' => ∃ u T' ρ',e = .returned u ∧ WInv f w' T' ρ' ((unL id h2 (cs2.map demoteN)).2.put r (.st (unL id h2 (cs2.map demoteN)).1)) ∧ Goes w w' T T' ρ ρ' ∧ Rv w' T' Rho.none (demoteT vr) u := by
 obtain ⟨b,base,cur,el,h3,h4,h5,h6,h7⟩ := k.rows r _ hr
 obtain ⟨k2,live2,own2⟩ := nestL_inv cs k hn
 have hr2 : h2 r = some (.st cs) := nestL_keep cs hr hn
 have hyl : ys.length = cs.length := nestL_len cs hn
 have hLd : lid (li + 1000) = 300000 + 100 * li := by unfold lid; omega
 generalize hL : lid (li + 1000) = L at *
 have j0 : J (frW f) w T ρ h Rho.none St.none.env St.none.h [] ⟨vs,[]⟩ := ⟨k.weak,fun _ => .junk,fun _ _ h => (by cases h),fun _ _ => rfl,fun _ _ _ _ _ h => (by cases h),fun _ _ _ _ _ h => (by cases h),fun _ _ _ _ _ _ h => (by cases h),fun _ _ _ h => (by cases h),fun _ _ _ _ _ h => (by cases h),fun _ h => (by cases h),fun _ => .inr .junk,fun b hb => hb.elim⟩
 obtain ⟨ρ0,b',base',j1,h8,h9⟩ := j0.struct2 hr (q := L) rfl (.inr ⟨fun h => (by cases h),fun h => (by cases h)⟩) [] (.inr ⟨rfl,fun h => (by cases h)⟩) (fun _ _ _ _ _ _ h => (by cases h)) (fun c _ => ⟨rfl,fun h => (by cases h)⟩) hn
 rw [h3] at h8
 have h8l := congrArg Pl.loc (Option.some.inj h8)
 simp only at h8l
 cases h8l
 have hh0 : (unL (L + 1) St.none.h ys).2.put L (.st (unL (L + 1) St.none.h ys).1) = (unL (L + 1) Heap.none ys).2.put L (.st (unL (L + 1) Heap.none ys).1) := rfl
 rw [hh0] at j1
 generalize hH0 : (unL (L + 1) Heap.none ys).2.put L (.st (unL (L + 1) Heap.none ys).1) = h0 at j1
 have h0L : h0 L = some (.st (unL (L + 1) Heap.none ys).1) := by rw [← hH0]; simp [Heap.put]
 have h0c : ∀ s,s ≠ L → h0 s = (unL (L + 1) Heap.none ys).2 s := fun s hs => by rw [← hH0]; exact put_self_none _ hs
 have only : ∀ s x,h0 s = some x → s = L ∨ ∃ c ap z es,c < cs.length ∧ s = L + 1 + c ∧ ys.getD c .junk = .own ap z es ∧ x = .sl ap z es ∧ (unL (L + 1) Heap.none ys).1.getD c .junk = .sl s z 0 es.length := by
  intro s x hs
  by_cases e1 : s = L
  ·exact .inl e1
  ·rw [h0c s e1] at hs
   by_cases e2 : L + 1 ≤ s ∧ s < L + 1 + ys.length
   ·rcases unL_cell ys (L + 1) Heap.none (s - (L + 1)) (by omega) with ⟨ap,z,es,q1,q2,q3⟩ | ⟨_,_,q3⟩
    ·rw [show L + 1 + (s - (L + 1)) = s by omega] at q2 q3
     rw [hs] at q3
     cases q3
     exact .inr ⟨s - (L + 1),ap,z,es,by omega,by omega,q1,rfl,q2⟩
    ·rw [show L + 1 + (s - (L + 1)) = s by omega,hs] at q3
     cases q3
   ·rw [unL_none ys (L + 1) s (by omega)] at hs
    cases hs
 have hcl : (unL (L + 1) Heap.none ys).1.length = cs.length := by rw [unL_len,hyl]
 have hNT : ∀ b,nB L ρ0 h0 b → T b := fun b ⟨s,x,p,base,_,q2,q3,q4,q5⟩ => (j1.rows s x q2).inT q3 p b base q4 q5
 have hNf : ∀ b,nB L ρ0 h0 b → f.w0.heap.size ≤ b ∨ f.N0 b := by
  rintro b2 ⟨s,x,p,base2,q1,q2,q3,q4,q5⟩
  rcases only s x q2 with e1 | ⟨c,ap,z,es,hcn,rfl,e2,rfl,e3⟩
  ·exact absurd e1 q1
  ·obtain ⟨bb,bs,cu,ee,s3,s4,s5,s6,s7⟩ := j1.rows L _ h0L
   rw [h9] at s3
   have s3l := congrArg Pl.loc (Option.some.inj s3)
   simp only at s3l
   cases s3l
   obtain ⟨v,t1,t2,t3⟩ := s7.cell 0 c (by simp) (by rw [hcl]; exact hcn)
   obtain ⟨v2,u1,u2,u3⟩ := h7.cell 0 c (by simp) hcn
   rw [Nat.zero_mul,Nat.add_zero] at u1 t1
   rw [u1] at t1
   obtain rfl := Option.some.inj t1
   have t3' : Rv w T ρ0 ((unL (L + 1) Heap.none ys).1.getD c .junk) v2 := t3
   have u3' : Rv w T ρ (cs.getD c .junk) v2 := u3
   rw [e3] at t3'
   clear t3 u3
   rcases own2 c ap z es hcn e2 with e4 | ⟨q,o,m,x,e4,e5,e6,e7⟩
   ·rw [e4] at u3'
    cases u3'
    exfalso
    generalize es.length = len at t3'
    cases t3' with
    | slnil hr => rw [q4] at hr; cases hr; cases q5
   ·rw [e4] at u3'
    obtain ⟨p',bs',w1,w2⟩ := sl_loc t3' u3' q4 q5
    exact k.own q x p' b2 bs' (hls q z o m (e4 ▸ getD_mem .junk hcn) e5) e6 e7 w1 w2
 have hNr : ¬ nB L ρ0 h0 b := by
  rintro ⟨s,x,p,base2,q1,q2,q3,q4,q5⟩
  exact j1.sep L s _ x (Ne.symm q1) h0L q2 rfl q3 _ p b base b base2 h9 q4 rfl q5 rfl
 have hNo : ∀ q x p b base,h2 q = some x → x.live = true → ρ q = some p → p.loc = some (b,base) → ¬ nB L ρ0 h0 b := by
  rintro q x p b2 base2 hq hx hp hl ⟨s,y,p',base3,q1,q2,q3,q4,q5⟩
  by_cases e1 : q = r
  ·subst e1
   rw [h3] at hp
   cases hp
   cases hl
   exact hNr ⟨s,y,p',base3,q1,q2,q3,q4,q5⟩
  ·exact j1.x q s x y (by rw [put_self_none _ e1]; exact hq) q2 hx q3 p p' b2 base2 b2 base3 hp q4 hl q5 rfl
 -- the start
 have hu : xs.getD li .junk = .ownp ys := hxl
 obtain ⟨g1,g2,g3⟩ := parN_nest (li := li) xs 0 St.none (by omega) fun j hj hne g q => un1_rv (hx j hj (by omega)) g q
 rw [hL] at g1 g3
 have hh : (un (parN [li + 1000] 0 xs) xs).h = h0 := by
  show (unpack (parN [li + 1000] 0 xs) xs St.none).h = _
  rw [g1,if_pos (by omega),Nat.sub_zero,hu]
  exact hH0
 have i1 : WInv (frN w T (li + 1000) ⟨cs.length,1,some (b,base)⟩ f.tabs (nB L ρ0 h0)) w T ρ0 h0 := by
  have hlids : (frN w T (li + 1000) ⟨cs.length,1,some (b,base)⟩ f.tabs (nB L ρ0 h0)).lids = [L] := by rw [← hL]; rfl
  refine ⟨Keeps.refl _ _,k.tlt,j1.rows,j1.dom,j1.sep,fun s x p b2 base2 hs hx hp hl => .inr ?_,fun b hb _ => .inl hb,fun s hs => ?_,fun s x p b2 base2 hs hq hx hp hl => .inr ?_,k.tlt,fun s hs x hq => ?_,k.tab⟩
  ·by_cases e1 : s = L
   ·subst e1
    rw [h0L] at hs
    cases hs
    rw [h9] at hp
    cases hp
    cases hl
    exact ⟨fun o q1 q2 => .inl ⟨base,rfl,q1,q2⟩,fun hh => by cases hh⟩
   ·have hN : nB L ρ0 h0 b2 := ⟨s,x,p,base2,e1,hs,hx,hp,hl⟩
    exact ⟨fun o _ _ => .inr hN,fun _ o => .inr hN⟩
  ·rw [hlids,ja] at hs
   subst hs
   exact h9
  ·rw [hlids,ja] at hs
   exact ⟨s,x,p,base2,hs,hq,hx,hp,hl⟩
  ·rw [hlids,ja] at hs
   subst hs
   rw [h0L] at hq
   cases hq
   rfl
 have i2 : Env w T ρ0 (un (parN [li + 1000] 0 xs) xs).env ⟨vs,[]⟩ := fun t => by
  show Rv w T ρ0 ((unpack (parN [li + 1000] 0 xs) xs St.none).env t) (vs.getD t undef)
  by_cases ht : t < xs.length
  ·have := g3 t ht
   rw [zX] at this
   rw [this]
   split
   ·rename_i e
    subst e
    rw [hu]
    show Rv w T ρ0 (.p L 0 0) (vs.getD t undef)
    generalize vs.getD t undef = v at hv
    cases hv with
    | p hρ =>
     rw [h3] at hρ
     cases hρ
     have := Rv.p (w := w) (T := T) (ρ := ρ0) (e := 0) (o := 0) h9
     simpa using this
   ·rename_i hne
    exact (hx t ht hne).any
  ·rw [g2 t (by omega)]
   exact .junk
 have i1' : WInv (frN w T (li + 1000) ⟨cs.length,1,some (b,base)⟩ f.tabs (nB L ρ0 h0)) w T ρ0 (un (parN [li + 1000] 0 xs) xs).h := by rw [hh]; exact i1
 refine (hc (frN w T (li + 1000) ⟨cs.length,1,some (b,base)⟩ f.tabs (nB L ρ0 h0)) ρ0 vs rfl rfl hl i1' i2).mono fun e w' he => ?_
 obtain ⟨out,vals,T',ρ1,rfl,hs,ho,hret,k',e',fl⟩ := he
 have hlen : out.length = 1 + res.length := by
  rw [ho]
  show (kindL 0 res).length + 1 = _
  rw [kindL_length]
  omega
 cases out with
 | nil => simp only [List.length_nil] at hlen; omega
 | cons o2 rs =>
  have hrs : rs.length = res.length := by simp at hlen; omega
  have hret2 : retV [li + 1000] (o2 :: rs) = .back (oneV rs) [o2] := rfl
  rw [hret2] at hret
  injection hret with e1 e2
  injection e2 with e2 _
  subst e1
  subst e2
  have hun : un (resL res [li + 1000]) (.ownp cs2 :: rs) = unpack (kindL 0 res) rs ⟨fun _ => .junk,(unL (L + 1) Heap.none cs2).2.put L (.st (unL (L + 1) Heap.none cs2).1)⟩ := by
   show unpack ((lid (li + 1000),if li + 1000 < 1000 then 2 else 5) :: kindL 0 res) (.ownp cs2 :: rs) St.none = _
   rw [if_neg (by omega),hL]
   rfl
  obtain ⟨_,q2,q3⟩ := unpack_kind' res 0 rs ⟨fun _ => .junk,(unL (L + 1) Heap.none cs2).2.put L (.st (unL (L + 1) Heap.none cs2).1)⟩ hk hrs
  rw [← hun] at q2 q3
  have pidL : ∀ s,L ≤ s → ∀ j,0 ≤ j → j < 0 + res.length → s ≠ pid j := fun s hs j _ hj => by unfold pid; omega
  have hL1 : (un (resL res [li + 1000]) (.ownp cs2 :: rs)).h L = some (.st (unL (L + 1) Heap.none cs2).1) := by
   rw [q2 L (pidL L (zz _))]
   simp [Heap.put]
  have hc1 : ∀ c,c < cs.length → (un (resL res [li + 1000]) (.ownp cs2 :: rs)).h (L + 1 + c) = (unL (L + 1) Heap.none cs2).2 (L + 1 + c) := fun c _ => by
   rw [q2 (L + 1 + c) (pidL _ (by omega))]
   exact put_self_none _ (by omega)
  have hlids : (frN w T (li + 1000) ⟨cs.length,1,some (b,base)⟩ f.tabs (nB L ρ0 h0)).lids = [L] := by rw [← hL]; rfl
  have hLp : ρ1 L = some ⟨cs.length,1,some (b,base)⟩ := k'.lp L (by rw [hlids]; exact List.mem_singleton.2 rfl)
  have hTc : ∀ b,T b → ¬ nB L ρ0 h0 b → T' b := fun b2 hb hnb => (k'.t0 b2 hb hnb).elim (fun h => h) fun ⟨s,hs2,hd⟩ => by
   rw [hlids,ja] at hs2
   subst hs2
   have := hd _ hL1
   cases this
  have hown : ∀ c x p b base,c < cs.length → (un (resL res [li + 1000]) (.ownp cs2 :: rs)).h (L + 1 + c) = some x → x.live = true → ρ1 (L + 1 + c) = some p → p.loc = some (b,base) → w.heap.size ≤ b ∨ nB L ρ0 h0 b := fun c x p b2 base2 _ q4 q5 q6 q7 => k'.own _ x p b2 base2 (by rw [hlids,ja]; omega) q4 q5 q6 q7
  obtain ⟨T2,ρ2,k3,g4,hT2,hT3⟩ := graft k2 k'.keeps hr2 h3 rfl (by omega) (fun c hcn => hid c (by omega)) (N := nB L ρ0 h0) (fun b2 o hW => by
   rcases hW with ⟨bs,q4,q5,q6⟩ | q4
   ·cases q4
    exact .inl ⟨rfl,q5,by simpa using q6⟩
   ·exact .inr q4) hNT hNf hNr hNo (Tc := T') hTc k'.rows k'.dom hL1 hLp hc1 k'.sep hown
  refine ⟨_,T2,ρ2,rfl,k3,g4,?_⟩
  -- the result
  refine one_rv hs hrs fun j hj => ?_
  have h5' := q3 j hj
  rw [zX] at h5'
  have plain : (un (resL res [li + 1000]) (.ownp cs2 :: rs)).env j = rs.getD j .junk → Rv w' T2 Rho.none (demote (rs.getD j .junk)) (vals.getD j undef) := by
   intro hxe
   rcases fl j with h1 | h1
   ·rw [hxe] at h1
    generalize rs.getD j .junk = x at *
    cases x <;> simp [isRef] at h1 <;> exact .junk
   ·rw [hxe] at h1
    exact demote_rv (h1.less fun b _ hb => hT2 b hb)
  generalize hxx : rs.getD j .junk = x at *
  cases x with
  | own ap z es =>
   obtain ⟨h1,h2'⟩ := h5'
   have hv := e' j
   rw [h1] at hv
   have := tell0_rv (T' := T2) k'.rows (fun b _ hb => hT2 b hb) hv (fun r hr b hb => by
    simp only [ref0,ja] at hr
    subst hr
    obtain ⟨x,p,base2,hx,hlv,hρ,hloc⟩ := hb
    intro hb2
    have hge := k'.own _ _ _ _ _ (by rw [hlids,ja]; unfold pid; omega) hx hlv hρ hloc
    rcases hT3 b hb2 with ⟨m1,m2⟩ | ⟨c,y,p',base3,m1,m2,m3,m4,m5⟩
    ·rcases hge with hge | hge
     ·have hge' : w.heap.size ≤ b := hge
      have := k.tlt b m1
      omega
     ·exact m2 hge
    ·exact k'.sep (pid j) (L + 1 + c) x y (by unfold pid; omega) hx m2 hlv m3 p p' b base2 b base3 hρ m4 hloc m5 rfl) (by intros; simp) (by intros; simp) (by intros; simp)
   simpa [tell0,h2',Row.win,demote] using this
  | ownp cs => exact .junk
  | junk => exact .junk
  | b | i | s | np | ns | l | tp | sl | p | agg | tup | back => exact plain h5'
theorem freeL_get : ∀ (l : List AV) (s : Nat) (g : Heap),freeL g s l = true → ∀ c,c < l.length → g (s + c) = none := by
 intro l
 induction l with
 | nil => intro s g _ c hc; cases hc
 | cons x l ih =>
  intro s g h c hc
  simp only [freeL,zu,Option.isNone_iff_eq_none] at h
  cases c with
  | zero => exact h.1
  | succ c => rw [show s + (c + 1) = s + 1 + c by omega]; exact ih (s + 1) g h.2 c (by simpa using hc)
theorem backN_spec {id q e o : Nat} {cs : List AV} {r av : AV} {h' : Heap} (hb : backN h id (.p q e o) (.ownp cs) r = some (av,h')) : ∃ v cs2,r = .back v [.ownp cs2] ∧ (cs2.length = cs.length ∧ freeL h id cs = true) ∧ av = demoteT v ∧ h' = (unL id h (cs2.map demoteN)).2.put q (.st (unL id h (cs2.map demoteN)).1) := by
 unfold backN at hb
 split at hb
 ·rename_i v cs2 h1 h2
  cases h1
  cases h2
  split at hb
  ·rename_i hc
   cases hb
   exact ⟨v,cs2,rfl,hc,rfl,rfl⟩
  ·cases hb
 ·cases hb
theorem op_calln (k : WInv f w T ρ h) (he : Env w T ρ e a) {c : Go.Call} {g g' li id : Nat} {ys : List At} {res : List (PR × Nat)} {av : AV} {h' : Heap} (call : Call) (ho : o.op = .call c) (hcal : c.callee = .value (.func g')) (hm : mas f.tabs c.args.toList ys = true) (hb : bodied P g' = true) (hl1 : ys.length ≤ 1000) (hli : li < ys.length)
  (hk : ∀ x ∈ res,x.2 ≤ 1) (hrl : res.length ≤ 100) (hc : ∀ xs r,xs.length = ys.length → call g xs = some r → CallOk P g' res [li + 1000] f.tabs xs r) (hv : PO.ev call (.calln g ys li id) e h = some (av,h')) : Goes1 P f o a w T ρ av h' := by
 simp only [PO.ev,callN,zy] at hv
 obtain ⟨⟨x,h2⟩,hlend,r,hr,hback⟩ := hv
 obtain ⟨hlen,hrv⟩ := mas_rv k he hm
 have hrun : (execOp a.eval o).run P w = .ok (.enter g' (c.args.map a.eval)) w := by
  simp [execOp,ho,resolve,hcal,Act.eval,Deferred.ofValue,invoke,run_callFunc hb]
 have hvs : ∀ j,(c.args.map a.eval).getD j undef = (c.args.toList.map a.eval).getD j undef := fun j => by simp [zo]
 obtain ⟨T1,k1,g1,hfree,_⟩ := k.freeze (refsL h li (ys.map (At.ev e)))
 have hli' := hrv li hli
 unfold lendN at hlend
 split at hlend
 ·rename_i q eo oo hy
  split at hlend
  ·rename_i hz
   obtain ⟨rfl,rfl⟩ := hz
   split at hlend
   ·rename_i cs hrow
    split at hlend
    ·rename_i hcl
     simp only [zw] at hlend
     obtain ⟨⟨zs,h3⟩,hn,hx⟩ := hlend
     cases hx
     simp only at hback hr
     rw [hy] at hback
     obtain ⟨v,cs2,rfl,⟨c1,c2⟩,rfl,rfl⟩ := backN_spec hback
     have hargl : (argsL h (.ownp zs) li (ys.map (At.ev e))).length = ys.length := ((argsL_get (li := li)).1).trans (zC ..)
     have a1 : ∀ q z o n,AV.sl q z o n ∈ cs → q ∉ (cs.flatMap ref0).filter isLid → q ∉ f.lids := fun q' z o n hm hq hql => hq (List.mem_filter.2 ⟨List.mem_flatMap.2 ⟨_,hm,by simp [ref0]⟩,f.lidn q' hql⟩)
     have a2 : Rv w T1 ρ (.p q 0 0) ((c.args.map a.eval).getD li undef) := by
      rw [hvs]
      rw [hy] at hli'
      exact g1.rv hli'
     have a3 : ∀ j,j < (argsL h (.ownp zs) li (ys.map (At.ev e))).length → j ≠ li → Rv w T1 Rho.none ((argsL h (.ownp zs) li (ys.map (At.ev e))).getD j .junk) ((c.args.map a.eval).getD j undef) := by
      intro j hj hne
      rw [hargl] at hj
      rw [(argsL_get (h := h) (x := .ownp zs) (li := li)).2 j (by simpa using hj),if_neg hne,hvs]
      exact tell_rv k.rows g1.less (hrv j hj) fun r hr' b hb => hfree r (refsL_mem (by simpa using hj) hne hr') b hb
     have a4 : (argsL h (.ownp zs) li (ys.map (At.ev e))).getD li .junk = .ownp zs := by rw [(argsL_get (h := h) (x := .ownp zs) (li := li)).2 li (by simpa using hli),if_pos rfl]
     have := lent_n k1 (g := g') (li := li) (xs := argsL h (.ownp zs) li (ys.map (At.ev e))) (vs := c.args.map a.eval) hrow hn a1 (by omega) (by omega) (by rw [hargl]; simp [← hlen]) a2 a3 a4 hk hrl (hc _ _ hargl hr) c1 (freeL_get _ _ _ c2)
     intro K Q hK
     unfold Oper.wp
     rw [hrun]
     refine this.mono fun e w' hw => ?_
     obtain ⟨u,T2,ρ2,rfl,k2,g2,r2⟩ := hw
     exact hK u w' T2 ρ2 k2 (g1.trans g2) r2.any
    ·cases hlend
   ·cases hlend
  ·cases hlend
 ·cases hlend
end
def NoI (w : World) (b : Nat) : Prop := ∀ o v,w.cell? ⟨b,o,none⟩ = some v → ∀ k i,v ≠ .int k i
section
variable {P : Program} {f : Fr} {w w' : World} {T T' : Nat → Prop} {ρ ρ' : Rho} {h : Heap} {e : Nat → AV} {a : Act} {o : Oper}
theorem inC_int {av : AV} {v : Value} (h : Rv w T ρ av v) (hi : inC av = true) : ∃ k n,v = .int k n ∧ av = .i k n := by
 cases h <;> first | exact ⟨_,_,rfl,rfl⟩ | cases hi
theorem niC_ni {av : AV} {v : Value} (h : Rv w T ρ av v) (hi : niC av = true) : ∀ k i,v ≠ .int k i := by
 intro k i hv
 cases h <;> first | (cases hv; done) | (simp [niC] at hi; done)
theorem rv_li {T2 : Nat → Prop} {av : AV} {v : Value} (h : Rv w T Rho.none av v) (hl : liC av = true) (hn : ∀ b,T2 b → T b ∨ NoI w b) : Rv w T2 Rho.none av v := by
 cases h with
 | junk => cases hl
 | b => exact .b
 | i => exact .i
 | s => exact .s
 | np => exact .np
 | ns => exact .ns
 | lnil ha hm => exact .lnil ha hm
 | @l _ z es b base cap g hT hb hc hm hz hcell hv =>
  cases es with
  | nil => exact .lnil (fun h => by cases h) hm
  | cons r rs =>
   simp only [liC,zu,decide_eq_true_eq,List.all_eq_true] at hl
   obtain ⟨hz0,hall⟩ := hl
   have hin : ∀ j c,j < (r :: rs).length → c < z → inC (((r :: rs).getD j []).getD c .junk) = true := by
    intro j c hj hc2
    have hlen := hz j hj
    have hm1 : (r :: rs).getD j [] ∈ r :: rs := getD_mem _ hj
    exact hall _ hm1 _ (getD_mem _ (by omega))
   refine .l g (fun h2 => ?_) hb hc hm hz hcell fun j c hj hc2 => ?_
   ·rcases hn b h2 with h3 | h3
    ·exact hT h3
    ·obtain ⟨k,n,e1,_⟩ := inC_int (hv 0 0 (by simp) hz0) (hin 0 0 (by simp) hz0)
     exact h3 _ _ (hcell 0 0 (by simp) hz0).1 k n e1
   ·obtain ⟨k,n,e1,e2⟩ := inC_int (hv j c hj hc2) (hin j c hj hc2)
    rw [e1,e2]; exact .i
 | tp => cases hl
 | sl hr => cases hr
 | slz hr => cases hr
 | slnil hr => cases hr
 | p hr => cases hr
 | agg => cases hl
 | tup => cases hl
theorem call_own2k {T1 : Nat → Prop} {h1 : Heap} (k : WInv f w T ρ h) (kx : WInv f w T1 ρ h1) (hn : ∀ b,T b → T1 b ∨ NoI w b) {g : Nat} {res : List (PR × Nat)} {xs : List AV} {vs : Array Value} {ap : Bool} {z : Nat} {es : List (List AV)} {v : AV}
  (hes : (es.all fun r => r.all liC) = true) (hlv : liC v = true) (hk : ∀ x ∈ res,x.2 ≤ 1) (hc : CallOk P g res [] f.tabs xs (.tup [.own ap z es,v])) (hl : vs.size = xs.length) (hx : ∀ j,j < xs.length → Rv w T1 Rho.none (xs.getD j .junk) (vs.getD j undef)) {id : Nat} (hid : h id = none) :
  Calls P g vs w fun e w' => ∃ v' T' ρ',e = .returned v' ∧ WInv f w' T' ρ' (h.put id (.sl ap z es)) ∧ Goes w w' T T' ρ ρ' ∧ Rv w' T' ρ' (.tup [.sl id z 0 es.length,v]) v' := by
 obtain ⟨h1,h2⟩ := init_told kx hl hx
 refine (hc ⟨w,fun _ _ => False,T1,[],fun _ => ⟨0,0,none⟩,f.tabs,fun _ => False,fun _ h => (by cases h),fun _ h => h.elim⟩ Rho.none vs rfl rfl hl h1 h2).mono fun e w' he => ?_
 obtain ⟨out,vals,T',ρ',rfl,hs,ho,hret,k',e',fl⟩ := he
 have hol : out.length = res.length := by rw [ho]; exact kindL_length res 0
 obtain ⟨_,_,h3⟩ := unpack_kind' res 0 out St.none hk hol
 have hout : out = [.own ap z es,v] := by
  match out,hret with
  | [x],hret =>
   exfalso
   have hx : AV.tup [.own ap z es,v] = x := hret
   subst hx
   have h4 : (un (resL res []) [.tup [.own ap z es,v]]).env 0 = .tup [.own ap z es,v] := h3 0 (by rw [← hol]; simp)
   have h5 := e' 0
   rw [h4] at h5
   generalize vals.getD 0 undef = u at h5
   cases h5 with
   | tup us a1 a2 =>
    have := a2 0 (by simp)
    cases this
  | [],hret => cases hret
  | [a,b],hret =>
   have : AV.tup [.own ap z es,v] = .tup [a,b] := hret
   rw [AV.tup.inj this]
  | _ :: _ :: _ :: _,hret => cases hret
 subst hout
 have htwo : vals.size = 2 := by rw [hs,← hol]; rfl
 have hv : oneR vals = .tuple vals := by simp [oneR,htwo]
 obtain ⟨s1,s2⟩ : (un (resL res []) [.own ap z es,v]).env 0 = .sl (pid 0) z 0 es.length ∧ (un (resL res []) [.own ap z es,v]).h (pid 0) = some (.sl ap z es) := h3 0 (by rw [← hol]; simp)
 have sh1 := h3 1 (by rw [← hol]; simp)
 rw [zX] at sh1
 have s3 : (un (resL res []) [.own ap z es,v]).env 1 = v := by cases v <;> first | exact sh1 | cases hlv
 have hold := k'.keeps.old
 have hrv := e' 0
 rw [s1] at hrv
 have h0 : ∀ b,T1 b → T' b := fun b hb => (k'.t0 b hb (fun h => h)).elim (fun h => h) fun ⟨r,hr,_⟩ => by cases hr
 have hn2 : ∀ b,T b → T' b ∨ NoI w' b := fun b hb => (hn b hb).imp (h0 b) fun hi o u hu => hi o u (by rw [← hold.cell (k.tlt b hb)]; exact hu)
 have hv1 : Rv w' T' Rho.none v (vals.getD 1 undef) := by
  have q := e' 1
  rw [s3] at q
  rcases fl 1 with q1 | q1
  ·rw [s3] at q1
   cases v <;> first | (simp [isRef] at q1; done) | cases hlv
  ·rw [s3] at q1; exact q1
 have ko := k.old hold
 have fin : ∀ {T2 : Nat → Prop} {ρ2 : Rho} {u : Value},vals.getD 0 undef = u → Rv w' T2 ρ2 (.sl id z 0 es.length) u → Rv w' T2 Rho.none v (vals.getD 1 undef) → Rv w' T2 ρ2 (.tup [.sl id z 0 es.length,v]) (oneR vals) := by
  intro T2 ρ2 u hu r1 r2
  rw [hv]
  refine .tup vals (by simp [htwo]) fun c hc => ?_
  match c,hc with
  | 0,_ => rw [hu]; exact r1
  | 1,_ => exact r2.any
 rcases k'.rows _ _ s2 with ⟨r1,r2,r3⟩ | ⟨b,base,cur,el,r3,r4,r5,r6,r7,r8⟩
 ·subst r1
  obtain ⟨k2,g2⟩ := ko.newnil hid z (ap := ap)
  refine ⟨_,_,_,rfl,k2,(Goes.old hold).trans g2,fin rfl ?_ (rv_li hv1 hlv hn2)⟩
  have hrv2 : Rv w' T' ρ' (.sl (pid 0) z 0 0) (vals.getD 0 undef) := hrv
  generalize vals.getD 0 undef = u at hrv2
  cases hrv2 with
  | sl q1 => rw [r3] at q1; have := congrArg Pl.loc (Option.some.inj q1); cases this
  | slz q1 => rw [r3] at q1; have := congrArg Pl.loc (Option.some.inj q1); cases this
  | slnil q1 => exact .slnil (if_pos rfl)
 ·have hge : w.heap.size ≤ b := (k'.own _ _ _ _ _ (by simp) s2 rfl r3 rfl).elim (fun h => h) False.elim
  have hlt := lt_of_cells r5
  have hn3 : ∀ c,(T c ∨ c = b) → T' c ∨ NoI w' c := fun c hc => hc.elim (hn2 c) fun e => .inl (e ▸ r4)
  have hli : ∀ j c,j < es.length → c < z → liC ((es.getD j []).getD c .junk) = true := by
   intro j c hj hc
   have hlen := r8.len j hj
   have h4 := List.all_eq_true.1 hes _ (getD_mem [] hj)
   exact List.all_eq_true.1 h4 _ (getD_mem _ (by omega))
  obtain ⟨k2,g2⟩ := k.new' hold hid (x := .sl ap z es) (z := z) (n := es.length) (base := base) (by omega) hge hlt (.inr ⟨b,base,cur,el,if_pos rfl,.inr rfl,r5,r6,r7,r8.len,fun j c hj hc => by
   obtain ⟨u,u1,u2,u3⟩ := r8.cell j c hj hc
   exact ⟨u,u1,u2,rv_li u3 (hli j c hj hc) hn3⟩⟩)
  refine ⟨_,_,_,rfl,k2,g2,fin rfl ?_ (rv_li hv1 hlv hn3)⟩
  have hrv2 : Rv w' T' ρ' (.sl (pid 0) z 0 es.length) (vals.getD 0 undef) := hrv
  generalize vals.getD 0 undef = u at hrv2
  generalize hn0 : es.length = n0 at *
  cases hrv2 with
  | sl q1 q2 q3 q4 q5 => rw [r3] at q1; cases q1; exact .sl (if_pos rfl) q2 q3 q4 q5
  | slz q1 q2 => rw [r3] at q1; cases q1; exact .slz (if_pos rfl) q2
  | slnil q1 => rw [r3] at q1; have := congrArg Pl.loc (Option.some.inj q1); cases this
theorem keep_ni (k : WInv f w T ρ h) {r b : Nat} (hr : keepR (h r) = true) (hb : rowBlk h ρ r b) : NoI w b := by
 obtain ⟨x,p,base,hx,hl,hp,hloc⟩ := hb
 rw [hx] at hr
 unfold keepR at hr
 split at hr
 ·rename_i es heq
  cases heq
  rcases k.rows _ _ hx with ⟨_,_,h3⟩ | ⟨b',base',cur,el,h3,h4,h5,h6,h7,h8⟩
  ·rw [hp] at h3; cases h3; cases hloc
  ·rw [hp] at h3
   cases h3
   cases hloc
   obtain ⟨h71,h72⟩ := h7 rfl
   subst h71
   intro o v hv kk i
   have hcell : w.cell? ⟨b,o,none⟩ = cur[o]? := cell_of h5
   by_cases ho : es.length * 3 ≤ o
   ·exact h72 rfl o v ho (by rw [← hcell]; exact hv) kk i
   ·have hd : o / 3 < es.length := by omega
    have hm3 : o % 3 < 3 := Nat.mod_lt _ (by omega)
    obtain ⟨u,u1,u2,u3⟩ := h8.cell (o / 3) (o % 3) hd hm3
    have eo : 0 + o / 3 * 3 + o % 3 = o := by omega
    rw [eo,hv] at u1
    cases u1
    have hlen := h8.len (o / 3) hd
    have h9 := List.all_eq_true.1 hr _ (getD_mem [] hd)
    exact niC_ni u3 (List.all_eq_true.1 h9 _ (getD_mem _ (by omega))) kk i
 ·cases hr
theorem cut9_mem {l : List Nat} {q : Nat} : q ∈ cut9 h l ↔ q ∈ l ∧ keepR (h q) = false := by
 induction l with
 | nil => simp [cut9]
 | cons a l ih =>
  rw [cut9]
  cases ha : keepR (h a) with
  | true =>
   rw [if_pos rfl,ih,List.mem_cons]
   constructor
   ·rintro ⟨h1,h2⟩; exact ⟨.inr h1,h2⟩
   ·rintro ⟨h1 | h1,h2⟩
    ·subst h1; rw [ha] at h2; cases h2
    ·exact ⟨h1,h2⟩
  | false =>
   rw [if_neg (by decide),List.mem_cons,ih,List.mem_cons]
   constructor
   ·rintro (h1 | ⟨h1,h2⟩)
    ·subst h1; exact ⟨.inl rfl,ha⟩
    ·exact ⟨.inr h1,h2⟩
   ·rintro ⟨h1 | h1,h2⟩
    ·exact .inl h1
    ·exact .inr ⟨h1,h2⟩
theorem op_callk (k : WInv f w T ρ h) (he : Env w T ρ e a) {c : Go.Call} {g g' id : Nat} {ys : List At} {res : List (PR × Nat)} {av : AV} {h' : Heap} (call : Call) (ho : o.op = .call c) (hcal : c.callee = .value (.func g')) (hm : mas f.tabs c.args.toList ys = true) (hb : bodied P g' = true)
  (hk : ∀ x ∈ res,x.2 ≤ 1) (hc : ∀ xs r,xs.length = ys.length → call g xs = some r → CallOk P g' res [] f.tabs xs r) (hv : PO.ev call (.callk g ys id) e h = some (av,h')) : Goes1 P f o a w T ρ av h' := by
 simp only [PO.ev,callK9,zy] at hv
 obtain ⟨r,hr,hv⟩ := hv
 obtain ⟨hlen,hrv⟩ := mas_rv k he hm
 obtain ⟨T1,k1,g1,hfree,hrest1⟩ := k.freeze ((ys.map (At.ev e)).flatMap (ref h))
 obtain ⟨T2,k2,g2,hfree2,hrest⟩ := k.freeze (cut9 h ((ys.map (At.ev e)).flatMap (ref h)))
 have hrun : (execOp a.eval o).run P w = .ok (.enter g' (c.args.map a.eval)) w := by
  simp [execOp,ho,resolve,hcal,Act.eval,Deferred.ofValue,invoke,run_callFunc hb]
 have hn : ∀ b,T2 b → T1 b ∨ NoI w b := by
  intro b hb2
  have hTb := g2.less b (k2.tlt b hb2) hb2
  rcases hrest1 b hTb with h3 | ⟨r9,hr9,hrb⟩
  ·exact .inl h3
  ·cases hkr : keepR (h r9) with
   | true => exact .inr (keep_ni k hkr hrb)
   | false => exact (hfree2 r9 (cut9_mem.2 ⟨hr9,hkr⟩) b hrb hb2).elim
 split at hv
 ·rename_i ap z es v
  split at hv
  ·rename_i hcond
   obtain ⟨hid,hes,hlv⟩ := hcond
   cases hv
   have hcalls := call_own2k k2 k1 hn hes hlv (vs := c.args.map a.eval) hk (hc _ _ (by simp) hr) (by simp [← hlen]) (fun j hj => by
    simp only [zC] at hj
    have h1 := hrv j hj
    rw [getD_map_lt (tell h) _ j .junk .junk (by simpa using hj)]
    have h2 : (c.args.map a.eval).getD j undef = (c.args.toList.map a.eval).getD j undef := by simp [zo]
    rw [h2]
    exact tell_rv k.rows g1.less h1 fun r hr' b hb => hfree r (List.mem_flatMap.2 ⟨_,getD_mem .junk (by simpa using hj),hr'⟩) b hb) (id := id) (freeze_none.2 (by simpa using hid))
   intro K Q hK
   unfold Oper.wp
   rw [hrun]
   refine hcalls.mono fun e w' hw => ?_
   obtain ⟨v,T2,ρ2,rfl,k2,g2',r2⟩ := hw
   exact hK v w' T2 ρ2 k2 (g2.trans g2') r2
  ·cases hv
 ·cases hv
end
section
variable {P : Program} {f : Fr} {w : World} {T T' : Nat → Prop} {ρ : Rho} {h : Heap} {e : Nat → AV} {a : Act} {o : Oper}
theorem run_copy0 {t t' ty el : TypeId} {i : TypeInfo} (hu : P.underlying t = some (.slice el)) (hi : P.info? el = some i) (b ad : Option Addr) (n cap m c : Nat) (h0 : Nat.min m n = 0) :
  (Builtin.copy_ #[t,t'] ty #[.slice b n cap,.slice ad m c]).run P w = .ok (.int .i64 0) w := by
 cases b <;> cases ad <;> simp [Builtin.copy_,run_underlying hu,sizeOf,typeInfo,hi,Builtin.lenOf,h0,Builtin.firstCells,loadCells,loadCellsFrom,storeCells,goInt]
theorem run_copy1 {t t' ty el : TypeId} {i : TypeInfo} (hu : P.underlying t = some (.slice el)) (hi : P.info? el = some i) {b off n cap : Nat} {ad : Addr} {m c : Nat} {news : List Value} (hl : news.length = Nat.min m n * i.size) (hnews : ∀ j u,news[j]? = some u → w.cell? (ad.add j) = some u) (h1 : ∀ u ∈ news,u.oneCell' = true)
  {cur : Array Value} {el' : TypeId} (hg : w.heap[b]? = some (Obj.cells cur el' (0,0))) (hfit : off + news.length ≤ cur.size) :
  (Builtin.copy_ #[t,t'] ty #[.slice (some ⟨b,off,none⟩) n cap,.slice (some ad) m c]).run P w = .ok (.int .i64 (Nat.min m n : Nat)) (w.setCells b off news) := by
 have hf := run_firstCells_some (P := P) w i.size (Nat.min m n) ad m c news hl hnews
 have hst := run_storeCells_cells (P := P) b off news 0 w (fun j hj => by
  rw [cell_of hg]
  simp; omega) (fun j hj => by simp [World.frozen?,hg]) h1
 rw [Nat.add_zero] at hst
 simp only [Builtin.copy_,Sem.run_bind,run_underlying hu w,Result.andThen_ok,sizeOf,run_typeInfo hi,Sem.run_pure,Builtin.lenOf,hf,List.getElem?_toArray,List.getElem?_cons_zero,List.getElem?_cons_succ,hst,goInt]
theorem splice_get {es new : List (List AV)} {oo m j : Nat} (hm : m ≤ new.length) (hfit : oo + m ≤ es.length) : (es.take oo ++ new.take m ++ es.drop (oo + m)).getD j [] = if oo ≤ j ∧ j < oo + m then new.getD (j - oo) [] else es.getD j [] := by
 rcases jl j oo with g1 | g1
 ·rw [if_neg (by omega),List.append_assoc,getD_append_left' _ _ _ _ (by simp only [zD]; omega),zo,List.getElem?_take_of_lt g1,← zo]
 ·rcases jl j (oo + m) with g2 | g2
  ·rw [if_pos ⟨g1,g2⟩,getD_append_left' _ _ _ _ (by simp only [zx,zD]; omega),getD_append_right' _ _ _ _ (by simp only [zD]; omega),zD,jh (by omega),zo,List.getElem?_take_of_lt (by omega),← zo]
  ·rw [if_neg (by omega),getD_append_right' _ _ _ _ (by simp only [zx,zD]; omega),zx,zD,zD,jh (by omega),jh (by omega),zo,List.getElem?_drop,← zo,show oo + m + (j - (oo + m)) = j by omega]
theorem put_same {r : Nat} {x : Row} (hr : h r = some x) : h.put r x = h := by
 funext q
 simp only [Heap.put]
 split
 ·rename_i e; rw [e,hr]
 ·rfl
theorem op_copy (k : WInv f w T ρ h) (he : Env w T ρ e a) {t t' el : TypeId} {i : TypeInfo} {x y : Operand} {x' y' : At} {c : Go.Call} {sz : Nat} {av : AV} {h' : Heap} (call : Call) (ho : o.op = .call c) (hc : c.callee = .builtin .copy) (hx : c.args = #[x,y]) (ht : c.argTypes = #[t,t'])
  (hu : P.underlying t = some (.slice el)) (hi : P.info? el = some i) (hsz : i.size = sz) (h1 : ma f.tabs x x' = true) (h2 : ma f.tabs y y' = true)
  (hv : PO.ev call (.copy sz x' y') e h = some (av,h')) : Turns P f o a w T ρ av h' := by
 have r1 := ma_rv k he h1
 have r2 := ma_rv k he h2
 have fin : ∀ v u r w',a.eval x = v → a.eval y = u → (Builtin.copy_ #[t,t'] o.type #[v,u]).run P w = .ok r w' → (execOp a.eval o).run P w = .ok (.value r) w' := by
  intro v u r w' e1 e2 hr
  simp [execOp,ho,resolve,hc,hx,ht,invoke,builtin,e1,e2,hr]
 simp only [PO.ev] at hv
 unfold copyV at hv
 split at hv
 rotate_left
 ·cases hv
 rename_i r z oo n hq
 split at hv
 rotate_left
 ·cases hv
 rename_i ap z' es new hrow hnew
 split at hv
 rotate_left
 ·cases hv
 rename_i hcond
 obtain ⟨rfl,rfl,hfit⟩ := hcond
 cases hv
 obtain ⟨news,src⟩ := esV_src k r2 hnew
 generalize hyv : a.eval y = u at r2 src
 rw [hq] at r1
 generalize hxv : a.eval x = v at r1
 have hmle : Nat.min new.length n ≤ new.length := Nat.min_le_left _ _
 have hmn : Nat.min new.length n ≤ n := Nat.min_le_right _ _
 -- nothing to copy
 have none0 : ∀ bb cap,v = .slice bb n cap → Nat.min new.length n = 0 → Turns P f o a w T ρ (.i .i64 (Nat.min new.length n : Nat)) (h.put r (.sl ap z' (es.take oo ++ new.take (Nat.min new.length n) ++ es.drop (oo + Nat.min new.length n)))) := by
  intro bb cap hvv h0
  rw [h0,jk,List.append_nil,Nat.add_zero,List.take_append_drop,put_same hrow]
  rcases src.val with ⟨hun,hnil⟩ | ⟨ad,cap',hun,hcells⟩
  ·exact ⟨_,w,T,ρ,.inl (fin _ _ _ _ (hxv.trans hvv) (hyv.trans hun) (run_copy0 hu hi bb none n cap 0 0 (Nat.zero_min _))),k,Goes.refl _ _ _,.i⟩
  ·exact ⟨_,w,T,ρ,.inl (fin _ _ _ _ (hxv.trans hvv) (hyv.trans hun) (run_copy0 hu hi bb (some ad) n cap new.length cap' h0)),k,Goes.refl _ _ _,.i⟩
 have ok := k.rows r _ hrow
 cases r1 with
 | slnil hρ => exact none0 none 0 rfl (Nat.min_zero _)
 | slz hρ hn => exact none0 _ 0 rfl (Nat.min_zero _)
 | @sl _ _ _ _ _ mm b base cap hρ hn hcap hcm hs =>
  by_cases h0 : Nat.min new.length n = 0
  ·exact none0 _ cap rfl h0
  ·rcases src.val with ⟨hun,hnil⟩ | ⟨ad,cap',hun,hcells⟩
   ·rw [hnil] at h0; exact absurd (Nat.zero_min _) h0
   ·rcases ok with ⟨h3,_,_⟩ | ⟨b',base',cur,e',h3,h4,h5,h6,h7,h8⟩
    ·subst h3
     have : n = 0 := by simp at hfit; omega
     subst this
     exact absurd (Nat.min_zero _) h0
    ·rw [hρ] at h3
     cases h3
     generalize hm : Nat.min new.length n = m at *
     have hml : (news.take (m * z')).length = m * z' := by
      rw [zD,src.len]
      exact jh (zK _ hmle)
     have hin : base + oo * z' + m * z' ≤ cur.size := by
      have := zK z' (show oo + m ≤ es.length by omega)
      rw [zZ] at this
      omega
     have hone : ∀ u ∈ news.take (m * z'),u.oneCell' = true := fun u hu => src.els.one u (List.mem_of_mem_take hu)
     have hr := run_copy1 (P := P) (w := w) (t' := t') (ty := o.type) hu hi (b := b) (off := base + oo * z') (n := n) (cap := cap) (ad := ad) (m := new.length) (c := cap') (news := news.take (m * z')) (by rw [hml,hm,hsz]) (fun j u hj => by
      rw [List.getElem?_take] at hj
      split at hj
      ·exact hcells j u hj
      ·cases hj) hone h5 (by rw [hml]; exact hin)
     rw [hm] at hr
     have hrw := rew_setCells b (news.take (m * z')) (base + oo * z') w h5
     rw [hml] at hrw
     have hsame := hrw.same (T := T) h4
     have hlen' : (es.take oo ++ new.take m ++ es.drop (oo + m)).length = es.length := by simp only [zx,zD,jd]; omega
     have hnewrow : RowOk (w.setCells b (base + oo * z') (news.take (m * z'))) T ρ r (.sl ap z' (es.take oo ++ new.take m ++ es.drop (oo + m))) := by
      obtain ⟨d,d',e3,fr3,q1,q2,q3,q4⟩ := hrw.blk
      rw [h5] at q1
      cases q1
      refine .inr ⟨b,base,d',e',by rw [hlen']; exact hρ,h4,q2,by rw [hlen',q3]; exact h6,fun ha => ⟨(h7 ha).1,by
       rw [hlen']
       exact (h7 ha).2.write q4 (fun i hi => by
        have hb9 := (h7 ha).1
        have := zK z' (show oo + m ≤ es.length by omega)
        rw [zZ] at this
        omega)⟩,⟨fun j hj => ?_,fun j c hj hc => ?_⟩⟩
      ·rw [hlen'] at hj
       rw [splice_get hmle (by omega)]
       split
       ·exact src.el _ (by omega)
       ·exact h8.len j hj
      ·rw [hlen'] at hj
       rw [splice_get hmle (by omega)]
       split
       ·rename_i hjm
        obtain ⟨g1,g2⟩ := src.rv (j - oo) c (by omega) hc
        have hlt := in_row (show j - oo < m by omega) hc
        refine ⟨news.getD ((j - oo) * z' + c) undef,?_,g2,g1.mono hsame (fun _ _ h => h) fun _ _ h => h⟩
        have := World.cell?_setCells_in b (news.take (m * z')) (base + oo * z') w (fun i hi => by
         rw [cell_of h5]
         have : base + oo * z' + i < cur.size := by rw [hml] at hi; omega
         simp [this]) ((j - oo) * z' + c) (by rw [hml]; exact hlt)
        have e9 : base + oo * z' + ((j - oo) * z' + c) = base + j * z' + c := by
         have : j * z' = oo * z' + (j - oo) * z' := by rw [← zZ,Nat.add_sub_cancel' hjm.1]
         omega
        rw [e9] at this
        rw [this,List.getElem_take,zo]
        have hlt2 : (j - oo) * z' + c < news.length := by
         rw [src.len]
         exact je hlt (zK _ hmle)
        rw [zr hlt2]
        rfl
       ·rename_i hjm
        obtain ⟨u,g1,g2,g3⟩ := h8.cell j c hj hc
        refine ⟨u,?_,g2,g3.mono hsame (fun _ _ h => h) fun _ _ h => h⟩
        rw [cell_of h5] at g1
        rw [cell_of q2,q4 _ ?_]
        ·exact g1
        ·rintro ⟨g4,g5⟩
         rcases jl j oo with g6 | g6
         ·have := zK z' (show j + 1 ≤ oo by omega)
          rw [zZ] at this
          omega
         ·have := zK z' (show oo + m ≤ j by omega)
          rw [zZ] at this
          omega
     obtain ⟨k2,g2⟩ := k.rewrite hrow rfl hρ rfl hrw (by
      rcases k.wr r _ _ b base hrow rfl hρ rfl with hh | ⟨hh,_⟩
      ·exact .inl hh
      ·refine .inr fun i hi => hh i (by omega) ?_
       have := zK z' (show oo + m ≤ es.length by omega)
       rw [zZ] at this
       show i < base + es.length * z'
       omega) hnewrow (fun hh => hh)
     exact ⟨_,_,T,ρ,.inl (fin _ _ _ _ hxv (hyv.trans hun) hr),k2,g2,.i⟩
end
def isInt (P : Program) (t : TypeId) : Bool := match P.underlying t with
 | some (.int _) => true
 | _ => false
def intFs (P : Program) : Nat → List Field → Bool
 | _,[] => true
 | i,f :: fs => decide (f.offset = i) && decide (f.name ≠ "_") && isInt P f.type && intFs P (i + 1) fs
def eqsOk (P : Program) (t : TypeId) (n : Nat) : Bool := match P.underlying t with
 | some (.struct fs) => intFs P 0 fs.toList && decide (fs.toList.length = n) && !P.stoodInHeld t && !P.eqGuardType P.depth t
 | _ => false
section
variable {P : Program} {f : Fr} {w : World} {T : Nat → Prop} {ρ : Rho} {h : Heap} {e : Nat → AV} {a : Act} {o : Oper}
theorem run_fields {xs ys : Array Value} (d : Nat) : ∀ (fs : List Field) (i : Nat) (A B : List AV) (q : Bool),intFs P i fs = true → A.length = fs.length → B.length = fs.length → (∀ c,c < A.length → ∃ v,xs[i + c]? = some v ∧ Rv w T ρ (A.getD c .junk) v) → (∀ c,c < B.length → ∃ v,ys[i + c]? = some v ∧ Rv w T ρ (B.getD c .junk) v) →
  eqCells A B = some q → (Op.eqFields (d + 1) xs ys fs).run P w = .ok q w := by
 intro fs
 induction fs with
 | nil =>
  intro i A B q _ ha hb _ _ he
  rw [List.length_eq_zero_iff.1 ha,List.length_eq_zero_iff.1 hb] at he
  cases he
  simp [Op.eqFields]
 | cons f fs ih =>
  intro i A B q hf ha hb hA hB he
  match A,B,ha,hb,he with
  | x :: A,y :: B,ha,hb,he =>
   simp only [intFs,zu,decide_eq_true_eq] at hf
   obtain ⟨⟨⟨h1,h2⟩,h3⟩,h4⟩ := hf
   simp only [eqCells,zy,zw] at he
   obtain ⟨p,hp,r,hr,rfl⟩ := he
   obtain ⟨u,hu1,hu2⟩ := hA 0 (by simp)
   obtain ⟨v,hv1,hv2⟩ := hB 0 (by simp)
   rw [Nat.add_zero] at hu1 hv1
   have hx' : Rv w T ρ x u := hu2
   have hy' : Rv w T ρ y v := hv2
   have h5 := ih (i + 1) A B r h4 (by simpa using ha) (by simpa using hb) (fun c hc => by
    obtain ⟨z,hz1,hz2⟩ := hA (c + 1) (by simpa using hc)
    exact ⟨z,by rw [show i + 1 + c = i + (c + 1) by omega]; exact hz1,hz2⟩) (fun c hc => by
    obtain ⟨z,hz1,hz2⟩ := hB (c + 1) (by simpa using hc)
    exact ⟨z,by rw [show i + 1 + c = i + (c + 1) by omega]; exact hz1,hz2⟩) hr
   unfold eqFlat at hp
   split at hp
   ·rename_i k n k' m
    split at hp
    ·rename_i hkk
     subst hkk
     cases hp
     have e1 := inv_i hx'
     have e2 := inv_i hy'
     subst e1
     subst e2
     unfold isInt at h3
     split at h3
     ·rename_i q' hty
      have hpl : P.plainKey f.type = true := by simp [Program.plainKey,hty]
      have p1 := run_part_plain (P := P) w hpl hu1
      have p2 := run_part_plain (P := P) w hpl hv1
      have p3 := run_equalIn_int (P := P) w d f.type k q' n m hty
      simp only [Op.eqFields,h1,h2,ne_eq,not_false_eq_true,if_true,Sem.run_bind,p1,p2,p3,Result.andThen_ok]
      by_cases hnm : n = m
      ·subst hnm
       simp only [beq_self_eq_true,Bool.not_true,ji,if_false,decide_true,Bool.true_and]
       exact h5
      ·have : (n == m) = false := by simpa using hnm
       simp [this,hnm]
     ·cases h3
    ·cases hp
   ·cases hp
theorem op_eqs (k : WInv f w T ρ h) (he : Env w T ρ e a) {neg : Bool} {n : Nat} {x y : Operand} {x' y' : At} {t t' : TypeId} {av : AV} {h' : Heap} (call : Call) (ho : o.op = .binOp (if neg then .neq else .eql) t x y t') (ht : eqsOk P t n = true) (h1 : ma f.tabs x x' = true) (h2 : ma f.tabs y y' = true)
  (hv : PO.ev call (.eqs neg n x' y') e h = some (av,h')) : h' = h ∧ ∃ v,Gives P o a w v ∧ Rv w T ρ av v := by
 have r1 := ma_rv k he h1
 have r2 := ma_rv k he h2
 simp only [PO.ev,zw] at hv
 obtain ⟨c,hc,hcv⟩ := hv
 cases hcv
 refine ⟨rfl,?_⟩
 unfold eqsV at hc
 split at hc
 ·rename_i A B hx hy
  rw [hx] at r1
  rw [hy] at r2
  split at hc
  ·rename_i hlen
   simp only [zw] at hc
   obtain ⟨q,hq,rfl⟩ := hc
   unfold eqsOk at ht
   split at ht
   ·rename_i fs hu
    simp only [zu,decide_eq_true_eq,Bool.not_eq_true'] at ht
    obtain ⟨⟨⟨h3,h4⟩,h5⟩,h6⟩ := ht
    generalize hxv : a.eval x = vx at r1
    generalize hyv : a.eval y = vy at r2
    cases r1 with
    | agg us a1 a2 a3 =>
     cases r2 with
     | agg vs b1 b2 b3 =>
      have hfs : P.fieldsOf t = fs := by simp [Program.fieldsOf,hu]
      have cellsOf : ∀ (us : Array Value) (A : List AV),us.size = A.length → (∀ c,c < A.length → Rv w T ρ (A.getD c .junk) (us.getD c undef)) → ∀ c,c < A.length → ∃ v,us[0 + c]? = some v ∧ Rv w T ρ (A.getD c .junk) v := by
       intro us A hsz hrv c hc
       refine ⟨us.getD c undef,?_,hrv c hc⟩
       rw [zX]
       have : c < us.size := by omega
       simp [this]
      have hrun : (Op.equal t (.agg us) (.agg vs)).run P w = .ok q w := by
       show (Op.equalIn (9999 + 1) t (.agg us) (.agg vs)).run P w = _
       rw [run_equalIn_struct w 9999 t us vs (by rw [hfs]; exact hu) h5,hfs]
       exact run_fields 9998 fs.toList 0 A B q h3 (by omega) (by omega) (cellsOf us A a1 a3) (cellsOf vs B b1 b3) hq
      have hg : ∀ op,(eqGuard op t x y (.agg us) (.agg vs)).run P w = .ok () w := by
       intro op
       unfold eqGuard
       cases op <;> simp [h6]
      cases neg
      ·refine ⟨.bool q,?_,.b⟩
       simp only [Gives,execOp,ho,hxv,hyv,ji,if_false]
       simp [hg,binOp,hrun]
      ·refine ⟨.bool (!q),?_,.b⟩
       simp only [Gives,execOp,ho,hxv,hyv,if_true]
       simp [hg,binOp,hrun]
   ·cases ht
  ·cases hc
 ·cases hc
end
section
variable {P : Program} {f : Fr} {w : World} {T T' : Nat → Prop} {ρ : Rho} {h : Heap} {e : Nat → AV} {a : Act} {o : Oper}
theorem byteNs_vals {new : List (List AV)} {ns : List Int} (hn : byteNs new = some ns) : ∀ {vs : List Value},vs.length = new.length * 1 → (∀ j c,j < new.length → c < 1 → Rv w T Rho.none ((new.getD j []).getD c .junk) (vs.getD (j * 1 + c) undef)) → vs = ns.map (Value.int .u8) := by
 induction new generalizing ns with
 | nil =>
  intro vs hl _
  cases hn
  have : vs = [] := List.length_eq_zero_iff.1 (by simpa using hl)
  subst this
  rfl
 | cons x l ih =>
  intro vs hl hr
  unfold byteNs at hn
  split at hn
  ·rename_i e; cases e
  ·rename_i n l' e
   cases e
   simp only [zw] at hn
   obtain ⟨ms,hms,rfl⟩ := hn
   cases vs with
   | nil => simp at hl
   | cons v vs =>
    have h0 := hr 0 0 (by simp) (by omega)
    have h1 : v = .int .u8 n := by
     have : Rv w T Rho.none (.i .u8 n) v := h0
     cases this
     rfl
    have h2 := ih hms (vs := vs) (by simpa using hl) fun j c hj hc => by
     have := hr (j + 1) c (by simpa using hj) hc
     rw [show (j + 1) * 1 + c = (j * 1 + c) + 1 by omega] at this
     exact this
    rw [h1,h2]
    rfl
  ·cases hn
theorem op_b2s (k : WInv f w T ρ h) (he : Env w T ρ e a) {x : Operand} {x' : At} {s d el : TypeId} {av : AV} {h' : Heap} (call : Call) (ho : o.op = .convert s d x) (hs : P.underlying s = some (.slice el)) (hel : P.underlying el = some (.int .u8)) (hd : P.underlying d = some .string) (h1 : ma f.tabs x x' = true)
  (hv : PO.ev call (.b2s x') e h = some (av,h')) : h' = h ∧ ∃ v,Gives P o a w v ∧ Rv w T ρ av v := by
 have r1 := ma_rv k he h1
 simp only [PO.ev,zw,zy] at hv
 obtain ⟨ns,⟨new,hnew,hns⟩,hv⟩ := hv
 cases hv
 obtain ⟨vs,src⟩ := esV_src k r1 hnew
 have hvs := byteNs_vals hns src.len fun j c hj hc => (src.rv j c hj hc).1
 refine ⟨rfl,.string (bytesS ns),?_,.s⟩
 generalize hx : a.eval x = v at src
 rcases src.val with ⟨rfl,rfl⟩ | ⟨ad,cap,rfl,hc⟩
 ·cases hns
  simp only [Gives,execOp,ho,hx,Sem.run_bind,run_convert_bytes_string w s d el none 0 0 hs hel hd,Conv.bytesToString,Sem.run_pure,Result.andThen_ok]
  rfl
 ·have hl := run_loadCells_list (P := P) w ad vs hc
  have hlen : vs.length = new.length := by rw [src.len]; omega
  rw [hlen,hvs] at hl
  simp only [Gives,execOp,ho,hx,Sem.run_bind,run_convert_bytes_string w s d el (some ad) new.length cap hs hel hd,run_bytesToString w ad new.length cap ns hl,Sem.run_pure,Result.andThen_ok]
  rfl
end
section
variable {P : Program} {f : Fr} {w : World} {T : Nat → Prop} {ρ : Rho} {h : Heap} {e : Nat → AV} {a : Act} {o : Oper}
theorem scut_opt (k : WInv f w T ρ h) (he : Env w T ρ e a) {hi : Option Operand} {hi' : Option At} {x : AV} {l : Option Int} {av : AV}
  (hv : (match hi' with | none => scutV x l none | some y => (intV (y.ev e)).bind fun u => scutV x l (some u)) = some av) (hm : mo2 f.tabs hi hi' = true) : ∃ u,scutV x l u = some av ∧ ((hi.map a.eval = none ∧ u = none) ∨ ∃ q n,hi.map a.eval = some (.int q n) ∧ u = some n) := by
 cases hi with
 | none =>
  cases hi' with
  | none => exact ⟨none,hv,.inl ⟨rfl,rfl⟩⟩
  | some y => cases hm
 | some x =>
  cases hi' with
  | none => cases hm
  | some y =>
   simp only [zy] at hv
   obtain ⟨u,h1,h2⟩ := hv
   obtain ⟨q,hq⟩ := intV_i h1 (ma_rv k he hm)
   exact ⟨some u,h2,.inr ⟨q,u,by simp [hq],rfl⟩⟩
theorem op_scut (k : WInv f w T ρ h) (he : Env w T ρ e a) {x : Operand} {x' : At} {lo hi : Option Operand} {lo' hi' : Option At} {t : TypeId} {av : AV} {h' : Heap} (call : Call) (ho : o.op = .slice t x lo hi none) (hu : P.underlying t = some .string)
  (h1 : ma f.tabs x x' = true) (hlo : mo2 f.tabs lo lo' = true) (hhi : mo2 f.tabs hi hi' = true)
  (hv : PO.ev call (.scut x' lo' hi') e h = some (av,h')) : h' = h ∧ ∃ v,Gives P o a w v ∧ Rv w T ρ av v := by
 have r1 := ma_rv k he h1
 simp only [PO.ev,zw] at hv
 obtain ⟨c,hc,hcv⟩ := hv
 cases hcv
 obtain ⟨u,hs,hu2⟩ := scut_opt k he hc hhi
 unfold scutV at hs
 split at hs
 ·rename_i y l hq hl
  split at hs
  ·rename_i hcond
   cases hs
   rw [hq] at r1
   have hL := opt_l k he hlo hl
   have hL' : (lo.map a.eval = none ∧ l = 0) ∨ ∃ q,lo.map a.eval = some (.int q l) := by
    rcases hL with ⟨g1,_,g3⟩ | g
    ·exact .inl ⟨g1,g3⟩
    ·exact .inr g
   have hU : (hi.map a.eval = none ∧ (none : Option Value) = none ∧ u.getD (y.size : Int) = (y.size : Int)) ∨ ∃ q,hi.map a.eval = some (.int q (u.getD (y.size : Int))) := by
    rcases hu2 with ⟨g1,rfl⟩ | ⟨q,n,g1,rfl⟩
    ·exact .inl ⟨g1,rfl,rfl⟩
    ·exact .inr ⟨q,g1⟩
   have hb := run_bounds (P := P) (w := w) (isS := false) (len := y.size) (cap := y.size) hL' hU (.inl ⟨rfl,rfl⟩) hcond.1 hcond.2.1 hcond.2.2 (Int.le_refl _)
   refine ⟨rfl,_,?_,.s⟩
   simp only [Gives,execOp,ho,inv_s r1,Instr.sliceAt,Instr.slice,Sem.run_bind,run_underlying hu w,Result.andThen_ok,Option.map_none,Option.isSome_none,ji,if_false,Sem.run_pure,hb]
  ·cases hs
 ·cases hs
theorem op_aidx (k : WInv f w T ρ h) (he : Env w T ρ e a) {x y : Operand} {x' y' : At} {t el : TypeId} {n sz : Nat} {ag : Bool} {av : AV} {h' : Heap} (call : Call) (ho : o.op = .index t x y) (hu : P.underlying t = some (.array n el)) (hsz : szT P el = some sz) (hag : aggT P el = some ag)
  (h1 : ma f.tabs x x' = true) (h2 : ma f.tabs y y' = true) (hv : PO.ev call (.aidx ag n sz x' y') e h = some (av,h')) : h' = h ∧ ∃ v,Gives P o a w v ∧ Rv w T ρ av v := by
 have r1 := ma_rv k he h1
 have r2 := ma_rv k he h2
 simp only [PO.ev] at hv
 split at hv
 ·rename_i cs j hq hj
  split at hv
  ·rename_i hcond
   simp only [zw] at hv
   obtain ⟨c,hc,hcv⟩ := hv
   cases hcv
   obtain ⟨q,hy⟩ := intV_i hj r2
   rw [hq] at r1
   generalize hx : a.eval x = v at r1
   cases r1 with
   | agg us hl hone hu2 =>
    obtain ⟨v,h3,h4⟩ := part_rv hag hsz hl hone hu2 hc
    refine ⟨rfl,v,?_,h4⟩
    simp only [Gives,execOp,ho,hx,hy,Instr.index,asIntOf,Sem.run_bind,Sem.run_pure,Result.andThen_ok,run_underlying hu w,if_pos hcond,run_sizeOf' hsz,h3]
  ·cases hv
 ·cases hv
theorem bytesL_length (s : ByteArray) : (bytesL s).length = s.size := by unfold bytesL; rw [zC,Array.length_toList]; rfl
theorem bytesL_getD (s : ByteArray) (j : Nat) (hj : j < s.data.size) : (bytesL s).getD j [] = [.i .u8 (s.data[j].toNat : Int)] := by
 unfold bytesL
 rw [zo,List.getElem?_map,Array.getElem?_toList,Array.getElem?_eq_getElem hj]
 rfl
theorem dget (y : ByteArray) (j : Nat) (hj : j < y.data.size) : y.data.getD j 0 = y.data[j] := by rw [Array.getD_eq_getD_getElem?,Array.getElem?_eq_getElem hj]; rfl
theorem op_s2b (k : WInv f w T ρ h) (he : Env w T ρ e a) {x : Operand} {x' : At} {s d el : TypeId} {av : AV} {h' : Heap} (call : Call) (ho : o.op = .convert s d x) (hs : P.underlying s = some .string) (hd : P.underlying d = some (.slice el)) (hel : P.underlying el = some (.int .u8)) (h1 : ma f.tabs x x' = true)
  (hv : PO.ev call (.s2b x') e h = some (av,h')) : Turns P f o a w T ρ av h' := by
 have r1 := ma_rv k he h1
 simp only [PO.ev] at hv
 split at hv
 ·rename_i y hq
  split at hv
  ·rename_i hcond
   cases hv
   rw [hq] at r1
   have hr := run_bytes_of_string (P := P) w s d el y hs hd hel
   have hold : Old w (w.drew.alloc (.cells (bytesRow y (grownCap w y.size 0 el)) el ((bytesRow y (grownCap w y.size 0 el)).size,(bytesRow y (grownCap w y.size 0 el)).size + 1))) := (Old.drew w).trans (Old.alloc _ _)
   refine ⟨.slice (some ⟨w.heap.size,0,none⟩) y.size (grownCap w y.size 0 el),_,T,ρ,.inl ?_,k.old hold,⟨hold.same T,fun _ _ h => h,fun _ _ h => h⟩,?_⟩
   ·simp only [execOp,ho,inv_s r1,Sem.run_bind,hr,Result.andThen_ok,Sem.run_pure]
   ·have hnt : ¬ T w.heap.size := fun ht => Nat.lt_irrefl _ (k.tlt _ ht)
    have key := Rv.l (w := w.drew.alloc (.cells (bytesRow y (grownCap w y.size 0 el)) el ((bytesRow y (grownCap w y.size 0 el)).size,(bytesRow y (grownCap w y.size 0 el)).size + 1))) (T := T) (ρ := ρ) (z := 1) (es := bytesL y) (b := w.heap.size) (base := 0) (cap := grownCap w y.size 0 el)
     (fun j _ => .int .u8 ((y.data.getD j 0).toNat : Int)) hnt (by show w.heap.size < (w.heap.push _).size; rw [Array.size_push]; exact Nat.lt_succ_self _) (by rw [bytesL_length]; exact grownCap_ge ..) (grownCap_le_maxLen _ _ _ _ (by simp only [maxLen]; omega))
     (fun j hj => by rw [bytesL_length] at hj; rw [bytesL_getD y j hj]; rfl)
     (fun j c hj hc => by
      rw [bytesL_length] at hj
      have hc0 : c = 0 := by omega
      subst hc0
      refine ⟨?_,rfl⟩
      have e1 := World.cell?_alloc_mark w.drew (bytesRow y (grownCap w y.size 0 el)) el ((bytesRow y (grownCap w y.size 0 el)).size,(bytesRow y (grownCap w y.size 0 el)).size + 1) (0 + j * 1 + 0)
      have e2 : w.drew.heap.size = w.heap.size := rfl
      rw [e2] at e1
      rw [e1,show 0 + j * 1 + 0 = j by omega,bytesRow_at y _ j hj]
      rw [dget y j hj])
     (fun j c hj hc => by
      rw [bytesL_length] at hj
      have hc0 : c = 0 := by omega
      subst hc0
      have hj' : j < y.data.size := hj
      rw [bytesL_getD y j hj']
      rw [dget y j hj']
      exact .i)
    rw [bytesL_length] at key
    exact key
  ·cases hv
 ·cases hv
end
abbrev Fns := (Nat → Option PF) × (Nat → Nat)
def zeroOk (P : Program) (t : TypeId) (z : List AV) : Bool := match P.info? t with
 | some i => match i.zero with
  | some zv => mvs zv.cells.toList z
  | none => false
 | none => false
theorem zeroOk_spec {P : Program} {t : TypeId} {z : List AV} (h : zeroOk P t z = true) : ∃ i zv,P.info? t = some i ∧ i.zero = some zv ∧ mvs zv.cells.toList z = true := by
 unfold zeroOk at h
 split at h
 ·rename_i i hi
  split at h
  ·rename_i zv hz; exact ⟨i,zv,hi,hz,h⟩
  ·cases h
 ·cases h
def elT (P : Program) (t : TypeId) : Option TypeId := match P.underlying t with
 | some (.slice el) => some el
 | _ => none
theorem elT_spec {P : Program} {t el : TypeId} (h : elT P t = some el) : P.underlying t = some (.slice el) := by
 unfold elT at h
 split at h
 ·rename_i e he; cases h; exact he
 ·cases h
def intT (P : Program) (t : TypeId) : Option IntKind := match P.underlying t with
 | some (.int k) => some k
 | _ => none
theorem intT_spec {P : Program} {t : TypeId} {k : IntKind} (h : intT P t = some k) : P.underlying t = some (.int k) := by
 unfold intT at h
 split at h
 ·rename_i e he; cases h; exact he
 ·cases h
def isBoolT (P : Program) (t : TypeId) : Bool := match P.underlying t with
 | some .bool => true
 | _ => false
theorem isBoolT_spec {P : Program} {t : TypeId} (h : isBoolT P t = true) : P.underlying t = some .bool := by
 unfold isBoolT at h
 split at h
 ·rename_i he; exact he
 ·cases h
def isStrT (P : Program) (t : TypeId) : Bool := match P.underlying t with
 | some .string => true
 | _ => false
theorem isStrT_spec {P : Program} {t : TypeId} (h : isStrT P t = true) : P.underlying t = some .string := by
 unfold isStrT at h
 split at h
 ·rename_i he; exact he
 ·cases h
def strT (P : Program) (t : TypeId) : Option (Array Field) := match P.underlying t with
 | some (.struct fs) => some fs
 | _ => none
theorem strT_spec {P : Program} {t : TypeId} {fs : Array Field} (h : strT P t = some fs) : P.underlying t = some (.struct fs) := by
 unfold strT at h
 split at h
 ·rename_i e he; cases h; exact he
 ·cases h
def arrT (P : Program) (t : TypeId) : Option (Nat × TypeId) := match P.underlying t with
 | some (.array n el) => some (n,el)
 | _ => none
theorem arrT_spec {P : Program} {t el : TypeId} {n : Nat} (h : arrT P t = some (n,el)) : P.underlying t = some (.array n el) := by
 unfold arrT at h
 split at h
 ·rename_i a b he; cases h; exact he
 ·cases h
def notInt : Value → Bool
 | .int _ _ => false
 | _ => true
def elOk (P : Program) (t : TypeId) (sz : Nat) (bytes : Option Nat) (z : Option (List AV)) : Bool := match elT P t with
 | some el => match P.info? el with
  | some i => decide (i.size = sz) && decide (0 < sz) && (match bytes with | some b => decide (i.bytes = b) && decide (0 < b) | none => true) && (match i.zero with
   | some zv => (match z with | some z => mvs zv.cells.toList z && decide (z.length = sz) | none => decide (zv.cells.size = sz) && (sz != 3 || zv.cells.toList.all notInt))
   | none => false)
  | none => false
 | none => false
theorem elOk_spec {P : Program} {t : TypeId} {sz : Nat} {bytes : Option Nat} {z : Option (List AV)} (h : elOk P t sz bytes z = true) :
  ∃ el i zv,P.underlying t = some (.slice el) ∧ P.info? el = some i ∧ i.zero = some zv ∧ i.size = sz ∧ 0 < sz ∧ (∀ b,bytes = some b → i.bytes = b ∧ 0 < b) ∧ (∀ y,z = some y → mvs zv.cells.toList y = true ∧ y.length = sz) ∧ (z = none → zv.cells.size = sz ∧ (sz = 3 → Ni zv.cells.toList)) := by
 unfold elOk at h
 split at h
 ·rename_i el hel
  split at h
  ·rename_i i hi
   simp only [zu,decide_eq_true_eq] at h
   obtain ⟨⟨⟨h1,h2⟩,h3⟩,h4⟩ := h
   split at h4
   ·rename_i zv hz
    refine ⟨el,i,zv,elT_spec hel,hi,hz,h1,h2,fun b hb => ?_,fun y hy => ?_,fun hn => ?_⟩
    ·subst hb; simpa using h3
    ·subst hy; simpa using h4
    ·subst hn
     simp only [zu,decide_eq_true_eq] at h4
     refine ⟨h4.1,fun h3 v hv k i e => ?_⟩
     have h5 := h4.2
     rw [h3] at h5
     have h6 : zv.cells.toList.all notInt = true := h5
     have h7 := List.all_eq_true.1 h6 v hv
     rw [e] at h7; cases h7
   ·cases h4
  ·cases h
 ·cases h
section
variable (P : Program) (F : Fns) (tabs : List (Nat × List AV))
def mCall (g : Nat) (ys : List At) (lent : List Nat) (c : Go.Call) : Bool :=
 (match c.callee with | .value (.func g') => g' == F.2 g | _ => false) && mas tabs c.args.toList ys && bodied P (F.2 g) && decide (ys.length = arOf P (F.2 g)) && (match F.1 g with | some p => decide (p.lent = lent) && p.res.all fun x => decide (x.2 ≤ 1) | none => false)
def bi1 (b : Builtin) (c : Go.Call) : Bool := (match c.callee with | .builtin b' => decide (b' = b) | _ => false)
def mop : PO → Op → Bool
 | .mv y,.move x | .mv y,.assign x => ma tabs x y
 | .pick x' y' z',.pick x y z => ma tabs x x' && ma tabs y y' && ma tabs z z'
 | .box _ sz y,.box _ x => decide (0 < sz) && ma tabs x y
 | .alloc _ z,.alloc t => zeroOk P t z
 | .build z ps,.build t parts => zeroOk P t z && (match strT P t with
  | some fs => (fs.toList.all fun x => (szT P x.type).isSome) && mfields P tabs (placeS P fs) parts.toList ps
  | none => match arrT P t with
   | some (_,el) => (match szT P el with
    | some sz => mfields P tabs (fun i => some (i * sz,sz)) parts.toList ps
    | none => false)
   | none => false)
 | .bsl _ sz z n ps,.buildSlice t n' parts => decide (n' = n) && decide (n * sz ≤ 16777216) && elOk P t sz none (some z) && mparts tabs parts.toList ps
 | .ld ag sz y,.load t x => decide (aggT P t = some ag) && decide (szT P t = some sz) && ma tabs x y
 | .st sz x' y',.store t x y => decide (szT P t = some sz) && decide (0 < sz) && ma tabs x x' && ma tabs y y'
 | .nck y,.nilCheck x => ma tabs x y
 | .bin op x' y',.binOp op' _ x y _ => decide (op' = op) && ma tabs x x' && ma tabs y y'
 | .eqb ng x' y',.binOp op t x y _ => decide (op = if ng then .neq else .eql) && isBoolT P t && ma tabs x x' && ma tabs y y'
 | .eqs ng n x' y',.binOp op t x y _ => decide (op = if ng then .neq else .eql) && eqsOk P t n && ma tabs x x' && ma tabs y y'
 | .not y,.unOp .not _ x => ma tabs x y
 | .neg y,.unOp .neg _ x => ma tabs x y
 | .conv q y,.convert s d x => (intT P s).isSome && decide (intT P d = some q) && ma tabs x y
 | .b2s y,.convert s d x => (match elT P s with | some el => decide (intT P el = some .u8) | none => false) && isStrT P d && ma tabs x y
 | .mk _ sz bytes z y,.makeSlice t x x2 => (match x2,x with | .tmp i,.tmp j => i == j | .const (.int k n),.const (.int k' n') => decide (k = k' ∧ n = n') | _,_ => false) && elOk P t sz (some bytes) (some z) && ma tabs x y
 | .cut z y lo' hi' mx',.slice t x lo hi mx => (match elT P t with | some el => decide (szT P el = some z) | none => false) && ma tabs x y && mo2 tabs lo lo' && mo2 tabs hi hi' && mo2 tabs mx mx' && (mx.isNone || hi.isSome)
 | .fld d y,.fieldAddr t x i => (match strT P t with | some fs => (match fs[i]? with | some fl => decide (fl.offset = d) && (match szT P fl.type with | some (_ + 1) => true | _ => false) | none => false) | none => false) && ma tabs x y
 | .idx z x' y',.indexAddr t x y => (match elT P t with | some el => decide (szT P el = some z) | none => false) && ma tabs x x' && ma tabs y y'
 | .idxa n z x' y',.indexAddr t x y => (match arrT P t with | some (n',el) => decide (n' = n) && decide (szT P el = some z) | none => false) && ma tabs x x' && ma tabs y y'
 | .sidx x' y',.index t x y => isStrT P t && ma tabs x x' && ma tabs y y'
 | .ext n y,.extract x n' => decide (n' = n) && ma tabs x y
 | .fpt ag sz d y,.field t x i => (match strT P t with | some fs => (match fs[i]? with | some fl => decide (fl.offset = d) && decide (szT P fl.type = some sz) && decide (aggT P fl.type = some ag) | none => false) | none => false) && ma tabs x y
 | .len y,.call c => bi1 .len c && (match c.args.toList,c.argTypes.toList with | [x],[t] => (elT P t).isSome && ma tabs x y | _,_ => false)
 | .slen y,.call c => bi1 .len c && (match c.args.toList,c.argTypes.toList with | [x],[t] => isStrT P t && ma tabs x y | _,_ => false)
 | .min x' y',.call c => bi1 .min c && (match c.args.toList with | [x,y] => ma tabs x x' && ma tabs y y' | _ => false)
 | .max x' y',.call c => bi1 .max c && (match c.args.toList with | [x,y] => ma tabs x x' && ma tabs y y' | _ => false)
 | .app _ sz bytes x' y',.call c => bi1 .append c && (match c.args.toList,c.argTypes.toList with | [x,y],[t,t'] => decide (t' = t) && elOk P t sz (some bytes) none && ma tabs x x' && ma tabs y y' | _,_ => false)
 | .copy sz x' y',.call c => bi1 .copy c && (match c.args.toList,c.argTypes.toList with | [x,y],[t,t'] => elOk P t sz none none && ma tabs x x' && ma tabs y y' | _,_ => false)
 | .call g ys,.call c => mCall P F tabs g ys [] c
 | .callo g ys _,.call c => mCall P F tabs g ys [] c
 | .callk g ys _,.call c => mCall P F tabs g ys [] c
 | .calln g ys li id,.call c => mCall P F tabs g ys [li + 1000] c && decide (li < ys.length) && decide (ys.length ≤ 1000) && (match F.1 g with | some p => decide (p.res.length ≤ 100) | none => false)
 | .callw g ys li,.call c => mCall P F tabs g ys [li] c && decide (li < 1000) && decide (li < ys.length) && (match F.1 g with | some p => decide (p.res.length ≤ 100) | none => false)
 | .s2b y,.convert s d x => isStrT P s && (match elT P d with | some el => decide (intT P el = some .u8) | none => false) && ma tabs x y
 | .scut y lo' hi',.slice t x lo hi mx => isStrT P t && ma tabs x y && mo2 tabs lo lo' && mo2 tabs hi hi' && mx.isNone
 | .aidx ag n z x' y',.index t x y => (match arrT P t with | some (n',el) => decide (n' = n) && decide (szT P el = some z) && decide (aggT P el = some ag) | none => false) && ma tabs x x' && ma tabs y y'
 | _,_ => false
end
section
variable {P : Program} {F : Fns} {f : Fr} {w : World} {T : Nat → Prop} {ρ : Rho} {h : Heap} {e : Nat → AV} {a : Act} {o : Oper}
theorem bi1_spec {b : Builtin} {c : Go.Call} (h : bi1 b c = true) : c.callee = .builtin b := by
 unfold bi1 at h
 split at h
 ·rename_i b' hb; simp only [decide_eq_true_eq] at h; rw [hb,h]
 ·cases h
theorem arr1 {α : Type} {x : Array α} {a : α} (h : x.toList = [a]) : x = #[a] := by cases x; simp at h; simp [h]
theorem arr2 {α : Type} {x : Array α} {a b : α} (h : x.toList = [a,b]) : x = #[a,b] := by cases x; simp at h; simp [h]
theorem mCall_spec {tabs : List (Nat × List AV)} {g : Nat} {ys : List At} {lent : List Nat} {c : Go.Call} (h : mCall P F tabs g ys lent c = true) :
  c.callee = .value (.func (F.2 g)) ∧ mas tabs c.args.toList ys = true ∧ bodied P (F.2 g) = true ∧ ys.length = arOf P (F.2 g) ∧ ∃ p,F.1 g = some p ∧ p.lent = lent ∧ ∀ x ∈ p.res,x.2 ≤ 1 := by
 unfold mCall at h
 simp only [zu] at h
 obtain ⟨⟨⟨⟨h1,h2⟩,h3⟩,h5⟩,h4⟩ := h
 refine ⟨?_,h2,h3,of_decide_eq_true h5,?_⟩
 ·split at h1
  ·rename_i g' hg; simp only [beq_iff_eq] at h1; rw [hg,h1]
  ·cases h1
 ·split at h4
  ·rename_i p hp
   simp only [zu,decide_eq_true_eq,List.all_eq_true] at h4
   exact ⟨p,hp,h4.1,h4.2⟩
  ·cases h4
theorem op_sound (k : WInv f w T ρ h) (he : Env w T ρ e a) {p : PO} {call : Call} {av : AV} {h' : Heap} (hm : mop P F f.tabs p o.op = true) (hc : ∀ g p xs r,F.1 g = some p → xs.length = arOf P (F.2 g) → call g xs = some r → CallOk P (F.2 g) p.res p.lent f.tabs xs r)
  (hv : p.ev call e h = some (av,h')) : Goes1 P f o a w T ρ av h' := by
 generalize hop : o.op = op at hm
 unfold mop at hm
 split at hm <;> try simp only [zu,decide_eq_true_eq,Bool.or_eq_true] at hm
 ·cases hv
  exact goes1_of_gives k ⟨rfl,op_move k he (.inl hop) hm⟩
 ·cases hv
  exact goes1_of_gives k ⟨rfl,op_move k he (.inr hop) hm⟩
 ·exact goes1_of_gives k (op_pick k he call hop hm.1.1 hm.1.2 hm.2 hv)
 ·exact (op_box k he call hop hm.1 hm.2 hv).goes1
 ·obtain ⟨i,zv,h1,h2,h3⟩ := zeroOk_spec hm
  exact (op_alloc k call hop h1 h2 h3 hv).goes1
 ·obtain ⟨i,zv,h1,h2,h3⟩ := zeroOk_spec hm.1
  obtain ⟨_,hm⟩ := hm
  split at hm
  ·rename_i fs hfs
   simp only [zu,List.all_eq_true] at hm
   exact goes1_of_gives k (op_build k he call hop h1 h2 h3 hm.2 (.inl ⟨fs,strT_spec hfs,hm.1,rfl⟩) hv)
  ·split at hm
   ·rename_i n el hel
    split at hm
    ·rename_i sz hsz
     exact goes1_of_gives k (op_build k he call hop h1 h2 h3 hm (.inr ⟨n,el,sz,arrT_spec hel,hsz,rfl⟩) hv)
    ·cases hm
   ·cases hm
 ·obtain ⟨⟨⟨rfl,h1⟩,h2⟩,h3⟩ := hm
  obtain ⟨el,i,zv,a1,a2,a3,a4,a5,a6,a7,a8⟩ := elOk_spec h2
  exact (op_bsl k he call hop a1 a2 a3 a4 a5 h1 (a7 _ rfl).1 (a7 _ rfl).2 h3 hv).goes1
 ·exact goes1_of_gives k (op_ld k he call hop hm.1.1 hm.1.2 hm.2 hv)
 ·exact (op_st k he call hop hm.1.1.1 hm.1.1.2 hm.1.2 hm.2 hv).goes1
 ·exact goes1_of_gives k (op_nck k he call hop hm hv)
 ·obtain ⟨⟨rfl,h1⟩,h2⟩ := hm
  exact goes1_of_gives k (op_bin k he call hop h1 h2 hv)
 ·obtain ⟨⟨⟨rfl,h0⟩,h1⟩,h2⟩ := hm
  exact goes1_of_gives k (op_eqb k he call hop (isBoolT_spec h0) h1 h2 hv)
 ·obtain ⟨⟨⟨rfl,h0⟩,h1⟩,h2⟩ := hm
  exact goes1_of_gives k (op_eqs k he call hop h0 h1 h2 hv)
 ·exact goes1_of_gives k (op_not k he call hop hm hv)
 ·exact goes1_of_gives k (op_neg k he call hop hm hv)
 ·obtain ⟨⟨h1,h2⟩,h3⟩ := hm
  obtain ⟨q',hq'⟩ := Option.isSome_iff_exists.1 h1
  exact goes1_of_gives k (op_conv k he call hop (intT_spec hq') (intT_spec h2) h3 hv)
 ·obtain ⟨⟨h1,h2⟩,h3⟩ := hm
  split at h1
  ·rename_i el hel
   simp only [decide_eq_true_eq] at h1
   exact goes1_of_gives k (op_b2s k he call hop (elT_spec hel) (intT_spec h1) (isStrT_spec h2) h3 hv)
  ·cases h1
 ·obtain ⟨⟨h1,h2⟩,h3⟩ := hm
  obtain ⟨el,i,zv,a1,a2,a3,a4,a5,a6,a7,a8⟩ := elOk_spec h2
  split at h1
  ·simp only [beq_iff_eq] at h1
   subst h1
   exact (op_mk k he call hop a1 a2 a3 a4 a5 (a6 _ rfl).1 (a6 _ rfl).2 (a7 _ rfl).1 (a7 _ rfl).2 h3 hv).goes1
  ·simp only [decide_eq_true_eq] at h1
   obtain ⟨rfl,rfl⟩ := h1
   exact (op_mk k he call hop a1 a2 a3 a4 a5 (a6 _ rfl).1 (a6 _ rfl).2 (a7 _ rfl).1 (a7 _ rfl).2 h3 hv).goes1
  ·cases h1
 ·obtain ⟨⟨⟨⟨⟨h1,h2⟩,h3⟩,h4⟩,h5⟩,h6⟩ := hm
  split at h1
  ·rename_i el hel
   simp only [decide_eq_true_eq] at h1
   refine goes1_of_gives k (op_cut k he call hop (elT_spec hel) h1 h2 h3 h4 h5 ?_ hv)
   rcases h6 with h6 | h6
   ·exact .inl (by simpa using h6)
   ·exact .inr (Option.isSome_iff_exists.1 h6)
  ·cases h1
 ·obtain ⟨h1,h2⟩ := hm
  split at h1
  ·rename_i fs hfs
   split at h1
   ·rename_i fl hfl
    simp only [zu,decide_eq_true_eq] at h1
    obtain ⟨h3,h4⟩ := h1
    split at h4
    ·rename_i m hm
     exact goes1_of_gives k (op_fld k he call hop (strT_spec hfs) hfl h3 hm h2 hv)
    ·cases h4
   ·cases h1
  ·cases h1
 ·obtain ⟨⟨h1,h2⟩,h3⟩ := hm
  split at h1
  ·rename_i el hel
   simp only [decide_eq_true_eq] at h1
   exact goes1_of_gives k (op_idx k he call hop (elT_spec hel) h1 h2 h3 hv)
  ·cases h1
 ·obtain ⟨⟨h1,h2⟩,h3⟩ := hm
  split at h1
  ·rename_i n' el hel
   simp only [zu,decide_eq_true_eq] at h1
   obtain ⟨rfl,h1⟩ := h1
   exact goes1_of_gives k (op_idxa k he call hop (arrT_spec hel) h1 h2 h3 hv)
  ·cases h1
 ·exact goes1_of_gives k (op_sidx k he call hop (isStrT_spec hm.1.1) hm.1.2 hm.2 hv)
 ·obtain ⟨rfl,h1⟩ := hm
  exact goes1_of_gives k (op_ext k he call hop h1 hv)
 ·obtain ⟨h1,h2⟩ := hm
  split at h1
  ·rename_i fs hfs
   split at h1
   ·rename_i fl hfl
    simp only [zu,decide_eq_true_eq] at h1
    exact goes1_of_gives k (op_fpt k he call hop (strT_spec hfs) hfl h1.1.1 h1.1.2 h1.2 h2 hv)
   ·cases h1
  ·cases h1
 ·obtain ⟨h1,h2⟩ := hm
  split at h2
  ·rename_i x t hx ht
   simp only [zu] at h2
   obtain ⟨el,hel⟩ := Option.isSome_iff_exists.1 h2.1
   exact goes1_of_gives k (op_len k he call hop (bi1_spec h1) (arr1 hx) (arr1 ht) (elT_spec hel) h2.2 hv)
  ·cases h2
 ·obtain ⟨h1,h2⟩ := hm
  split at h2
  ·rename_i x t hx ht
   simp only [zu] at h2
   exact goes1_of_gives k (op_slen k he call hop (bi1_spec h1) (arr1 hx) (arr1 ht) (isStrT_spec h2.1) h2.2 hv)
  ·cases h2
 ·obtain ⟨h1,h2⟩ := hm
  split at h2
  ·rename_i x y hx
   simp only [zu] at h2
   exact goes1_of_gives k (op_min k he call hop (bi1_spec h1) (arr2 hx) h2.1 h2.2 hv)
  ·cases h2
 ·obtain ⟨h1,h2⟩ := hm
  split at h2
  ·rename_i x y hx
   simp only [zu] at h2
   exact goes1_of_gives k (op_max k he call hop (bi1_spec h1) (arr2 hx) h2.1 h2.2 hv)
  ·cases h2
 ·obtain ⟨h1,h2⟩ := hm
  split at h2
  ·rename_i x y t t' hx ht
   simp only [zu,decide_eq_true_eq] at h2
   obtain ⟨⟨⟨rfl,h3⟩,h4⟩,h5⟩ := h2
   obtain ⟨el,i,zv,a1,a2,a3,a4,a5,a6,a7,a8⟩ := elOk_spec h3
   exact (op_app k he call hop (bi1_spec h1) (arr2 hx) (arr2 ht) a1 a2 a3 a4 (a6 _ rfl).1 (a8 rfl).1 a5 (a6 _ rfl).2 (a8 rfl).2 h4 h5 hv).goes1
  ·cases h2
 ·obtain ⟨h1,h2⟩ := hm
  split at h2
  ·rename_i x y t t' hx ht
   simp only [zu,decide_eq_true_eq] at h2
   obtain ⟨⟨h3,h4⟩,h5⟩ := h2
   obtain ⟨el,i,zv,a1,a2,a3,a4,a5,a6,a7,a8⟩ := elOk_spec h3
   exact (op_copy k he call hop (bi1_spec h1) (arr2 hx) (arr2 ht) a1 a2 a4 h4 h5 hv).goes1
  ·cases h2
 ·obtain ⟨h1,h2,h3,har,p,h4,h5,h6⟩ := mCall_spec hm
  exact op_call k he call hop h1 h2 h3 h6 (fun xs r hl hr => by rw [← h5]; exact hc _ p xs r h4 (hl.trans har) hr) hv
 ·obtain ⟨h1,h2,h3,har,p,h4,h5,h6⟩ := mCall_spec hm
  exact op_callo k he call hop h1 h2 h3 h6 (fun xs r hl hr => by rw [← h5]; exact hc _ p xs r h4 (hl.trans har) hr) hv
 ·obtain ⟨h1,h2,h3,har,p,h4,h5,h6⟩ := mCall_spec hm
  exact op_callk k he call hop h1 h2 h3 h6 (fun xs r hl hr => by rw [← h5]; exact hc _ p xs r h4 (hl.trans har) hr) hv
 ·obtain ⟨⟨⟨hm,h7⟩,h9⟩,h8⟩ := hm
  obtain ⟨h1,h2,h3,har,p,h4,h5,h6⟩ := mCall_spec hm
  rw [h4] at h8
  exact op_calln k he call hop h1 h2 h3 h9 h7 h6 (by simpa using h8) (fun xs r hl hr => by rw [← h5]; exact hc _ p xs r h4 (hl.trans har) hr) hv
 ·obtain ⟨⟨⟨hm,h9⟩,h7⟩,h8⟩ := hm
  obtain ⟨h1,h2,h3,har,p,h4,h5,h6⟩ := mCall_spec hm
  rw [h4] at h8
  exact op_callw k he call hop h1 h2 h3 h9 h7 h6 (by simpa using h8) (fun xs r hl hr => by rw [← h5]; exact hc _ p xs r h4 (hl.trans har) hr) hv
 ·obtain ⟨⟨h1,h2⟩,h3⟩ := hm
  split at h2
  ·rename_i el hel
   simp only [decide_eq_true_eq] at h2
   exact (op_s2b k he call hop (isStrT_spec h1) (elT_spec hel) (intT_spec h2) h3 hv).goes1
  ·cases h2
 ·obtain ⟨⟨⟨⟨h1,h2⟩,h3⟩,h4⟩,h5⟩ := hm
  have h6 := Option.isNone_iff_eq_none.1 h5
  subst h6
  exact goes1_of_gives k (op_scut k he call hop (isStrT_spec h1) h2 h3 h4 hv)
 ·obtain ⟨⟨h1,h2⟩,h3⟩ := hm
  split at h1
  ·rename_i n' el hel
   simp only [zu,decide_eq_true_eq] at h1
   obtain ⟨⟨rfl,h4⟩,h5⟩ := h1
   exact goes1_of_gives k (op_aidx k he call hop (arrT_spec hel) h4 h5 h2 h3 hv)
  ·cases h1
 ·cases hm
end
def Sim (f : Fr) (nt : Nat) (w : World) (st : St) (a : Act) : Prop := nt ≤ a.tmps.size ∧ a.defers = [] ∧ ∃ T ρ,WInv f w T ρ st.h ∧ Env w T ρ st.env a
def CallsOk (P : Program) (F : Fns) (tabs : List (Nat × List AV)) (call : Call) : Prop := ∀ g p xs r,F.1 g = some p → xs.length = arOf P (F.2 g) → call g xs = some r → CallOk P (F.2 g) p.res p.lent tabs xs r
section
variable {P : Program} {F : Fns} {f : Fr} {nt : Nat} {w : World} {a : Act}
theorem put_env {T : Nat → Prop} {ρ : Rho} {e : Nat → AV} {av : AV} {v : Value} {d : Option Nat} (he : Env w T ρ e a) (hv : Rv w T ρ av v) (hd : ∀ t,d = some t → t < a.tmps.size) : Env w T ρ (setD e d av) (a.put d v) := by
 cases d with
 | none => exact he
 | some t =>
  intro s
  show Rv w T ρ (upd e t av s) ((a.tmps.setIfInBounds t v).getD s undef)
  unfold upd
  have hlt := hd t rfl
  split
  ·rename_i hs
   subst hs
   have : (a.tmps.setIfInBounds s v).getD s undef = v := by simp [hlt]
   rw [this]; exact hv
  ·rename_i hs
   have : (a.tmps.setIfInBounds t v).getD s undef = a.tmps.getD s undef := by
    have h2 : ¬ t = s := fun h => hs h.symm
    simp [Array.getElem?_setIfInBounds,h2]
   rw [this]; exact he s
theorem put_size (a : Act) (d : Option Nat) (v : Value) : (a.put d v).tmps.size = a.tmps.size := by cases d <;> simp [Act.put]
theorem put_defers (a : Act) (d : Option Nat) (v : Value) : (a.put d v).defers = a.defers := by cases d <;> rfl
def mpo (P : Program) (F : Fns) (tabs : List (Nat × List AV)) (nt : Nat) (ops : Array Oper) (o : Oper) (p : POp) : Bool :=
 decide (o.dst = p.dst) && (match p.dst with | some d => decide (d < nt) | none => true) && (match o.guard,p.guard with
  | none,none => true
  | some (g,q),some (t,q') => q == q' && decide ((ops[g]?).bind (·.dst) = some t)
  | _,_ => false) && mop P F tabs p.op o.op
theorem wanted_of {ops : Array Oper} {o : Oper} {p : POp} {st : St} {tabs : List (Nat × List AV)} (hs : Sim f nt w st a) (hm : mpo P F tabs nt ops o p = true) {call : Call} {st' : St} (hv : p.ev call st = some st') :
  (Region.wanted o (yielded ops a.tmps) = true ∧ (p.op.ev call st.env st.h).map (fun q => (⟨setD st.env p.dst q.1,q.2⟩ : St)) = some st') ∨ (Region.wanted o (yielded ops a.tmps) = false ∧ st' = ⟨setD st.env p.dst (.tup []),st.h⟩) := by
 simp only [mpo,zu] at hm
 obtain ⟨⟨⟨h1,h2⟩,h3⟩,h4⟩ := hm
 unfold POp.ev at hv
 split at h3
 ·rename_i h5 h6
  rw [h6] at hv
  refine .inl ⟨?_,hv⟩
  unfold Region.wanted
  rw [h5]
 ·rename_i g q t q' h5 h6
  rw [h6] at hv
  simp only [zu,beq_iff_eq,decide_eq_true_eq] at h3
  obtain ⟨rfl,h3⟩ := h3
  simp only at hv
  have main : ∀ z,st.env t = .b z → yielded ops a.tmps g = some z := by
   intro z hz
   obtain ⟨_,_,T,ρ,k,he⟩ := hs
   have := he t
   rw [hz] at this
   have hb := inv_b this
   have hy : yielded ops a.tmps g = some z := by
    unfold yielded
    rw [h3]
    show (match (some t).bind (fun x => a.tmps[x]?) with | some (.bool b) => some b | _ => none) = some z
    have : a.tmps[t]? = some (.bool z) := by
     cases hx : a.tmps[t]? with
     | none => simp [hx,undef] at hb
     | some y => simp [hx] at hb; rw [hb]
    simp only [zN,this]
   exact hy
  have none_ : st.env t = .tup [] → yielded ops a.tmps g = none := by
   intro hz
   obtain ⟨_,_,T,ρ,k,he⟩ := hs
   have := he t
   rw [hz] at this
   generalize hu : a.tmps.getD t undef = v at this
   cases this with
   | tup vs hl _ =>
    have hv0 : vs = #[] := Array.eq_empty_of_size_eq_zero hl
    subst hv0
    unfold yielded
    rw [h3]
    show (match (some t).bind (fun x => a.tmps[x]?) with | some (.bool b) => some b | _ => none) = none
    simp only [zN]
    cases hx : a.tmps[t]? with
    | none => rfl
    | some y =>
     simp [hx] at hu
     rw [hu]
  unfold Region.wanted
  rw [h5]
  simp only
  generalize hav : st.env t = av at hv main none_
  cases av <;> simp only [AV.yes] at hv <;> try (cases hv; done)
  case b z =>
   rw [main z rfl]
   by_cases hzq : z = q
   ·subst hzq
    simp only [beq_self_eq_true] at hv
    exact .inl ⟨by simp,hv⟩
   ·rw [show (z == q) = false by simpa using hzq] at hv
    cases hv
    exact .inr ⟨by simpa using hzq,rfl⟩
  case tup cs =>
   cases cs with
   | nil =>
    cases hv
    rw [none_ rfl]
    exact .inr ⟨rfl,rfl⟩
   | cons => cases hv
 ·cases h3
theorem op_sim {ops : Array Oper} {o : Oper} {p : POp} {st st' : St} (hs : Sim f nt w st a) (hm : mpo P F f.tabs nt ops o p = true) {call : Call} (hc : CallsOk P F f.tabs call) (hv : p.ev call st = some st')
  (K : Act → World → Prop) (Q : Exit → Act → World → Prop) (hK : ∀ a' w',Sim f nt w' st' a' → K a' w') : if Region.wanted o (yielded ops a.tmps) = true then o.wp P a w K Q else K (a.put o.dst undef) w := by
 have hw := wanted_of hs hm hv
 simp only [mpo,zu,decide_eq_true_eq] at hm
 obtain ⟨⟨⟨h1,h2⟩,h3⟩,h4⟩ := hm
 obtain ⟨hsz,hdf,T,ρ,k,he⟩ := hs
 have hd : ∀ t,p.dst = some t → t < a.tmps.size := by
  intro t ht
  rw [ht] at h2
  simp only [decide_eq_true_eq] at h2
  omega
 rcases hw with ⟨hw,hv⟩ | ⟨hw,rfl⟩
 ·rw [if_pos hw]
  simp only [zw] at hv
  obtain ⟨⟨av,h'⟩,hv2,rfl⟩ := hv
  refine op_sound k he h4 hc hv2 K Q fun v w' T' ρ' k' g r => hK _ _ ?_
  rw [h1]
  exact ⟨by rw [put_size]; exact hsz,(put_defers _ _ _).trans hdf,T',ρ',k',put_env (he.goes g) r hd⟩
 ·rw [if_neg (by simp [hw])]
  refine hK _ _ ?_
  rw [h1]
  exact ⟨by rw [put_size]; exact hsz,(put_defers _ _ _).trans hdf,T,ρ,k,put_env he (.tup #[] rfl fun c hc => by cases hc) hd⟩
theorem wp_ex {o : Oper} {K : Act → World → Prop} (h : o.wp P a w K fun _ _ _ => False) : ∃ a' w',K a' w' := by
 unfold Oper.wp at h
 generalize (execOp a.eval o).run P w = r at h
 have hlets : LetsOut (fun _ _ _ => False) → False := fun ⟨_,_,h⟩ => h
 cases r with
 | ok n w' =>
  cases n <;> simp only [Oper.upon] at h
  case value => exact ⟨_,_,h⟩
  case skip => exact ⟨_,_,h⟩
  case defer => exact ⟨_,_,h⟩
  case enter f args =>
   obtain ⟨e,w'',fr,h1,_⟩ := h []
   cases e with
   | returned v => exact ⟨_,_,h1⟩
   | panicked => exact h1.elim
   | outgrown => exact (hlets h1).elim
  case row r args =>
   obtain ⟨v,w'',h1,_⟩ := h default []
   exact ⟨_,_,h1⟩
 | halt x w' =>
  cases x <;> simp only [Oper.upon] at h
def Real (f : Fr) (nt : Nat) (st : St) : Prop := ∃ w a,Sim f nt w st a
theorem Real.step {ops : Array Oper} {o : Oper} {p : POp} {st st' : St} (hr : Real f nt st) (hm : mpo P F f.tabs nt ops o p = true) {call : Call} (hc : CallsOk P F f.tabs call) (hv : p.ev call st = some st') : Real f nt st' := by
 obtain ⟨w,a,hs⟩ := hr
 have := op_sim hs hm hc hv (fun a' w' => Sim f nt w' st' a') (fun _ _ _ => False) fun _ _ h => h
 split at this
 ·obtain ⟨a',w',h⟩ := wp_ex this
  exact ⟨w',a',h⟩
 ·exact ⟨_,_,this⟩
def mposL (P : Program) (F : Fns) (tabs : List (Nat × List AV)) (nt : Nat) (ops : Array Oper) : List Oper → List POp → Bool
 | [],[] => true
 | o :: os,p :: ps => mpo P F tabs nt ops o p && mposL P F tabs nt ops os ps
 | _,_ => false
theorem mposL_get {tabs : List (Nat × List AV)} {ops : Array Oper} : ∀ {os : List Oper} {ps : List POp},mposL P F tabs nt ops os ps = true → os.length = ps.length ∧ ∀ (i : Nat) o p,os[i]? = some o → ps[i]? = some p → mpo P F tabs nt ops o p = true := by
 intro os
 induction os with
 | nil => intro ps h; cases ps with
  | nil => exact ⟨rfl,fun i o p h => by simp at h⟩
  | cons => cases h
 | cons o os ih =>
  intro ps h
  cases ps with
  | nil => cases h
  | cons p ps =>
   simp only [mposL,zu] at h
   obtain ⟨h1,h2⟩ := ih h.2
   refine ⟨by simp [h1],fun i o' p' ho hp => ?_⟩
   cases i with
   | zero => simp at ho hp; subst ho; subst hp; exact h.1
   | succ i => simp at ho hp; exact h2 i o' p' ho hp
theorem ops_sim {ops : Array Oper} {ps : List POp} (hm : mposL P F f.tabs nt ops ops.toList ps = true) {call : Call} (hc : CallsOk P F f.tabs call) (Q : Exit → Act → World → Prop) {stf : St} (hQ : ∀ a w,Sim f nt w stf a → Q .normal a w) :
  ∀ (n k : Nat) (w : World) (a : Act) (st : St),k + n = ps.length → Sim f nt w st a → evs call (ps.drop k) st = some stf → wpOps P ops Q (List.range' k n) a w := by
 obtain ⟨hl,hg⟩ := mposL_get hm
 intro n
 induction n with
 | zero =>
  intro k w a st hk hs hv
  rw [zW (by omega)] at hv
  cases hv
  exact hQ a w hs
 | succ n ih =>
  intro k w a st hk hs hv
  have hlt : k < ps.length := by omega
  rw [List.drop_eq_getElem_cons hlt] at hv
  simp only [evs,zy] at hv
  obtain ⟨st1,h1,h2⟩ := hv
  have hkl : k < ops.toList.length := by omega
  have ho : ops[k]? = some ops.toList[k] := by
   rw [← Array.getElem?_toList]; exact zr hkl
  have hmk := hg k _ _ (zr hkl) (zr hlt)
  rw [List.range'_succ]
  simp only [wpOps,ho]
  have := op_sim hs hmk hc h1 (wpOps P ops Q (List.range' (k + 1) n)) Q fun a' w' h => ih (k + 1) w' a' st1 (by omega) h h2
  split at this
  ·rename_i hw; rw [if_pos hw]; exact .inl this
  ·rename_i hw; rw [if_neg hw]; exact this
theorem region_seq {ops : Array Oper} {ps : List POp} {id : Nat} (hm : mposL P F f.tabs nt ops ops.toList ps = true) {call : Call} (hc : CallsOk P F f.tabs call) (Q : Exit → Act → World → Prop) {st stf : St} (hQ : ∀ a w,Sim f nt w stf a → Q .normal a w)
  (hs : Sim f nt w st a) (hv : evs call ps st = some stf) : (Code.region id ops false).wp P Q a w := by
 refine wp_region ?_
 rw [List.range_eq_range']
 have hl := (mposL_get hm).1
 exact ops_sim hm hc Q hQ ops.size 0 w a st (by rw [← hl]; simp) hs hv
end
def At.tmps : At → List Nat
 | .t n => [n]
 | .c _ => []
def PO.ats : PO → List At
 | .mv x | .box _ _ x | .ld _ _ x | .nck x | .not x | .neg x | .conv _ x | .b2s x | .mk _ _ _ _ x | .fld _ x | .ext _ x | .fpt _ _ _ x | .len x | .slen x | .s2b x => [x]
 | .pick c x y => [c,x,y]
 | .alloc _ _ => []
 | .build _ ps => ps.map fun p => p.2.2
 | .bsl _ _ _ _ ps => ps.map fun p => p.2
 | .st _ x v => [x,v]
 | .bin _ x y | .eqb _ x y | .eqs _ _ x y | .idx _ x y | .idxa _ _ x y | .sidx x y | .min x y | .max x y | .app _ _ _ x y | .copy _ x y | .aidx _ _ _ x y => [x,y]
 | .cut _ x lo hi mx => x :: (lo.toList ++ hi.toList ++ mx.toList)
 | .scut x lo hi => x :: (lo.toList ++ hi.toList)
 | .call _ xs | .callw _ xs _ | .callo _ xs _ | .callk _ xs _ | .calln _ xs _ _ => xs
def PO.reads (o : PO) : List Nat := o.ats.flatMap At.tmps
theorem At.agree {e e' : Nat → AV} {x : At} (h : ∀ t ∈ x.tmps,e t = e' t) : x.ev e = x.ev e' := by
 cases x with
 | t n => exact h n (by simp [At.tmps])
 | c v => rfl
theorem map_agree {e e' : Nat → AV} {xs : List At} (h : ∀ x ∈ xs,x.ev e = x.ev e') : xs.map (At.ev e) = xs.map (At.ev e') := List.map_congr_left h
theorem buildV_agree {e e' : Nat → AV} : ∀ {ps : List (Nat × Nat × At)} {z : List AV},(∀ p ∈ ps,p.2.2.ev e = p.2.2.ev e') → buildV e z ps = buildV e' z ps := by
 intro ps
 induction ps with
 | nil => intro z _; rfl
 | cons p ps ih =>
  intro z h
  obtain ⟨off,sz,x⟩ := p
  have h1 : x.ev e = x.ev e' := h (off,sz,x) zG
  simp only [buildV,h1]
  split
  ·exact ih fun p hp => h p (zH _ hp)
  ·rfl
theorem bslV_agree {e e' : Nat → AV} {h : Heap} {sz : Nat} : ∀ {ps : List (Nat × At)} {z : List (List AV)},(∀ p ∈ ps,p.2.ev e = p.2.ev e') → bslV e h sz z ps = bslV e' h sz z ps := by
 intro ps
 induction ps with
 | nil => intro z _; rfl
 | cons p ps ih =>
  intro z h
  obtain ⟨j,x⟩ := p
  have h1 : x.ev e = x.ev e' := h (j,x) zG
  simp only [bslV,h1]
  split
  ·exact ih fun p hp => h p (zH _ hp)
  ·rfl
theorem optI_agree {e e' : Nat → AV} {d : Option Int} {x : Option At} (h : ∀ y ∈ x.toList,y.ev e = y.ev e') : optI e d x = optI e' d x := by
 cases x with
 | none => rfl
 | some y => simp only [optI,h y (by simp)]
theorem flatMap_agree {α β : Type} {f g : α → List β} {l : List α} (h : ∀ x ∈ l,f x = g x) : l.flatMap f = l.flatMap g := by
 induction l with
 | nil => rfl
 | cons x l ih => rw [List.flatMap_cons,List.flatMap_cons,h x zG,ih fun y hy => h y (zH _ hy)]
theorem PO.agree (call : Call) (o : PO) {e e' : Nat → AV} (h : Heap) (hx : ∀ t ∈ o.reads,e t = e' t) : o.ev call e h = o.ev call e' h := by
 have ha : ∀ x ∈ o.ats,x.ev e = x.ev e' := fun x hm => At.agree fun t ht => hx t (List.mem_flatMap.2 ⟨x,hm,ht⟩)
 cases o <;> simp only [PO.ats,List.mem_cons,zY,or_false,forall_eq_or_imp,forall_eq,List.mem_map,List.mem_append,Option.mem_toList] at ha <;> simp only [PO.ev]
 case mv => rw [ha]
 case pick => rw [ha.1,ha.2.1,ha.2.2]
 case box => rw [ha]
 case build z ps => rw [buildV_agree fun p hp => ha _ ⟨p,hp,rfl⟩]
 case bsl id sz z n ps => rw [bslV_agree fun p hp => ha _ ⟨p,hp,rfl⟩,flatMap_agree fun p hp => (show ref1 h (p.2.ev e) = ref1 h (p.2.ev e') by rw [ha _ ⟨p,hp,rfl⟩])]
 case ld => rw [ha]
 case st => rw [ha.1,ha.2]
 case nck => rw [ha]
 case bin => rw [ha.1,ha.2]
 case eqb => rw [ha.1,ha.2]
 case eqs => rw [ha.1,ha.2]
 case not => rw [ha]
 case neg => rw [ha]
 case conv => rw [ha]
 case b2s => rw [ha]
 case mk => rw [ha]
 case cut sz x lo hi mx =>
  have h1 : optI e (some 0) lo = optI e' (some 0) lo := optI_agree fun y hy => ha.2 y (.inl (.inl (by simpa using hy)))
  have h2 : ∀ d,optI e d hi = optI e' d hi := fun d => optI_agree fun y hy => ha.2 y (.inl (.inr (by simpa using hy)))
  have h3 : ∀ d,optI e d mx = optI e' d mx := fun d => optI_agree fun y hy => ha.2 y (.inr (by simpa using hy))
  simp only [ha.1,h1,h2,h3]
 case scut x lo hi =>
  have h1 : optI e (some 0) lo = optI e' (some 0) lo := optI_agree fun y hy => ha.2 y (.inl (by simpa using hy))
  rw [ha.1,h1]
  cases hi with
  | none => rfl
  | some y => simp only [ha.2 y (.inr rfl)]
 case fld => rw [ha]
 case idx => rw [ha.1,ha.2]
 case idxa => rw [ha.1,ha.2]
 case sidx => rw [ha.1,ha.2]
 case ext => rw [ha]
 case fpt => rw [ha]
 case len => rw [ha]
 case slen => rw [ha]
 case min => rw [ha.1,ha.2]
 case max => rw [ha.1,ha.2]
 case app => rw [ha.1,ha.2]
 case copy => rw [ha.1,ha.2]
 case call => rw [map_agree ha]
 case callw => rw [map_agree ha]
 case calln => rw [map_agree ha]
 case callo => rw [map_agree ha]
 case callk => rw [map_agree ha]
 case s2b => rw [ha]
 case aidx => rw [ha.1,ha.2]
def PO.kind : PO → Nat
 | .ld _ _ _ | .b2s _ | .call _ _ | .callo _ _ _ | .alloc _ _ | .box _ _ _ | .bsl _ _ _ _ _ | .mk _ _ _ _ _ => 1
 | .st _ _ _ | .app _ _ _ _ _ | .copy _ _ _ | .callw _ _ _ | .callk _ _ _ | .calln _ _ _ _ => 2
 | _ => 0
theorem PO.pure (call : Call) (o : PO) (hk : o.kind = 0) (e : Nat → AV) (h : Heap) : o.ev call e h = (o.ev call e Heap.none).map fun p => (p.1,h) := by
 cases o <;> simp [PO.kind] at hk <;> simp only [PO.ev,Option.map_map,Function.comp_def,jj,Option.map_none]
 case pick => split <;> rfl
 case nck => split <;> rfl
 case not => split <;> rfl
 case neg => split <;> rfl
 case conv => split <;> rfl
 case cut sz x lo hi mx =>
  cases optI e (some 0) lo with
  | none => rfl
  | some l =>
   simp only [zN]
   cases optI e ((lenV (x.ev e)).map fun (n : Nat) => (n : Int)) hi with
   | none => rfl
   | some u =>
    simp only [zN]
    cases optI e (some u) mx with
    | none => rfl
    | some m =>
     simp only [zN]
     split
     ·rw [Option.map_map]; rfl
     ·rfl
 case fld => split <;> rfl
 case idx sz x i =>
  cases intV (i.ev e) with
  | none => rfl
  | some j => simp only [zN,Option.map_map]; rfl
 case idxa => (repeat' split) <;> rfl
 case sidx => (repeat' split) <;> rfl
 case ext => split <;> first | rfl | (rw [Option.map_map]; rfl)
 case fpt => split <;> first | rfl | (rw [Option.map_map]; rfl)
 case slen => split <;> rfl
 case min => split <;> rfl
 case max => split <;> rfl
 case s2b => (repeat' split) <;> rfl
 case aidx =>
  split
  ·split
   ·rw [Option.map_map]; rfl
   ·rfl
  ·rfl
abbrev Comp := AV × List Nat × Option (Nat × Row)
def Comp.app (c : Comp) (h : Heap) : Option (AV × Heap) := match c.2.2 with
 | none => some (c.1,h.freeze c.2.1)
 | some (id,x) => if (h id).isNone then some (c.1,(h.freeze c.2.1).put id x) else none
def compO (refs : List Nat) (id : Nat) : AV → Option Comp
 | .own ap z es => some (.sl id z 0 es.length,refs,some (id,.sl ap z es))
 | .l z [] => some (.l z [],refs,none)
 | .tup [.own ap z es,v] => some (.tup [.sl id z 0 es.length,demote v],refs,some (id,.sl ap z es))
 | _ => none
def PO.comp (call : Call) (o : PO) (e : Nat → AV) (h : Heap) : Option Comp := match o with
 | .ld agg sz x => (ldV h agg sz (x.ev e)).map fun v => (v,[],none)
 | .b2s x => ((esV h 1 (x.ev e)).bind byteNs).map fun ns => (.s (bytesS ns),[],none)
 | .call f xs => (call f ((xs.map (At.ev e)).map (tell h))).map fun r => (demoteT r,if r.scalar then [] else (xs.map (At.ev e)).flatMap (ref h),none)
 | .callo f xs id => (call f ((xs.map (At.ev e)).map (tell h))).bind (compO ((xs.map (At.ev e)).flatMap (ref h)) id)
 | .alloc id z => some (.p id 0 0,[],some (id,.st z))
 | .box id sz x => if (x.ev e).cells.length = sz then some (.p id 0 0,[],some (id,.st (x.ev e).cells)) else none
 | .bsl id sz z n ps => (bslV e h sz (zL n z) ps).map fun es => (.sl id sz 0 n,ps.flatMap fun p => ref1 h (p.2.ev e),some (id,.sl true sz es))
 | .mk id sz bytes z l => match l.ev e with
  | .i .i64 n => if 0 ≤ n ∧ n.toNat * bytes ≤ 281474976710656 then some (.sl id sz 0 n.toNat,[],some (id,.sl true sz (zL n.toNat z))) else none
  | _ => none
 | o => (o.ev call e Heap.none).map fun p => (p.1,[],none)
theorem ownR_comp (h : Heap) (refs : List Nat) (id : Nat) (r : AV) : ownR h refs id r = (compO refs id r).bind fun c => c.app h := by
 unfold ownR
 split
 ·rfl
 ·rfl
 ·rfl
 ·rename_i n1 n2 n3
  unfold compO
  split
  ·exact absurd rfl (n1 _ _ _)
  ·exact absurd rfl (n2 _)
  ·exact absurd rfl (n3 _ _ _ _)
  ·rfl
theorem PO.comp_ev (call : Call) (o : PO) (hk : o.kind ≤ 1) (e : Nat → AV) (h : Heap) : o.ev call e h = (o.comp call e h).bind fun c => c.app h := by
 by_cases h0 : o.kind = 0
 ·rw [PO.pure call o h0]
  have : o.comp call e h = (o.ev call e Heap.none).map fun p => (p.1,[],none) := by cases o <;> first | rfl | simp [PO.kind] at h0
  rw [this]
  cases o.ev call e Heap.none <;> rfl
 ·cases o <;> simp [PO.kind] at h0 hk <;> simp only [PO.ev,PO.comp]
  case box id sz x =>
   by_cases h1 : (x.ev e).cells.length = sz
   ·rw [if_pos h1]
    simp only [zN,Comp.app,h1,true_and]
    rfl
   ·rw [if_neg h1,if_neg fun h => h1 h.1]; rfl
  case alloc => rfl
  case bsl id sz z n ps =>
   cases bslV e h sz (zL n z) ps with
   | none => simp
   | some es => rfl
  case ld => cases ldV h _ _ (At.ev e _) <;> rfl
  case b2s x => cases (esV h 1 (x.ev e)).bind byteNs <;> rfl
  case mk id sz bytes z l =>
   have key : ∀ x : AV,(match x with
     | .i .i64 n => if 0 ≤ n ∧ n.toNat * bytes ≤ 281474976710656 ∧ (h id).isNone then some (AV.sl id sz 0 n.toNat,h.put id (.sl true sz (zL n.toNat z))) else none
     | _ => none) = (match x with
     | .i .i64 n => if 0 ≤ n ∧ n.toNat * bytes ≤ 281474976710656 then some ((.sl id sz 0 n.toNat,[],some (id,.sl true sz (zL n.toNat z))) : Comp) else none
     | _ => none).bind fun (c : Comp) => c.app h := by
    intro x
    split
    ·rename_i n
     by_cases h1 : 0 ≤ n ∧ n.toNat * bytes ≤ 281474976710656
     ·simp only [if_pos h1,zN,Comp.app,h1.1,h1.2,true_and]
      rfl
     ·rw [if_neg h1,if_neg fun h => h1 ⟨h.1,h.2.1⟩]; rfl
    ·rename_i hn
     first
      | rfl
      | (split <;> first | rfl | (rename_i n; exact absurd rfl (hn n)))
   exact key _
  case callo f xs id =>
   simp only [callO]
   cases call f ((xs.map (At.ev e)).map (tell h)) with
   | none => rfl
   | some r =>
    simp only [zN]
    exact ownR_comp h _ id r
  case call f xs =>
   simp only [callV]
   cases call f ((xs.map (At.ev e)).map (tell h)) with
   | none => rfl
   | some r =>
    simp only [jj,zN,Comp.app]
    by_cases hs : r.scalar = true
    ·simp only [hs,if_true]; rfl
    ·simp only [hs]; rfl
def Hle (h h' : Heap) : Prop := ∀ r x,h r = some x → h' r = some x ∨ h' r = some x.freeze
def Cl (h : Heap) (l : List Nat) : Prop := ∀ r ∈ l,h r ≠ none
theorem Cl.flatMap {α : Type} {h : Heap} {l : List α} {g : α → List Nat} (k : Cl h (l.flatMap g)) {x : α} (hx : x ∈ l) : Cl h (g x) := fun r hr => k r (List.mem_flatMap.2 ⟨x,hx,hr⟩)
section
variable {h h' : Heap}
theorem freeze_win (o n : Nat) (x : Row) : x.freeze.win o n = x.win o n := by cases x <;> rfl
theorem freeze_at (e : Nat) (x : Row) : x.freeze.at e = x.at e := by cases x <;> rfl
theorem Hle.win (k : Hle h h') {r : Nat} (hr : h r ≠ none) (o n : Nat) : (h' r).bind (Row.win o n) = (h r).bind (Row.win o n) := by
 cases hx : h r with
 | none => exact absurd hx hr
 | some x => rcases k r x hx with h1 | h1 <;> rw [h1] <;> simp [freeze_win]
theorem Hle.at (k : Hle h h') {r : Nat} (hr : h r ≠ none) (e : Nat) : (h' r).bind (Row.at e) = (h r).bind (Row.at e) := by
 cases hx : h r with
 | none => exact absurd hx hr
 | some x => rcases k r x hx with h1 | h1 <;> rw [h1] <;> simp [freeze_at]
theorem Hle.tell0 (k : Hle h h') {v : AV} (hc : Cl h (ref0 v)) : tell0 h' v = tell0 h v := by
 cases v <;> try rfl
 case sl r z o n => simp only [Go.Pe.tell0,k.win (hc r (by simp [ref0]))]
theorem Hle.tellC (k : Hle h h') {v : AV} (hc : Cl h (refC h v)) : tellC h' v = tellC h v ∧ refC h' v = refC h v := by
 cases v
 case p r e o =>
  have hr := k.at (hc r (by simp [refC])) e
  simp only [Go.Pe.tellC,refC,hr]
  refine ⟨?_,trivial⟩
  cases hb : (h r).bind (Row.at e) with
  | none => rfl
  | some cs =>
   simp only
   have : cs.map (Go.Pe.tell0 h') = cs.map (Go.Pe.tell0 h) := List.map_congr_left fun c hcm => k.tell0 fun q hq => hc q (by
    simp only [refC,hb,List.mem_cons,List.mem_flatMap]
    exact .inr ⟨c,hcm,hq⟩)
   rw [this]
 case sl r z o n => exact ⟨k.tell0 (v := .sl r z o n) hc,rfl⟩
 all_goals exact ⟨rfl,rfl⟩
theorem Hle.mapC (k : Hle h h') {cs : List AV} (hc : Cl h (cs.flatMap (refC h))) : cs.map (Go.Pe.tellC h') = cs.map (Go.Pe.tellC h) ∧ cs.flatMap (refC h') = cs.flatMap (refC h) :=
 ⟨List.map_congr_left fun c hm => (k.tellC (hc.flatMap hm)).1,flatMap_agree fun c hm => (k.tellC (hc.flatMap hm)).2⟩
theorem Hle.tell1 (k : Hle h h') {v : AV} (hc : Cl h (ref1 h v)) : tell1 h' v = tell1 h v ∧ ref1 h' v = ref1 h v := by
 cases v
 case agg cs =>
  obtain ⟨h1,h2⟩ := k.mapC (cs := cs) hc
  exact ⟨congrArg AV.agg h1,h2⟩
 case tup cs => exact ⟨rfl,rfl⟩
 all_goals first | exact k.tellC (v := (AV.junk)) hc | exact k.tellC (v := (AV.b _)) hc | exact k.tellC (v := (AV.i _ _)) hc | exact k.tellC (v := (AV.s _)) hc | exact k.tellC (v := (AV.np)) hc | exact k.tellC (v := (AV.ns _)) hc | exact k.tellC (v := (AV.l _ _)) hc | exact k.tellC (v := (AV.tp _ _)) hc | exact k.tellC (v := (AV.sl _ _ _ _)) hc | exact k.tellC (v := (AV.p _ _ _)) hc | exact k.tellC (v := (AV.own _ _ _)) hc | exact k.tellC (v := (AV.ownp _)) hc | exact k.tellC (v := (AV.back _ _)) hc | exact k.tellC (v := (AV.agg _)) hc | exact k.tellC (v := (AV.tup _)) hc
theorem Hle.tell (k : Hle h h') {v : AV} (hc : Cl h (ref h v)) : tell h' v = tell h v ∧ ref h' v = ref h v := by
 cases v
 case tup cs =>
  have h1 : cs.map (Go.Pe.tell1 h') = cs.map (Go.Pe.tell1 h) := List.map_congr_left fun c hm => (k.tell1 (Cl.flatMap hc hm)).1
  have h2 : cs.flatMap (ref1 h') = cs.flatMap (ref1 h) := flatMap_agree fun c hm => (k.tell1 (Cl.flatMap hc hm)).2
  exact ⟨congrArg AV.tup h1,h2⟩
 case back => exact ⟨rfl,rfl⟩
 all_goals first | exact k.tell1 (v := (AV.junk)) hc | exact k.tell1 (v := (AV.b _)) hc | exact k.tell1 (v := (AV.i _ _)) hc | exact k.tell1 (v := (AV.s _)) hc | exact k.tell1 (v := (AV.np)) hc | exact k.tell1 (v := (AV.ns _)) hc | exact k.tell1 (v := (AV.l _ _)) hc | exact k.tell1 (v := (AV.tp _ _)) hc | exact k.tell1 (v := (AV.sl _ _ _ _)) hc | exact k.tell1 (v := (AV.p _ _ _)) hc | exact k.tell1 (v := (AV.own _ _ _)) hc | exact k.tell1 (v := (AV.ownp _)) hc | exact k.tell1 (v := (AV.back _ _)) hc | exact k.tell1 (v := (AV.agg _)) hc | exact k.tell1 (v := (AV.tup _)) hc
theorem ref_cells {v : AV} (hc : Cl h (ref1 h v)) : Cl h (v.cells.flatMap (refC h)) := by
 cases v
 case agg cs => exact hc
 all_goals
  intro r hr
  simp only [AV.cells,List.flatMap_cons,List.flatMap_nil,List.append_nil,zY] at hr
 all_goals exact hc r hr
theorem Hle.cells (k : Hle h h') {v : AV} (hc : Cl h (ref1 h v)) : v.cells.map (Go.Pe.tellC h') = v.cells.map (Go.Pe.tellC h) := (k.mapC (ref_cells hc)).1
theorem Hle.ptr (k : Hle h h') {v : AV} (hc : Cl h (refC h v)) : ptrAt h' v = ptrAt h v := by
 cases v <;> try rfl
 case p r e o => simp only [ptrAt,k.at (hc r (by simp [refC]))]
theorem ptr_ref {v : AV} (hc : Cl h (ref h v)) : Cl h (refC h v) := by
 cases v
 case agg => intro r hr; simp [refC,ref0] at hr
 case tup => intro r hr; simp [refC,ref0] at hr
 all_goals exact hc
theorem ref_one {v : AV} (hc : Cl h (ref h v)) : Cl h (ref1 h v) := by
 cases v
 case tup => intro r hr; simp [ref1,refC,ref0] at hr
 all_goals exact hc
theorem Hle.ld (k : Hle h h') {v : AV} (hc : Cl h (ref h v)) (ag : Bool) (sz : Nat) : ldV h' ag sz v = ldV h ag sz v := by
 simp only [ldV,k.ptr (ptr_ref hc)]
theorem Hle.bsl (k : Hle h h') {e : Nat → AV} {sz : Nat} : ∀ {ps : List (Nat × At)} {z : List (List AV)},(∀ p ∈ ps,Cl h (ref h (p.2.ev e))) → bslV e h' sz z ps = bslV e h sz z ps := by
 intro ps
 induction ps with
 | nil => intro z _; rfl
 | cons p ps ih =>
  intro z hc
  obtain ⟨j,x⟩ := p
  have h1 := k.cells (ref_one (hc (j,x) zG))
  simp only [bslV] at h1 ⊢
  rw [h1]
  split
  ·exact ih fun p hp => hc p (zH _ hp)
  ·rfl
theorem Hle.es (k : Hle h h') {v : AV} (hc : Cl h (ref h v)) (z : Nat) : esV h' z v = esV h z v := by
 cases v <;> try rfl
 case sl r z' o n => simp only [esV,k.win (hc r (by simp [ref,ref1,refC,ref0]))]
theorem PO.comp_le (call : Call) (o : PO) {e : Nat → AV} (k : Hle h h') (hc : ∀ x ∈ o.ats,Cl h (ref h (x.ev e))) : o.comp call e h' = o.comp call e h := by
 cases o <;> try rfl
 case ld ag sz x => simp only [PO.comp,k.ld (hc x (by simp [PO.ats]))]
 case b2s x => simp only [PO.comp,k.es (hc x (by simp [PO.ats]))]
 case bsl id sz z n ps =>
  have h1 : ∀ p ∈ ps,Cl h (ref h (p.2.ev e)) := fun p hp => hc _ (List.mem_map.2 ⟨p,hp,rfl⟩)
  simp only [PO.comp]
  rw [k.bsl h1,flatMap_agree fun p hp => (k.tell1 (ref_one (h1 p hp))).2]
 case callo f xs id =>
  have h1 : (xs.map (At.ev e)).map (Go.Pe.tell h') = (xs.map (At.ev e)).map (Go.Pe.tell h) := List.map_congr_left fun v hv => by
   obtain ⟨x,hx,rfl⟩ := List.mem_map.1 hv
   exact (k.tell (hc x hx)).1
  have h2 : (xs.map (At.ev e)).flatMap (ref h') = (xs.map (At.ev e)).flatMap (ref h) := flatMap_agree fun v hv => by
   obtain ⟨x,hx,rfl⟩ := List.mem_map.1 hv
   exact (k.tell (hc x hx)).2
  simp only [PO.comp,h1,h2]
 case call f xs =>
  have h1 : (xs.map (At.ev e)).map (Go.Pe.tell h') = (xs.map (At.ev e)).map (Go.Pe.tell h) := List.map_congr_left fun v hv => by
   obtain ⟨x,hx,rfl⟩ := List.mem_map.1 hv
   exact (k.tell (hc x hx)).1
  have h2 : (xs.map (At.ev e)).flatMap (ref h') = (xs.map (At.ev e)).flatMap (ref h) := flatMap_agree fun v hv => by
   obtain ⟨x,hx,rfl⟩ := List.mem_map.1 hv
   exact (k.tell (hc x hx)).2
  simp only [PO.comp,h1,h2]
theorem comp_cl (call : Call) (o : PO) {e : Nat → AV} (hc : ∀ x ∈ o.ats,Cl h (ref h (x.ev e))) {c : Comp} (hv : o.comp call e h = some c) : Cl h c.2.1 := by
 have nil : Cl h [] := fun r hr => by cases hr
 cases o <;> simp only [PO.comp,zw] at hv
 case callo f xs id =>
  simp only [zy] at hv
  obtain ⟨v,_,hv⟩ := hv
  have : c.2.1 = (xs.map (At.ev e)).flatMap (ref h) := by
   unfold compO at hv
   split at hv <;> cases hv <;> rfl
  rw [this]
  intro r hr
  obtain ⟨u,hu,hr⟩ := List.mem_flatMap.1 hr
  obtain ⟨x,hx,rfl⟩ := List.mem_map.1 hu
  exact hc x hx r hr
 case bsl id sz z n ps =>
  obtain ⟨es,_,rfl⟩ := hv
  intro r hr
  obtain ⟨p,hp,hr⟩ := List.mem_flatMap.1 hr
  exact ref_one (hc _ (List.mem_map.2 ⟨p,hp,rfl⟩)) r hr
 case call f xs =>
  obtain ⟨v,_,rfl⟩ := hv
  simp only
  split
  ·exact nil
  ·intro r hr
   obtain ⟨u,hu,hr⟩ := List.mem_flatMap.1 hr
   obtain ⟨x,hx,rfl⟩ := List.mem_map.1 hu
   exact hc x hx r hr
 case alloc => cases hv; exact nil
 case box =>
  split at hv
  ·cases hv; exact nil
  ·cases hv
 case mk =>
  split at hv
  ·split at hv
   ·cases hv; exact nil
   ·cases hv
  ·cases hv
 all_goals
  obtain ⟨_,_,rfl⟩ := hv
  exact nil
end
section
variable {f : Fr} {w : World} {T : Nat → Prop} {ρ : Rho} {h : Heap}
theorem rv_ref0 (hd : ∀ r,h r = none → ρ r = none) {av : AV} {v : Value} (k : Rv w T ρ av v) : Cl h (ref0 av) := by
 intro r hr hn
 cases k with
 | sl hρ => simp only [ref0,ja] at hr; subst hr; rw [hd _ hn] at hρ; cases hρ
 | slz hρ => simp only [ref0,ja] at hr; subst hr; rw [hd _ hn] at hρ; cases hρ
 | slnil hρ => simp only [ref0,ja] at hr; subst hr; rw [hd _ hn] at hρ; cases hρ
 | _ => simp [ref0] at hr
theorem rv_ref0n {av : AV} {v : Value} (k : Rv w T Rho.none av v) : ref0 av = [] := by
 cases k with
 | sl hρ => cases hρ
 | slz hρ => cases hρ
 | slnil hρ => cases hρ
 | _ => rfl
theorem row_ref0 (hd : ∀ r,h r = none → ρ r = none) {r : Nat} {x : Row} (ok : RowOk w T ρ r x) {e : Nat} {cs : List AV} (hx : x.at e = some cs) : Cl h (cs.flatMap ref0) := by
 intro q hq
 obtain ⟨c,hc,hq⟩ := List.mem_flatMap.1 hq
 obtain ⟨j,hj,rfl⟩ := List.getElem_of_mem hc
 have elems : ∀ {b base z : Nat} {es : List (List AV)},RowAt w b base z es (Rv w T Rho.none) → es[e]? = some cs → h q ≠ none := by
  intro b base z es hr he
  have hlt : e < es.length := (List.getElem?_eq_some_iff.1 he).1
  have hg : es.getD e [] = cs := by rw [zo,he]; rfl
  have hl := hr.len e hlt
  rw [hg] at hl
  obtain ⟨v,_,_,h3⟩ := hr.cell e j hlt (by omega)
  rw [hg] at h3
  have : cs.getD j .junk = cs[j] := by simp [hj]
  rw [this] at h3
  rw [rv_ref0n h3] at hq
  cases hq
 have strs : ∀ {b base : Nat} {ds : List AV},RowAt w b base ds.length [ds] (Rv w T ρ) → (if e = 0 then some ds else none) = some cs → h q ≠ none := by
  intro b base ds hr he
  split at he
  ·cases he
   obtain ⟨v,_,_,h3⟩ := hr.cell 0 j (by simp) hj
   have : ([cs].getD 0 []).getD j AV.junk = cs[j] := by simp [hj]
   rw [this] at h3
   exact rv_ref0 hd h3 q hq
  ·cases he
 cases x with
 | sl ap z es =>
  rcases ok with ⟨h1,_,_⟩ | ⟨_,_,_,_,_,_,_,_,_,h6⟩
  ·subst h1; simp [Row.at] at hx
  ·exact elems h6 hx
 | fsl z es =>
  rcases ok with ⟨h1,_⟩ | ⟨_,_,_,_,_,h6⟩
  ·subst h1; simp [Row.at] at hx
  ·exact elems h6 hx
 | st ds =>
  obtain ⟨_,_,_,_,_,_,_,_,h6⟩ := ok
  exact strs h6 hx
 | fst ds =>
  obtain ⟨_,_,_,_,_,h6⟩ := ok
  exact strs h6 hx
 | dead => simp [Row.at] at hx
theorem rv_refC (hd : ∀ r,h r = none → ρ r = none) (hrows : ∀ r x,h r = some x → RowOk w T ρ r x) {av : AV} {v : Value} (k : Rv w T ρ av v) : Cl h (refC h av) := by
 by_cases hp : ∃ r e o,av = .p r e o
 ·obtain ⟨r,e,o,rfl⟩ := hp
  intro q hq
  simp only [refC,List.mem_cons] at hq
  rcases hq with rfl | hq
  ·intro hn
   cases k with
   | p hρ => rw [hd _ hn] at hρ; cases hρ
  ·cases hx : h r with
   | none => rw [hx] at hq; simp at hq
   | some x =>
    rw [hx] at hq
    simp only [zN] at hq
    cases hcs : x.at e with
    | none => rw [hcs] at hq; simp at hq
    | some cs =>
     rw [hcs] at hq
     exact row_ref0 hd (hrows r x hx) hcs q hq
 ·have : refC h av = ref0 av := by cases av <;> first | rfl | exact absurd ⟨_,_,_,rfl⟩ hp
  rw [this]
  exact rv_ref0 hd k
theorem rv_ref1 (hd : ∀ r,h r = none → ρ r = none) (hrows : ∀ r x,h r = some x → RowOk w T ρ r x) {av : AV} {v : Value} (k : Rv w T ρ av v) : Cl h (ref1 h av) := by
 by_cases ha : ∃ cs,av = .agg cs
 ·obtain ⟨cs,rfl⟩ := ha
  cases k with
  | agg vs hl h1 hv =>
   intro q hq
   obtain ⟨c,hc,hq⟩ := List.mem_flatMap.1 hq
   obtain ⟨j,hj,rfl⟩ := List.getElem_of_mem hc
   have := hv j hj
   have e : cs.getD j .junk = cs[j] := by simp [hj]
   rw [e] at this
   exact rv_refC hd hrows this q hq
 ·have : ref1 h av = refC h av := by cases av <;> first | rfl | exact absurd ⟨_,rfl⟩ ha
  rw [this]
  exact rv_refC hd hrows k
theorem rv_ref (hd : ∀ r,h r = none → ρ r = none) (hrows : ∀ r x,h r = some x → RowOk w T ρ r x) {av : AV} {v : Value} (k : Rv w T ρ av v) : Cl h (ref h av) := by
 by_cases ha : ∃ cs,av = .tup cs
 ·obtain ⟨cs,rfl⟩ := ha
  cases k with
  | tup vs hl hv =>
   intro q hq
   obtain ⟨c,hc,hq⟩ := List.mem_flatMap.1 hq
   obtain ⟨j,hj,rfl⟩ := List.getElem_of_mem hc
   have := hv j hj
   have e : cs.getD j .junk = cs[j] := by simp [hj]
   rw [e] at this
   exact rv_ref1 hd hrows this q hq
 ·have : ref h av = ref1 h av := by cases av <;> first | rfl | exact absurd ⟨_,rfl⟩ ha
  rw [this]
  exact rv_ref1 hd hrows k
end
def POp.reads (p : POp) : List Nat := p.op.reads ++ (match p.guard with | some (t,_) => [t] | none => [])
def POp.comp (call : Call) (p : POp) (e : Nat → AV) (h : Heap) : Option Comp := match p.guard with
 | none => p.op.comp call e h
 | some (t,q) => match (e t).yes q with
  | some true => p.op.comp call e h
  | some false => some (.tup [],[],none)
  | none => none
theorem POp.comp_ev (call : Call) (p : POp) (hk : p.op.kind ≤ 1) (st : St) : p.ev call st = (p.comp call st.env st.h).bind fun c => (c.app st.h).map fun q => ⟨setD st.env p.dst q.1,q.2⟩ := by
 unfold POp.ev POp.comp
 cases p.guard with
 | none =>
  simp only [PO.comp_ev call p.op hk,Option.map_bind]
  rfl
 | some g =>
  obtain ⟨t,q⟩ := g
  simp only
  cases (st.env t).yes q with
  | none => rfl
  | some z =>
   cases z
   ·rfl
   ·simp only [PO.comp_ev call p.op hk,Option.map_bind]
    rfl
theorem POp.agree (call : Call) (p : POp) {e e' : Nat → AV} (h : Heap) (hx : ∀ t ∈ p.reads,e t = e' t) : p.comp call e h = p.comp call e' h := by
 have h1 : p.op.comp call e h = p.op.comp call e' h := by
  have hr : ∀ t ∈ p.op.reads,e t = e' t := fun t ht => hx t (List.mem_append.2 (.inl ht))
  have ha : ∀ x ∈ p.op.ats,x.ev e = x.ev e' := fun x hm => At.agree fun t ht => hr t (List.mem_flatMap.2 ⟨x,hm,ht⟩)
  have hp := PO.agree call p.op Heap.none hr
  generalize p.op = o at ha hp
  cases o <;> simp only [PO.comp] <;> simp only [PO.ats,List.mem_cons,zY,or_false,forall_eq_or_imp,forall_eq,List.mem_map] at ha <;> try rw [hp]
  case ld => rw [ha]
  case b2s => rw [ha]
  case call => rw [map_agree ha]
  case callo => rw [map_agree ha]
  case box => rw [ha]
  case mk => rw [ha]
  case bsl id sz z n ps => rw [bslV_agree fun p hp => ha _ ⟨p,hp,rfl⟩,flatMap_agree fun p hp => (show ref1 h (p.2.ev e) = ref1 h (p.2.ev e') by rw [ha _ ⟨p,hp,rfl⟩])]
 unfold POp.comp
 cases hg : p.guard with
 | none => exact h1
 | some g =>
  obtain ⟨t,q⟩ := g
  have : e t = e' t := hx t (by simp [POp.reads,hg])
  simp only [this,h1]
theorem setD_comm {e : Nat → AV} {d d' : Option Nat} (u v : AV) (h : ∀ t,d = some t → d' ≠ some t) : setD (setD e d u) d' v = setD (setD e d' v) d u := by
 cases d with
 | none => rfl
 | some t =>
  cases d' with
  | none => rfl
  | some t' =>
   have hne : t ≠ t' := fun e => h t rfl (by rw [e])
   funext s
   simp only [setD,upd]
   by_cases h1 : s = t
   ·subst h1; simp [hne]
   ·simp [h1]
theorem setD_at {e : Nat → AV} {d : Option Nat} {v : AV} {t : Nat} (h : d ≠ some t) : setD e d v t = e t := by
 cases d with
 | none => rfl
 | some s => simp only [setD,upd]; rw [if_neg fun e => h (by rw [e])]
def envApart (x y : POp) : Bool := (match x.dst with | some d => !y.reads.contains d && decide (y.dst ≠ some d) | none => true) && (match y.dst with | some d => !x.reads.contains d | none => true)
theorem envApart_spec {x y : POp} (h : envApart x y = true) : (∀ t ∈ y.reads,x.dst ≠ some t) ∧ (∀ t ∈ x.reads,y.dst ≠ some t) ∧ (∀ t,x.dst = some t → y.dst ≠ some t) := by
 simp only [envApart,zu] at h
 obtain ⟨h1,h2⟩ := h
 refine ⟨fun t ht hd => ?_,fun t ht hd => ?_,fun t hd => ?_⟩
 ·rw [hd] at h1; simp at h1; exact h1.1 ht
 ·rw [hd] at h2; simp at h2; exact h2 ht
 ·rw [hd] at h1; simp at h1; exact h1.2
theorem freeze_get (h : Heap) (l : List Nat) (q : Nat) : (h.freeze l) q = if q ∈ l then (h q).map Row.freeze else h q := by
 induction l with
 | nil => rfl
 | cons r l ih =>
  simp only [Heap.freeze]
  by_cases h1 : q = r
  ·subst h1
   simp only [if_true,List.mem_cons,true_or]
   rw [ih]
   split
   ·cases h q with
    | none => rfl
    | some x => cases x <;> rfl
   ·rfl
  ·simp only [h1,if_false,List.mem_cons,false_or]
   exact ih
theorem Comp.app_le {c : Comp} {h h' : Heap} {v : AV} (hv : c.app h = some (v,h')) : v = c.1 ∧ Hle h h' ∧ (∀ q,h' q = none → h q = none) ∧ ∀ id x,c.2.2 = some (id,x) → h id = none := by
 obtain ⟨u,A,p⟩ := c
 cases p with
 | none =>
  simp only [Comp.app] at hv
  cases hv
  refine ⟨rfl,fun r x hx => ?_,fun q hq => freeze_none.1 hq,fun id x h => by cases h⟩
  rw [freeze_get,hx]
  split
  ·exact .inr rfl
  ·exact .inl rfl
 | some p =>
  obtain ⟨id,y⟩ := p
  simp only [Comp.app] at hv
  split at hv
  ·rename_i hid
   cases hv
   have hid' : h id = none := by simpa using hid
   refine ⟨rfl,fun r x hx => ?_,fun q hq => ?_,fun id x h => by cases h; exact hid'⟩
   ·have hne : r ≠ id := fun e => by rw [e,hid'] at hx; cases hx
    simp only [Heap.put,if_neg hne,freeze_get,hx]
    split
    ·exact .inr rfl
    ·exact .inl rfl
   ·simp only [Heap.put] at hq
    split at hq
    ·cases hq
    ·exact freeze_none.1 hq
  ·cases hv
theorem app_comm {c d : Comp} {h h1 h2 : Heap} {u v : AV} (hc : c.app h = some (u,h1)) (hd : d.app h1 = some (v,h2)) (cc : Cl h c.2.1) (cd : Cl h d.2.1) (hne : ∀ i x j y,c.2.2 = some (i,x) → d.2.2 = some (j,y) → i ≠ j) :
  ∃ h3,d.app h = some (v,h3) ∧ c.app h3 = some (u,h2) := by
 obtain ⟨_,_,n1,m1⟩ := Comp.app_le hc
 obtain ⟨_,_,_,m2⟩ := Comp.app_le hd
 obtain ⟨a,A,p⟩ := c
 obtain ⟨b,B,q⟩ := d
 have idn : ∀ {i : Nat} {l : List Nat},h i = none → Cl h l → i ∉ l := fun hi hl hm => hl _ hm hi
 have ff : ∀ r,((h.freeze A).freeze B) r = ((h.freeze B).freeze A) r := by
  intro r
  simp only [freeze_get]
  cases h r with
  | none => by_cases h1 : r ∈ A <;> by_cases h2 : r ∈ B <;> simp [h1,h2]
  | some x => by_cases h1 : r ∈ A <;> by_cases h2 : r ∈ B <;> simp [h1,h2]
 cases p with
 | none =>
  simp only [Comp.app] at hc
  cases hc
  cases q with
  | none =>
   simp only [Comp.app] at hd
   cases hd
   refine ⟨_,rfl,?_⟩
   simp only [Comp.app]
   rw [funext ff]
  | some q =>
   obtain ⟨j,y⟩ := q
   have hj : h j = none := n1 j (m2 j y rfl)
   simp only [Comp.app] at hd
   split at hd
   ·cases hd
    refine ⟨(h.freeze B).put j y,by simp [Comp.app,hj],?_⟩
    simp only [Comp.app]
    have : ((h.freeze B).put j y).freeze A = ((h.freeze A).freeze B).put j y := by
     funext r
     simp only [freeze_get,Heap.put]
     by_cases h1 : r = j
     ·subst h1; simp [idn hj cc]
     ·have := ff r
      simp only [freeze_get] at this
      simp only [h1,if_false]
      exact this.symm
    rw [this]
   ·cases hd
 | some p =>
  obtain ⟨i,x⟩ := p
  have hi : h i = none := m1 i x rfl
  simp only [Comp.app] at hc
  split at hc
  ·cases hc
   cases q with
   | none =>
    simp only [Comp.app] at hd
    cases hd
    refine ⟨_,rfl,?_⟩
    have h3 : (h.freeze B) i = none := freeze_none.2 hi
    simp only [Comp.app,h3,Option.isNone_none,if_true]
    have : ((h.freeze A).put i x).freeze B = ((h.freeze B).freeze A).put i x := by
     funext r
     simp only [freeze_get,Heap.put]
     by_cases h1 : r = i
     ·subst h1; simp [idn hi cd]
     ·have := ff r
      simp only [freeze_get] at this
      simp only [h1,if_false]
      exact this
    rw [this]
   | some q =>
    obtain ⟨j,y⟩ := q
    have hij := hne i x j y rfl rfl
    have hj : h j = none := n1 j (m2 j y rfl)
    simp only [Comp.app] at hd
    split at hd
    ·cases hd
     refine ⟨(h.freeze B).put j y,by simp [Comp.app,hj],?_⟩
     have h3 : ((h.freeze B).put j y) i = none := by simp only [Heap.put,if_neg hij]; exact freeze_none.2 hi
     simp only [Comp.app,h3,Option.isNone_none,if_true]
     have : ((((h.freeze A).put i x).freeze B).put j y) = (((h.freeze B).put j y).freeze A).put i x := by
      funext r
      simp only [freeze_get,Heap.put]
      by_cases h1 : r = i
      ·subst h1; simp [idn hi cd,hij]
      ·by_cases h2 : r = j
       ·subst h2; simp [h1,idn hj cc]
       ·have := ff r
        simp only [freeze_get] at this
        simp only [h1,h2,if_false]
        exact this
     rw [this]
    ·cases hd
  ·cases hc
def noRef : AV → Bool
 | .sl _ _ _ _ | .p _ _ _ | .tup _ => false
 | .agg cs => cs.all fun c => match c with | .sl _ _ _ _ | .p _ _ _ => false | _ => true
 | _ => true
theorem noRef_cl {v : AV} (h : Heap) (hn : noRef v = true) : Cl h (ref h v) := by
 have : ref h v = [] := by
  cases v <;> first | rfl | (simp [noRef] at hn; done) | skip
  rename_i cs
  show cs.flatMap (refC h) = []
  simp only [noRef,List.all_eq_true] at hn
  rw [List.flatMap_eq_nil_iff]
  intro c hc
  have := hn c hc
  cases c <;> first | rfl | (simp at this; done)
 rw [this]
 intro r hr
 cases hr
def PO.okc (o : PO) : Bool := o.ats.all fun x => match x with | .c v => noRef v | .t _ => true
theorem Real.closed {f : Fr} {nt : Nat} {st : St} (hr : Real f nt st) {o : PO} (ho : o.okc = true) : ∀ x ∈ o.ats,Cl st.h (ref st.h (x.ev st.env)) := by
 intro x hx
 simp only [PO.okc,List.all_eq_true] at ho
 have := ho x hx
 obtain ⟨w,a,_,_,T,ρ,k,he⟩ := hr
 cases x with
 | c v => exact noRef_cl _ this
 | t n => exact rv_ref k.dom k.rows (he n)
def PO.newId : PO → Option Nat
 | .alloc id _ | .box id _ _ | .bsl id _ _ _ _ | .mk id _ _ _ _ | .callo _ _ id => some id
 | _ => none
theorem comp_id (call : Call) (p : POp) {e : Nat → AV} {h : Heap} {c : Comp} (hv : p.comp call e h = some c) {i : Nat} {x : Row} (hi : c.2.2 = some (i,x)) : p.op.newId = some i := by
 have key : p.op.comp call e h = some c → p.op.newId = some i := by
  intro hv
  generalize p.op = o at hv
  cases o <;> simp only [PO.comp,zw] at hv
  case alloc => cases hv; cases hi; rfl
  case callo =>
   simp only [zy] at hv
   obtain ⟨v,_,hv⟩ := hv
   unfold compO at hv
   split at hv <;> cases hv <;> cases hi <;> rfl
  case box => split at hv <;> cases hv; cases hi; rfl
  case bsl => obtain ⟨_,_,rfl⟩ := hv; cases hi; rfl
  case mk =>
   split at hv
   ·split at hv
    ·cases hv; cases hi; rfl
    ·cases hv
   ·cases hv
  all_goals
   obtain ⟨_,_,rfl⟩ := hv
   cases hi
 unfold POp.comp at hv
 split at hv
 ·exact key hv
 ·split at hv
  ·exact key hv
  ·cases hv; cases hi
  ·cases hv
theorem swap_grow {call : Call} {x y : POp} {st s1 s2 : St} (hx : x.op.kind ≤ 1) (hy : y.op.kind ≤ 1) (hap : envApart x y = true) (cx : ∀ z ∈ x.op.ats,Cl st.h (ref st.h (z.ev st.env))) (cy : ∀ z ∈ y.op.ats,Cl st.h (ref st.h (z.ev st.env)))
  (hid : ∀ i,x.op.newId = some i → y.op.newId ≠ some i) (h1 : x.ev call st = some s1) (h2 : y.ev call s1 = some s2) : ∃ s3,y.ev call st = some s3 ∧ x.ev call s3 = some s2 := by
 obtain ⟨a1,a2,a3⟩ := envApart_spec hap
 rw [POp.comp_ev call x hx] at h1
 simp only [zy,zw] at h1
 obtain ⟨c,hc,⟨u,g1⟩,hg1,rfl⟩ := h1
 rw [POp.comp_ev call y hy] at h2
 simp only [zy,zw] at h2
 obtain ⟨d,hd,⟨v,g2⟩,hg2,rfl⟩ := h2
 obtain ⟨hu,le1,_,_⟩ := Comp.app_le hg1
 have compLe : ∀ (p : POp) {h h' : Heap} (e : Nat → AV),Hle h h' → (∀ z ∈ p.op.ats,Cl h (ref h (z.ev e))) → p.comp call e h' = p.comp call e h := by
  intro p h h' e hle hcl
  unfold POp.comp
  simp only [PO.comp_le call p.op hle hcl]
 have hd' : y.comp call st.env st.h = some d := by
  rw [← compLe y st.env le1 cy,← hd]
  refine POp.agree call y g1 fun t ht => ?_
  exact (setD_at (a1 t ht)).symm
 have clc : ∀ (p : POp) {c : Comp},(∀ z ∈ p.op.ats,Cl st.h (ref st.h (z.ev st.env))) → p.comp call st.env st.h = some c → Cl st.h c.2.1 := by
  intro p c hcl hv
  unfold POp.comp at hv
  split at hv
  ·exact comp_cl call p.op hcl hv
  ·split at hv
   ·exact comp_cl call p.op hcl hv
   ·cases hv; intro r hr; cases hr
   ·cases hv
 obtain ⟨g3,b1,b2⟩ := app_comm hg1 hg2 (clc x cx hc) (clc y cy hd') fun i _ j _ hi hj e => hid i (comp_id call x hc hi) (by rw [e]; exact comp_id call y hd' hj)
 obtain ⟨_,le3,_,_⟩ := Comp.app_le b1
 refine ⟨⟨setD st.env y.dst v,g3⟩,?_,?_⟩
 ·rw [POp.comp_ev call y hy,hd']
  simp only [zN,b1,jj]
 ·rw [POp.comp_ev call x hx]
  have hc' : x.comp call (setD st.env y.dst v) g3 = some c := by
   rw [← hc,← compLe x st.env le3 cx]
   exact POp.agree call x g3 fun t ht => setD_at (a2 t ht)
  simp only [hc',zN,b2,jj]
  rw [setD_comm u v a3]
theorem POp.ev_at {call : Call} {p : POp} {e : Nat → AV} {h : Heap} {s : St} (hv : p.ev call ⟨e,h⟩ = some s) :
  ∃ v h',s = ⟨setD e p.dst v,h'⟩ ∧ ∀ e',(∀ t ∈ p.reads,e t = e' t) → p.ev call ⟨e',h⟩ = some ⟨setD e' p.dst v,h'⟩ := by
 unfold POp.ev at hv ⊢
 cases hg : p.guard with
 | none =>
  simp only [hg,zw] at hv
  obtain ⟨⟨v,h'⟩,hv,rfl⟩ := hv
  refine ⟨v,h',rfl,fun e' ha => ?_⟩
  rw [← PO.agree call p.op h fun t ht => ha t (by simp [POp.reads,ht])]
  simp only [hv,jj]
 | some g =>
  obtain ⟨t,q⟩ := g
  simp only [hg] at hv
  have ht : t ∈ p.reads := by simp [POp.reads,hg]
  split at hv
  ·rename_i hz
   simp only [zw] at hv
   obtain ⟨⟨v,h'⟩,hv,rfl⟩ := hv
   refine ⟨v,h',rfl,fun e' ha => ?_⟩
   simp only [← ha t ht,hz]
   rw [← PO.agree call p.op h fun t ht => ha t (by simp [POp.reads,ht])]
   simp only [hv,jj]
  ·rename_i hz
   cases hv
   refine ⟨.tup [],h,rfl,fun e' ha => ?_⟩
   simp only [← ha t ht,hz]
  ·cases hv
theorem POp.pure_at {call : Call} {p : POp} (hk : p.op.kind = 0) {e : Nat → AV} {h : Heap} {s : St} (hv : p.ev call ⟨e,h⟩ = some s) :
  ∃ v,s = ⟨setD e p.dst v,h⟩ ∧ ∀ e' h',(∀ t ∈ p.reads,e t = e' t) → p.ev call ⟨e',h'⟩ = some ⟨setD e' p.dst v,h'⟩ := by
 unfold POp.ev at hv ⊢
 have op : ∀ {v : AV} {h1 : Heap},p.op.ev call e h = some (v,h1) → h1 = h ∧ ∀ e' h',(∀ t ∈ p.reads,e t = e' t) → p.op.ev call e' h' = some (v,h') := by
  intro v h1 hv
  rw [PO.pure call p.op hk,zw] at hv
  obtain ⟨q,hq,hv⟩ := hv
  cases hv
  refine ⟨rfl,fun e' h' ha => ?_⟩
  rw [PO.pure call p.op hk,← PO.agree call p.op Heap.none fun t ht => ha t (by simp [POp.reads,ht]),hq]
  rfl
 cases hg : p.guard with
 | none =>
  simp only [hg,zw] at hv
  obtain ⟨⟨v,h1⟩,hv,rfl⟩ := hv
  obtain ⟨rfl,h2⟩ := op hv
  exact ⟨v,rfl,fun e' h' ha => by simp only [h2 e' h' ha,jj]⟩
 | some g =>
  obtain ⟨t,q⟩ := g
  simp only [hg] at hv
  have ht : t ∈ p.reads := by simp [POp.reads,hg]
  split at hv
  ·rename_i hz
   simp only [zw] at hv
   obtain ⟨⟨v,h1⟩,hv,rfl⟩ := hv
   obtain ⟨rfl,h2⟩ := op hv
   exact ⟨v,rfl,fun e' h' ha => by simp only [← ha t ht,hz,h2 e' h' ha,jj]⟩
  ·rename_i hz
   cases hv
   exact ⟨.tup [],rfl,fun e' h' ha => by simp only [← ha t ht,hz]⟩
  ·cases hv
theorem swap_pure1 {call : Call} {x y : POp} {st s1 s2 : St} (hx : x.op.kind = 0) (hap : envApart x y = true) (h1 : x.ev call st = some s1) (h2 : y.ev call s1 = some s2) : ∃ s3,y.ev call st = some s3 ∧ x.ev call s3 = some s2 := by
 obtain ⟨a1,a2,a3⟩ := envApart_spec hap
 obtain ⟨u,rfl,hu⟩ := POp.pure_at hx h1
 obtain ⟨v,h',rfl,hv⟩ := POp.ev_at h2
 refine ⟨_,hv st.env fun t ht => setD_at (a1 t ht),?_⟩
 rw [hu _ h' fun t ht => (setD_at (a2 t ht)).symm,setD_comm u v a3]
theorem swap_pure2 {call : Call} {x y : POp} {st s1 s2 : St} (hy : y.op.kind = 0) (hap : envApart x y = true) (h1 : x.ev call st = some s1) (h2 : y.ev call s1 = some s2) : ∃ s3,y.ev call st = some s3 ∧ x.ev call s3 = some s2 := by
 obtain ⟨a1,a2,a3⟩ := envApart_spec hap
 obtain ⟨u,h',rfl,hu⟩ := POp.ev_at h1
 obtain ⟨v,rfl,hv⟩ := POp.pure_at hy h2
 refine ⟨_,hv st.env st.h fun t ht => setD_at (a1 t ht),?_⟩
 rw [hu _ fun t ht => (setD_at (a2 t ht)).symm,setD_comm u v a3]
theorem st_ld {h h' : Heap} {sz : Nat} {s l v : AV} (hs : stV h sz s v = some h') (ha : apartV s l = true) (ag : Bool) (z : Nat) : ldV h' ag z l = ldV h ag z l := by
 cases s <;> simp only [stV] at hs <;> try (cases hs; done)
 rename_i r e o
 cases l <;> simp only [apartV] at ha <;> try (cases ha; done)
 ·rfl
 ·rename_i q e2 o2
  have hne : q ≠ r := fun e => by subst e; simp at ha
  have key : (h' q).bind (Row.at e2) = (h q).bind (Row.at e2) := by
   split at hs
   ·split at hs
    ·cases hs
     simp only [Heap.put,if_neg hne,freeze_get]
     split
     ·cases h q <;> simp [freeze_at]
     ·rfl
    ·cases hs
   ·split at hs
    ·cases hs
     simp only [Heap.put,if_neg hne]
    ·cases hs
   ·cases hs
  simp only [ldV,ptrAt,key]
def ldP (p : POp) : Option Nat := match p.op,p.guard with
 | .ld _ _ (.t l),none => some l
 | _,_ => none
def stP (p : POp) : Option Nat := match p.op,p.guard with
 | .st _ (.t s) _,none => some s
 | _,_ => none
theorem ldP_spec {p : POp} {l : Nat} (h : ldP p = some l) : ∃ ag sz,p.op = .ld ag sz (.t l) ∧ p.guard = none := by
 unfold ldP at h
 split at h
 ·rename_i ag sz l' h1 h2; cases h; exact ⟨_,_,h1,h2⟩
 ·cases h
theorem stP_spec {p : POp} {s : Nat} (h : stP p = some s) : ∃ sz v,p.op = .st sz (.t s) v ∧ p.guard = none := by
 unfold stP at h
 split at h
 ·rename_i ag sz l' h1 h2; cases h; exact ⟨_,_,h1,h2⟩
 ·cases h
theorem swap_ldst {call : Call} {x y : POp} {st s1 s2 : St} {l s : Nat} (hx : ldP x = some l) (hy : stP y = some s) (hap : envApart x y = true) (ha : apartV (st.env s) (st.env l) = true) (h1 : x.ev call st = some s1) (h2 : y.ev call s1 = some s2) : ∃ s3,y.ev call st = some s3 ∧ x.ev call s3 = some s2 := by
 obtain ⟨a1,a2,a3⟩ := envApart_spec hap
 obtain ⟨ag,sz,hxo,hxg⟩ := ldP_spec hx
 obtain ⟨sz',v,hyo,hyg⟩ := stP_spec hy
 have h1' := h1
 simp only [POp.ev,hxg,hxo,PO.ev,Option.map_map,zw] at h1'
 obtain ⟨u,hu,rfl⟩ := h1'
 obtain ⟨v2,h',rfl,hv⟩ := POp.ev_at h2
 have h3 := hv st.env fun t ht => setD_at (a1 t ht)
 refine ⟨_,h3,?_⟩
 have h4 := h3
 simp only [POp.ev,hyg,hyo,PO.ev,Option.map_map,zw] at h4
 obtain ⟨g,hg,h4⟩ := h4
 have hg' : g = h' := congrArg St.h h4
 subst hg'
 have e1 : setD st.env y.dst v2 l = st.env l := setD_at (a2 l (by simp [POp.reads,hxo,PO.reads,PO.ats,At.tmps]))
 simp only [POp.ev,hxg,hxo,PO.ev,At.ev] at hu hg ⊢
 rw [e1,st_ld hg ha,hu]
 simp only [jj]
 rw [setD_comm u v2 a3]
theorem swap_stld {call : Call} {x y : POp} {st s1 s2 : St} {l s : Nat} (hx : stP x = some s) (hy : ldP y = some l) (hap : envApart x y = true) (ha : apartV (st.env s) (st.env l) = true) (h1 : x.ev call st = some s1) (h2 : y.ev call s1 = some s2) : ∃ s3,y.ev call st = some s3 ∧ x.ev call s3 = some s2 := by
 obtain ⟨a1,a2,a3⟩ := envApart_spec hap
 obtain ⟨ag,sz,hyo,hyg⟩ := ldP_spec hy
 obtain ⟨sz',v,hxo,hxg⟩ := stP_spec hx
 obtain ⟨u,h',rfl,hu⟩ := POp.ev_at h1
 have h3 := h1
 simp only [POp.ev,hxg,hxo,PO.ev,Option.map_map,zw] at h3
 obtain ⟨g,hg,h3⟩ := h3
 have hg' : g = h' := congrArg St.h h3
 subst hg'
 simp only [POp.ev,hyg,hyo,PO.ev,Option.map_map,zw] at h2
 obtain ⟨v2,hv2,rfl⟩ := h2
 have e1 : setD st.env x.dst u l = st.env l := setD_at (a1 l (by simp [POp.reads,hyo,PO.reads,PO.ats,At.tmps]))
 simp only [At.ev] at hv2 hg
 rw [e1,st_ld hg ha] at hv2
 refine ⟨⟨setD st.env y.dst v2,st.h⟩,?_,?_⟩
 ·simp only [POp.ev,hyg,hyo,PO.ev,At.ev,hv2,jj]
 ·rw [hu _ fun t ht => (setD_at (a2 t ht)).symm]
  exact congrArg some (congrArg (fun e => St.mk e g) (setD_comm u v2 a3).symm)
def apP (p : POp) : Option Nat := match p.op,p.guard with
 | .app _ _ _ (.t s) _,none => some s
 | _,_ => none
theorem apP_spec {p : POp} {s : Nat} (h : apP p = some s) : ∃ id sz b v,p.op = .app id sz b (.t s) v ∧ p.guard = none := by
 unfold apP at h
 split at h
 ·rename_i id sz b s' v h1 h2; cases h; exact ⟨_,_,_,_,h1,h2⟩
 ·cases h
theorem app_ld {h h' : Heap} {id sz b : Nat} {x y v l u : AV} {ag : Bool} {z : Nat} (hs : appV h id sz b x y = some (v,h')) (ha : apartV x l = true) (hu : ldV h ag z l = some u) : ldV h' ag z l = some u := by
 unfold appV at hs
 split at hs
 ·cases hs
 ·rename_i new _
  cases l
  case tp => exact hu
  case p q e2 o2 =>
   have hq : (h q).isSome = true := by
    cases hh : h q with
    | some r => rfl
    | none => simp [ldV,ptrAt,hh] at hu
   have key : ∀ g : Heap,g q = h q → ldV g ag z (.p q e2 o2) = some u := by
    intro g hg
    have e : ptrAt g (.p q e2 o2) = ptrAt h (.p q e2 o2) := by simp only [ptrAt,hg]
    unfold ldV at hu ⊢
    rw [e]; exact hu
   split at hs
   ·split at hs
    ·rename_i hc
     cases hs
     have hne : q ≠ id := fun e => by have := hc.2.2; rw [← e] at this; cases hh : h q <;> simp [hh] at hq this
     exact key _ (by simp only [Heap.put,if_neg hne])
    ·cases hs
   ·rename_i r z9 o9 n9
    have hqr : q ≠ r := fun e => by subst e; simp [apartV] at ha
    split at hs
    ·split at hs
     ·rename_i hc
      cases hs
      have hne : q ≠ id := fun e => by have := hc.2.2.2.2.2; rw [← e] at this; cases hh : h q <;> simp [hh] at hq this
      exact key _ (by simp only [Heap.put,if_neg hne,if_neg hqr])
     ·cases hs
    ·cases hs
   ·cases hs
  all_goals (simp [ldV,ptrAt] at hu)
theorem swap_ldap {call : Call} {x y : POp} {st s1 s2 : St} {l s : Nat} (hx : ldP x = some l) (hy : apP y = some s) (hap : envApart x y = true) (ha : apartV (st.env s) (st.env l) = true) (h1 : x.ev call st = some s1) (h2 : y.ev call s1 = some s2) : ∃ s3,y.ev call st = some s3 ∧ x.ev call s3 = some s2 := by
 obtain ⟨a1,a2,a3⟩ := envApart_spec hap
 obtain ⟨ag,sz,hxo,hxg⟩ := ldP_spec hx
 obtain ⟨id,sz',b,v,hyo,hyg⟩ := apP_spec hy
 have h1' := h1
 simp only [POp.ev,hxg,hxo,PO.ev,Option.map_map,zw] at h1'
 obtain ⟨u,hu,rfl⟩ := h1'
 obtain ⟨v2,h',rfl,hv⟩ := POp.ev_at h2
 have h3 := hv st.env fun t ht => setD_at (a1 t ht)
 refine ⟨_,h3,?_⟩
 have h4 := h3
 simp only [POp.ev,hyg,hyo,PO.ev,zw] at h4
 obtain ⟨⟨vg,g⟩,hg,h4⟩ := h4
 have hg' : g = h' := congrArg St.h h4
 subst hg'
 have e1 : setD st.env y.dst v2 l = st.env l := setD_at (a2 l (by simp [POp.reads,hxo,PO.reads,PO.ats,At.tmps]))
 simp only [POp.ev,hxg,hxo,PO.ev,At.ev] at hu hg ⊢
 rw [e1,app_ld hg ha hu]
 simp only [jj]
 rw [setD_comm u v2 a3]
def alP (p : POp) : Option Nat := match p.op,p.guard with
 | .alloc i _,none => some i
 | _,_ => none
theorem alP_spec {p : POp} {i : Nat} (h : alP p = some i) : ∃ z,p.op = .alloc i z ∧ p.guard = none := by
 unfold alP at h
 split at h
 ·rename_i i' z h1 h2; cases h; exact ⟨_,h1,h2⟩
 ·cases h
theorem put_comm {h : Heap} {i j : Nat} (hne : i ≠ j) (a b : Row) : (h.put i a).put j b = (h.put j b).put i a := by
 funext q
 simp only [Heap.put]
 by_cases h1 : q = j
 ·subst h1; simp [Ne.symm hne]
 ·by_cases h2 : q = i
  ·subst h2; simp [h1]
  ·simp [h1,h2]
theorem put_none {h : Heap} {i q : Nat} {a : Row} (hn : (h.put i a) q = none) : q ≠ i ∧ h q = none := by
 simp only [Heap.put] at hn
 split at hn
 ·cases hn
 ·rename_i h1; exact ⟨h1,hn⟩
theorem es_put {h : Heap} {q sz : Nat} {a : Row} {y : AV} {new : List (List AV)} (hq : h q = none) (he : esV h sz y = some new) : esV (h.put q a) sz y = some new := by
 cases y
 case sl r z o n =>
  have hr : r ≠ q := fun e => by subst e; simp only [esV,hq] at he; split at he <;> simp at he
  simp only [esV,Heap.put,if_neg hr] at he ⊢
  exact he
 all_goals exact he
theorem app_alloc {h h' : Heap} {id sz b q : Nat} {x y v : AV} (a : Row) (hs : appV h id sz b x y = some (v,h')) (hn : h' q = none) : h q = none ∧ appV (h.put q a) id sz b x y = some (v,h'.put q a) := by
 unfold appV at hs
 split at hs
 ·cases hs
 ·rename_i new he
  split at hs
  ·rename_i z
   split at hs
   ·rename_i hc
    cases hs
    obtain ⟨n1,n2⟩ := put_none hn
    refine ⟨n2,?_⟩
    unfold appV
    rw [es_put n2 he]
    simp only
    have e1 : (h.put q a) id = h id := by simp only [Heap.put,if_neg (Ne.symm n1)]
    rw [e1,if_pos hc,put_comm n1]
   ·cases hs
  ·rename_i r z o n
   split at hs
   ·rename_i z' es hr
    split at hs
    ·rename_i hc
     cases hs
     obtain ⟨n1,n2⟩ := put_none hn
     obtain ⟨n3,n4⟩ := put_none n2
     refine ⟨n4,?_⟩
     unfold appV
     rw [es_put n4 he]
     simp only
     have e1 : (h.put q a) id = h id := by simp only [Heap.put,if_neg (Ne.symm n1)]
     have e2 : (h.put q a) r = some (.sl true z' es) := by simp only [Heap.put,if_neg (Ne.symm n3)]; exact hr
     simp only [e2]
     rw [e1,if_pos hc,put_comm n3,put_comm n1]
    ·cases hs
   ·cases hs
  ·cases hs
theorem swap_apal {call : Call} {x y : POp} {st s1 s2 : St} {s i : Nat} (hx : apP x = some s) (hy : alP y = some i) (hap : envApart x y = true) (h1 : x.ev call st = some s1) (h2 : y.ev call s1 = some s2) : ∃ s3,y.ev call st = some s3 ∧ x.ev call s3 = some s2 := by
 obtain ⟨a1,a2,a3⟩ := envApart_spec hap
 obtain ⟨id,sz,b,v,hxo,hxg⟩ := apP_spec hx
 obtain ⟨z,hyo,hyg⟩ := alP_spec hy
 simp only [POp.ev,hxg,hxo,PO.ev,zw] at h1
 obtain ⟨⟨u,g⟩,hu,rfl⟩ := h1
 simp only [POp.ev,hyg,hyo,PO.ev,zw] at h2
 obtain ⟨⟨t,g2⟩,ht,rfl⟩ := h2
 split at ht
 ·rename_i hn
  cases ht
  have hn' : g i = none := by simpa using hn
  obtain ⟨n1,n2⟩ := app_alloc (.st z) hu hn'
  have e1 : (At.t s).ev (setD st.env y.dst (.p i 0 0)) = (At.t s).ev st.env := setD_at (a2 s (by simp [POp.reads,hxo,PO.reads,PO.ats,At.tmps]))
  have e2 : v.ev (setD st.env y.dst (.p i 0 0)) = v.ev st.env := At.agree fun t ht => setD_at (a2 t (by simp [POp.reads,hxo,PO.reads,PO.ats,ht]))
  refine ⟨⟨setD st.env y.dst (.p i 0 0),st.h.put i (.st z)⟩,?_,?_⟩
  ·simp only [POp.ev,hyg,hyo,PO.ev,n1,Option.isNone_none,if_true,jj]
  ·simp only [POp.ev,hxg,hxo,PO.ev,e1,e2,n2,jj]
   rw [setD_comm u (.p i 0 0) a3]
 ·cases ht
def comm (chk : List (Nat × Nat)) (x y : POp) : Bool := envApart x y && (x.op.kind == 0 || y.op.kind == 0 ||
 (decide (x.op.kind ≤ 1) && decide (y.op.kind ≤ 1) && x.op.okc && y.op.okc && (match x.op.newId with | some i => decide (y.op.newId ≠ some i) | none => true)) ||
 (match ldP x,stP y with | some l,some s => chk.contains (s,l) | _,_ => false) || (match stP x,ldP y with | some s,some l => chk.contains (s,l) | _,_ => false) || (match ldP x,apP y with | some l,some s => chk.contains (s,l) | _,_ => false) || (match apP x,alP y with | some _,some _ => true | _,_ => false))
def ptrT (p : POp) : Option Nat := match ldP p with
 | some l => some l
 | none => match stP p with
  | some s => some s
  | none => apP p
theorem swap {f : Fr} {nt : Nat} {call : Call} {chk : List (Nat × Nat)} {x y : POp} {st s1 s2 : St} (hr : Real f nt st) (hc : comm chk x y = true)
  (ha : ∀ s l,(s,l) ∈ chk → (ptrT x = some s ∧ ptrT y = some l ∨ ptrT x = some l ∧ ptrT y = some s) → apartV (st.env s) (st.env l) = true)
  (h1 : x.ev call st = some s1) (h2 : y.ev call s1 = some s2) : ∃ s3,y.ev call st = some s3 ∧ x.ev call s3 = some s2 := by
 simp only [comm,zu,Bool.or_eq_true,beq_iff_eq,decide_eq_true_eq] at hc
 obtain ⟨hap,hc⟩ := hc
 have pl : ∀ {p : POp} {l : Nat},ldP p = some l → ptrT p = some l := fun h => by unfold ptrT; rw [h]
 have ps : ∀ {p : POp} {s : Nat},stP p = some s → ptrT p = some s := fun {p s} h => by
  obtain ⟨sz,v,h1,h2⟩ := stP_spec h
  have : ldP p = none := by unfold ldP; rw [h1]
  unfold ptrT; rw [this]
  show (match stP p with | some s => some s | none => apP p) = some s
  rw [h]
 have pa : ∀ {p : POp} {s : Nat},apP p = some s → ptrT p = some s := fun {p s} h => by
  obtain ⟨id,sz,b,v,h1,h2⟩ := apP_spec h
  have e1 : ldP p = none := by unfold ldP; rw [h1]
  have e2 : stP p = none := by unfold stP; rw [h1]
  unfold ptrT; rw [e1]
  show (match stP p with | some s => some s | none => apP p) = some s
  rw [e2]; exact h
 rcases hc with ((((((hc | hc) | hc) | hc) | hc) | hc) | hc)
 ·exact swap_pure1 hc hap h1 h2
 ·exact swap_pure2 hc hap h1 h2
 ·obtain ⟨⟨⟨⟨k1,k2⟩,k3⟩,k4⟩,k5⟩ := hc
  refine swap_grow k1 k2 hap (hr.closed k3) (hr.closed k4) (fun i hi => ?_) h1 h2
  rw [hi] at k5
  simpa using k5
 ·split at hc
  ·rename_i l s hl hs
   simp only [List.contains_iff_mem] at hc
   exact swap_ldst hl hs hap (ha s l hc (.inr ⟨pl hl,ps hs⟩)) h1 h2
  ·cases hc
 ·split at hc
  ·rename_i s l hs hl
   simp only [List.contains_iff_mem] at hc
   exact swap_stld hs hl hap (ha s l hc (.inl ⟨ps hs,pl hl⟩)) h1 h2
  ·cases hc
 ·split at hc
  ·rename_i l s hl hs
   simp only [List.contains_iff_mem] at hc
   exact swap_ldap hl hs hap (ha s l hc (.inr ⟨pl hl,pa hs⟩)) h1 h2
  ·cases hc
 ·split at hc
  ·rename_i s i hs hi
   exact swap_apal hs hi hap h1 h2
  ·cases hc
theorem ptrT_reads {p : POp} {t : Nat} (h : ptrT p = some t) : t ∈ p.reads := by
 unfold ptrT at h
 split at h
 ·rename_i l hl
  cases h
  obtain ⟨ag,sz,h1,h2⟩ := ldP_spec hl
  simp [POp.reads,h1,PO.reads,PO.ats,At.tmps]
 ·split at h
  ·rename_i s hs
   cases h
   obtain ⟨sz,v,h1,h2⟩ := stP_spec hs
   simp [POp.reads,h1,PO.reads,PO.ats,At.tmps]
  ·obtain ⟨id,sz,b,v,h1,h2⟩ := apP_spec h
   simp [POp.reads,h1,PO.reads,PO.ats,At.tmps]
def wfL : List POp → Bool
 | [] => true
 | p :: l => (match ptrT p with | some t => (p :: l).all fun q => decide (q.dst ≠ some t) | none => true) && wfL l
theorem wfL_sub {l m : List POp} (h : l.Sublist m) : wfL m = true → wfL l = true := by
 induction h with
 | slnil => exact fun h => h
 | cons p h ih =>
  intro hm
  simp only [wfL,zu] at hm
  exact ih hm.2
 | cons_cons p h ih =>
  intro hm
  simp only [wfL,zu] at hm ⊢
  refine ⟨?_,ih hm.2⟩
  split
  ·rename_i t ht
   rw [ht] at hm
   simp only [List.all_eq_true,List.mem_cons] at hm ⊢
   intro q hq
   exact hm.1 q (hq.imp id (h.subset ·))
  ·rfl
theorem evs_env {call : Call} {t : Nat} : ∀ {l : List POp} {st stf : St},evs call l st = some stf → (∀ p ∈ l,p.dst ≠ some t) → stf.env t = st.env t := by
 intro l
 induction l with
 | nil => intro st stf h _; cases h; rfl
 | cons p l ih =>
  intro st stf h hd
  simp only [evs,zy] at h
  obtain ⟨s1,h1,h2⟩ := h
  obtain ⟨v,h',rfl,_⟩ := POp.ev_at h1
  rw [ih h2 fun p hp => hd p (zH _ hp)]
  exact setD_at (hd p zG)
theorem apartL_mem {e : Nat → AV} : ∀ {chk : List (Nat × Nat)},apartL e chk = true → ∀ s l,(s,l) ∈ chk → apartV (e s) (e l) = true
 | [],_,s,l,h => by cases h
 | (s',l') :: r,h,s,l,hm => by
  simp only [apartL,zu] at h
  rcases List.mem_cons.1 hm with e | hm
  ·cases e; exact h.1
  ·exact apartL_mem h.2 s l hm
theorem move_front {f : Fr} {nt : Nat} {call : Call} {chk : List (Nat × Nat)} {y : POp} {post : List POp} : ∀ {pre : List POp} {st stf : St},(∀ p ∈ pre,∀ st st',Real f nt st → p.ev call st = some st' → Real f nt st') →
  Real f nt st → wfL (pre ++ y :: post) = true → (∀ x ∈ pre,comm chk x y = true) → apartL stf.env chk = true → evs call (pre ++ y :: post) st = some stf → evs call (y :: (pre ++ post)) st = some stf := by
 intro pre
 induction pre with
 | nil => intro st stf _ _ _ _ _ h; exact h
 | cons x pre ih =>
  intro st stf hstep hr hwf hcm hap hev
  have hev0 := hev
  simp only [List.cons_append,evs,zy] at hev
  obtain ⟨s1,h1,h2⟩ := hev
  have hr1 := hstep x zG _ _ hr h1
  have h3 := ih (fun p hp => hstep p (zH _ hp)) hr1 (wfL_sub (List.sublist_cons_self _ _) hwf) (fun z hz => hcm z (zH _ hz)) hap h2
  simp only [evs,zy] at h3
  obtain ⟨s2,h4,h5⟩ := h3
  have hxy := hcm x zG
  -- pointers are as they are at the end
  have px : ∀ t,ptrT x = some t → stf.env t = st.env t := by
   intro t ht
   refine evs_env hev0 fun p hp => ?_
   simp only [List.cons_append,wfL,ht,zu,List.all_eq_true,decide_eq_true_eq] at hwf
   exact hwf.1 p hp
  have py : ∀ t,ptrT y = some t → stf.env t = st.env t := by
   intro t ht
   refine evs_env hev0 fun p hp => ?_
   rcases List.mem_append.1 hp with hp | hp
   ·have := hcm p hp
    simp only [comm,zu] at this
    exact (envApart_spec this.1).1 t (ptrT_reads ht)
   ·have := wfL_sub (List.sublist_append_right (x :: pre) (y :: post)) hwf
    simp only [wfL,ht,zu,List.all_eq_true,decide_eq_true_eq] at this
    exact this.1 p hp
  obtain ⟨s3,h6,h7⟩ := swap hr hxy (fun s l hm hh => by
   have := apartL_mem hap s l hm
   rcases hh with ⟨e1,e2⟩ | ⟨e1,e2⟩
   ·rwa [px _ e1,py _ e2] at this
   ·rwa [py _ e2,px _ e1] at this) h1 h4
  simp only [evs,List.cons_append,h6,h7,zN]
  exact h5
def preds (o : Oper) : List Nat := (o.after.toList.filter (Region.binds .any)).map (·.on)
def maskOf (M : List Nat) (ps : List Nat) : Nat := ps.foldl (fun m p => m ||| (1 <<< p) ||| M.getD p 0) 0
def ancs (os : List Oper) : List Nat := os.foldl (fun M o => M ++ [maskOf M (preds o)]) []
theorem maskOf_bit {M : List Nat} {j : Nat} : ∀ {ps : List Nat} {m : Nat},(ps.foldl (fun m p => m ||| (1 <<< p) ||| M.getD p 0) m).testBit j = true → m.testBit j = true ∨ ∃ p ∈ ps,p = j ∨ (M.getD p 0).testBit j = true := by
 intro ps
 induction ps with
 | nil => intro m h; exact .inl h
 | cons p ps ih =>
  intro m h
  rcases ih h with h | ⟨q,hq,h⟩
  ·rw [Nat.testBit_or,Nat.testBit_or,Bool.or_eq_true,Bool.or_eq_true] at h
   rcases h with ((h | h) | h)
   ·exact .inl h
   ·rw [Nat.one_shiftLeft,Nat.testBit_two_pow] at h
    exact .inr ⟨p,zG,.inl (of_decide_eq_true h)⟩
   ·exact .inr ⟨p,zG,.inr h⟩
  ·exact .inr ⟨q,zH _ hq,h⟩
def drawOk (chk : List (Nat × Nat)) (os : List Oper) (ps : List POp) : Bool :=
 wfL ps && (zT os.length).all fun i => match os[i]?,ps[i]? with
  | some o,some p => (preds o).all (fun q => decide (q < i)) && decide ((ancs os).getD i 0 = maskOf (ancs os) (preds o)) && (zT i).all fun j => ((ancs os).getD i 0).testBit j || (match ps[j]? with | some x => comm chk x p | none => false)
  | _,_ => false
theorem drawOk_spec {chk : List (Nat × Nat)} {os : List Oper} {ps : List POp} (h : drawOk chk os ps = true) : wfL ps = true ∧ ∀ (i : Nat) o p,os[i]? = some o → ps[i]? = some p → (∀ q ∈ preds o,q < i) ∧ (ancs os).getD i 0 = maskOf (ancs os) (preds o) ∧ ∀ (j : Nat) x,j < i → ps[j]? = some x → ((ancs os).getD i 0).testBit j = true ∨ comm chk x p = true := by
 simp only [drawOk,zu,List.all_eq_true,List.mem_range] at h
 refine ⟨h.1,fun i o p ho hp => ?_⟩
 have := h.2 i (List.getElem?_eq_some_iff.1 ho).1
 rw [ho,hp] at this
 simp only [zu,List.all_eq_true,decide_eq_true_eq,List.mem_range,Bool.or_eq_true] at this
 refine ⟨this.1.1,this.1.2,fun j x hj hx => ?_⟩
 have := this.2 j hj
 rw [hx] at this
 exact this
section
variable {P : Program} {F : Fns} {f : Fr} {nt : Nat}
def DownC (ops : Array Oper) (listed : Array Bool) : Prop := ∀ (i : Nat) o,ops[i]? = some o → listed.getD i true = true → ∀ q ∈ preds o,listed.getD q false = true
theorem anc_listed {ops : Array Oper} {listed : Array Bool} (hd : DownC ops listed) (hM : ∀ (i : Nat) o,ops[i]? = some o → (∀ q ∈ preds o,q < i) ∧ (ancs ops.toList).getD i 0 = maskOf (ancs ops.toList) (preds o)) : ∀ (n i : Nat) o,i ≤ n → ops[i]? = some o → (∀ q ∈ preds o,listed.getD q false = true) → ∀ j,((ancs ops.toList).getD i 0).testBit j = true → listed.getD j false = true := by
 intro n
 induction n with
 | zero =>
  intro i o hi ho hp j hj
  obtain ⟨h1,h2⟩ := hM i o ho
  rw [h2] at hj
  rcases maskOf_bit hj with h | ⟨p,hp',h⟩
  ·simp at h
  ·have := h1 p hp'; omega
 | succ n ih =>
  intro i o hi ho hp j hj
  obtain ⟨h1,h2⟩ := hM i o ho
  rw [h2] at hj
  rcases maskOf_bit hj with h | ⟨p,hp',h⟩
  ·simp at h
  ·rcases h with rfl | h
   ·exact hp _ hp'
   ·have hlt := h1 p hp'
    have hps : p < ops.size := Nat.lt_trans hlt (Array.getElem?_eq_some_iff.1 ho).1
    have hpo : ops[p]? = some ops[p] := Array.getElem?_eq_getElem hps
    refine ih p _ (by omega) hpo (fun q hq => hd p _ hpo ?_ q hq) j h
    have := hp p hp'
    rcases jl p listed.size with h' | h'
    ·simp [h'] at this ⊢; exact this
    ·simp [h'] at this
def pick (ps : List POp) (l : List Nat) : List POp := l.map fun i => ps.getD i ⟨none,.mv (.c .junk),none⟩
theorem pick_sublist {ps : List POp} : ∀ {l : List Nat} (k : Nat),l.Sublist (List.range' k (ps.length - k)) → k ≤ ps.length → (pick ps l).Sublist (ps.drop k) := by
 intro l k h hk
 have : ps.drop k = pick ps (List.range' k (ps.length - k)) := by
  apply List.ext_getElem?
  intro i
  simp only [pick,List.getElem?_map,List.getElem?_drop,List.getElem?_range']
  by_cases hi : i < ps.length - k
  ·simp [hi,zo,zr (show k + i < ps.length by omega)]
  ·simp [hi,jf (show ps.length ≤ k + i by omega)]
 rw [this]
 exact h.map _
theorem region_any {ops : Array Oper} {ps : List POp} {chk : List (Nat × Nat)} (hm : mposL P F f.tabs nt ops ops.toList ps = true) (hdr : drawOk chk ops.toList ps = true) {call : Call} (hc : CallsOk P F f.tabs call) (Q : Exit → Act → World → Prop) {stf : St} (hQ : ∀ a w,Sim f nt w stf a → Q .normal a w) (hchk : apartL stf.env chk = true) :
  ∀ (fuel : Nat) (rest : List Nat) (listed : Array Bool) (st : St) (a : Act) (w : World),rest.length = fuel → rest.Sublist (zT ps.length) → listed.size = ops.size → (∀ i,i < ps.length → (i ∈ rest ↔ listed.getD i true = false)) → DownC ops listed → Sim f nt w st a → evs call (pick ps rest) st = some stf →
   wpAny P .any ops Q fuel listed a w := by
 obtain ⟨hl,hg⟩ := mposL_get hm
 obtain ⟨hwf,hok⟩ := drawOk_spec hdr
 have hsz : ops.size = ps.length := by rw [← hl]; simp
 have hgo : ∀ i,i < ps.length → ∃ o p,ops[i]? = some o ∧ ops.toList[i]? = some o ∧ ps[i]? = some p ∧ ps.getD i ⟨none,.mv (.c .junk),none⟩ = p ∧ mpo P F f.tabs nt ops o p = true := by
  intro i hi
  have h1 : ps[i]? = some ps[i] := zr hi
  have h2 : i < ops.toList.length := by rw [hl]; exact hi
  have h3 : ops.toList[i]? = some ops.toList[i] := zr h2
  exact ⟨_,_,by rw [← Array.getElem?_toList]; exact h3,h3,h1,by simp [hi],hg i _ _ h3 h1⟩
 have hM : ∀ (i : Nat) o,ops[i]? = some o → (∀ q ∈ preds o,q < i) ∧ (ancs ops.toList).getD i 0 = maskOf (ancs ops.toList) (preds o) := by
  intro i o ho
  have hi : i < ps.length := by rw [← hsz]; exact (Array.getElem?_eq_some_iff.1 ho).1
  obtain ⟨o',p,h1,h2,h3,h4,h5⟩ := hgo i hi
  rw [ho] at h1
  cases h1
  obtain ⟨a1,a2,a3⟩ := hok i o p h2 h3
  exact ⟨a1,a2⟩
 intro fuel
 induction fuel with
 | zero =>
  intro rest listed st a w hlen hsub hls hmem hdn hs hev
  have hnil : rest = [] := List.eq_nil_of_length_eq_zero hlen
  subst hnil
  cases hev
  refine ⟨?_,hQ a w hs⟩
  rw [List.eq_nil_iff_forall_not_mem]
  intro i hi
  obtain ⟨h0,o,ho,_⟩ := mem_ready.1 hi
  have hi' : i < ps.length := by rw [← hsz]; exact (Array.getElem?_eq_some_iff.1 ho).1
  have := (hmem i hi').2 h0
  cases this
 | succ fuel ih =>
  intro rest listed st a w hlen hsub hls hmem hdn hs hev
  refine ⟨fun hn => ?_,fun i hi => ?_⟩
  ·-- the first that is left may come up
   exfalso
   cases rest with
   | nil => simp at hlen
   | cons i rest =>
    have hi' : i < ps.length := List.mem_range.1 (hsub.subset zG)
    have h0 := (hmem i hi').1 zG
    obtain ⟨o,p,h1,h2,h3,h4,h5⟩ := hgo i hi'
    have hord : ∀ q,q < i → q ∉ rest := by
     intro q hq hqr
     have hs2 : (i :: rest).Pairwise (· < ·) := List.Pairwise.sublist hsub List.pairwise_lt_range
     have := (List.pairwise_cons.1 hs2).1 q hqr
     omega
    have : i ∈ Region.ready .any ops listed := by
     refine mem_ready.2 ⟨h0,o,h1,fun e he hb => ?_⟩
     have hq : e.on ∈ preds o := List.mem_map.2 ⟨e,List.mem_filter.2 ⟨by simpa using he,hb⟩,rfl⟩
     have hlt := (hM i o h1).1 _ hq
     have hne : ¬ e.on ∈ i :: rest := by
      intro h
      rcases List.mem_cons.1 h with h | h
      ·omega
      ·exact hord _ hlt h
     have := fun h => hne ((hmem e.on (by omega)).2 h)
     have hls' : e.on < listed.size := by omega
     simp [hls'] at this ⊢
     exact this
    rw [hn] at this
    cases this
  ·obtain ⟨h0,o,ho,hall⟩ := mem_ready.1 hi
   have hi' : i < ps.length := by rw [← hsz]; exact (Array.getElem?_eq_some_iff.1 ho).1
   obtain ⟨o',p,h1,h2,h3,h4,h5⟩ := hgo i hi'
   rw [ho] at h1
   cases h1
   have hpred : ∀ q ∈ preds o,listed.getD q false = true := by
    intro q hq
    obtain ⟨e,he,rfl⟩ := List.mem_map.1 hq
    obtain ⟨h6,h7⟩ := List.mem_filter.1 he
    exact hall e (by simpa using h6) h7
   obtain ⟨pre,post,rfl⟩ := List.append_of_mem ((hmem i hi').2 h0)
   have hpair : (pre ++ i :: post).Pairwise (· < ·) := List.Pairwise.sublist hsub List.pairwise_lt_range
   have hev2 : evs call (pick ps pre ++ p :: pick ps post) st = some stf := by
    have : pick ps (pre ++ i :: post) = pick ps pre ++ p :: pick ps post := by simp only [pick,jb,List.map_cons,h4]
    rw [← this]; exact hev
   have hsub2 : (pick ps pre ++ p :: pick ps post).Sublist ps := by
    have : pick ps (pre ++ i :: post) = pick ps pre ++ p :: pick ps post := by simp only [pick,jb,List.map_cons,h4]
    rw [← this]
    have := pick_sublist (ps := ps) (l := pre ++ i :: post) 0 (by rw [Nat.sub_zero,← List.range_eq_range']; exact hsub) (Nat.zero_le _)
    simpa using this
   have hfront := move_front (f := f) (nt := nt) (call := call) (chk := chk) (y := p) (post := pick ps post) (pre := pick ps pre) (st := st) (stf := stf)
    (fun q hq s s' hr hv => by
     obtain ⟨j,hj,rfl⟩ := List.mem_map.1 hq
     have hj' : j < ps.length := List.mem_range.1 (hsub.subset (List.mem_append.2 (.inl hj)))
     obtain ⟨o2,p2,_,_,_,b4,b5⟩ := hgo j hj'
     rw [b4] at hv
     exact hr.step b5 hc hv)
    ⟨w,a,hs⟩ (wfL_sub hsub2 hwf)
    (fun x hx => by
     obtain ⟨j,hj,rfl⟩ := List.mem_map.1 hx
     have hj' : j < ps.length := List.mem_range.1 (hsub.subset (List.mem_append.2 (.inl hj)))
     have hji : j < i := (List.pairwise_append.1 hpair).2.2 j hj i zG
     obtain ⟨o2,p2,_,_,b3,b4,b5⟩ := hgo j hj'
     rw [b4]
     rcases (hok i o p h2 h3).2.2 j p2 hji b3 with h | h
     ·exfalso
      have h6 := anc_listed hdn hM i i o (zz _) ho hpred j h
      have h7 := (hmem j hj').1 (List.mem_append.2 (.inl hj))
      have hls' : j < listed.size := by omega
      simp [hls'] at h6 h7
      rw [h6] at h7
      cases h7
     ·exact h)
    hchk hev2
   simp only [evs,zy] at hfront
   obtain ⟨s1,h6,h7⟩ := hfront
   have hnext : ∀ a' w',Sim f nt w' s1 a' → wpAny P .any ops Q fuel (listed.setIfInBounds i true) a' w' := by
    intro a' w' hs'
    have hni : i ∉ pre ∧ i ∉ post := by
     obtain ⟨q1,q2,q3⟩ := List.pairwise_append.1 hpair
     refine ⟨fun h => ?_,fun h => ?_⟩
     ·exact absurd (q3 i h i zG) (Nat.lt_irrefl _)
     ·exact absurd ((List.pairwise_cons.1 q2).1 i h) (Nat.lt_irrefl _)
    refine ih (pre ++ post) _ s1 a' w' ?_ (List.Sublist.trans ?_ hsub) (by simp [hls]) (fun j hj => ?_) (fun j oj hoj hlj q hq => ?_) hs' ?_
    ·simp at hlen ⊢; omega
    ·exact List.Sublist.append_left (List.sublist_cons_self _ _) _
    ·by_cases hji : j = i
     ·subst hji
      have : j < listed.size := by omega
      simp [this,hni]
     ·rw [getD_set_ne true (fun h => hji h.symm),← hmem j hj]
      simp [hji]
    ·by_cases hji : j = i
     ·subst hji
      rw [hoj] at ho
      cases ho
      exact getD_set_true (hpred q hq)
     ·rw [getD_set_ne true (fun h => hji h.symm)] at hlj
      exact getD_set_true (hdn j oj hoj hlj q hq)
    ·have : pick ps (pre ++ post) = pick ps pre ++ pick ps post := by simp only [pick,jb]
     rw [this]; exact h7
   have := op_sim hs h5 hc h6 (wpAny P .any ops Q fuel (listed.setIfInBounds i true)) Q hnext
   unfold wpOp
   rw [ho]
   simp only
   split at this
   ·rename_i hw; rw [if_pos hw]; exact .inl this
   ·rename_i hw; rw [if_neg hw]; exact this
theorem Sim.old {w w' : World} {st : St} {a : Act} (h : Sim f nt w st a) (ho : Old w w') : Sim f nt w' st a := by
 obtain ⟨h1,h2,T,ρ,k,he⟩ := h
 exact ⟨h1,h2,T,ρ,k.old ho,he.goes (Goes.old ho)⟩
theorem region_draw {ops : Array Oper} {ps : List POp} {chk : List (Nat × Nat)} {id : Nat} (hmo : P.follows .mixedOrders = true) (hm : mposL P F f.tabs nt ops ops.toList ps = true) (hdr : drawOk chk ops.toList ps = true) {call : Call} (hc : CallsOk P F f.tabs call) (Q : Exit → Act → World → Prop) {st stf : St} {w : World} {a : Act}
  (hQ : ∀ a w,Sim f nt w stf a → Q .normal a w) (hchk : apartL stf.env chk = true) (hs : Sim f nt w st a) (hv : evs call ps st = some stf) : (Code.region id ops true).wp P Q a w := by
 have hl := (mposL_get hm).1
 have hsz : ops.size = ps.length := by rw [← hl]; simp
 refine wp_region_any hmo ?_
 refine region_any hm hdr hc Q hQ hchk ops.size (zT ps.length) _ st a _ (by simp [hsz]) (List.Sublist.refl _) (by simp) (fun i hi => ?_) (fun i o ho hl q hq => ?_) (hs.old (Old.drew w)) ?_
 ·have : i < ops.size := by omega
  simp [hi,this]
 ·have : i < ops.size := (Array.getElem?_eq_some_iff.1 ho).1
  simp [this] at hl
 ·have : pick ps (zT ps.length) = ps := by
   apply List.ext_getElem?
   intro i
   simp only [pick,List.getElem?_map]
   by_cases hi : i < ps.length
   ·simp [hi]
   ·simp [hi,jf (show ps.length ≤ i by omega)]
  rw [this]; exact hv
end
end Go.Pe
