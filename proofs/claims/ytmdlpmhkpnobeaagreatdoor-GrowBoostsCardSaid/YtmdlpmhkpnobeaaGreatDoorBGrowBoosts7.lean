/- Proved: It shows that each tree of a boosted model is the one grown of what those ahead of it leave, its leaves' values times the rate, or why there is no model. No conditions. -/
import Derived.Test.YtmdlpmhkpnobeaaGreatDoorBGrowBoosts6
import Derived.Test.YtmdlpmhkpnobeaaGreatDoorChecked
import Derived.KernelRfl
import Derived.Test.YtmdlpmhkpnobeaaGreatDoorRows
import Derived.WalkKit
import Derived.ProofKit
import Derived.OpenShut
import Derived.ShutString
import Derived.ChangeOld
import Derived.Below
import Derived.SizedLaws
import Derived.Test.YtmdlpmhkpnobeaaGreatDoorCards
import Derived.Test.YtmdlpmhkpnobeaaGreatDoorTie
import Derived.LaidMore
import Derived.Lay
import Derived.SevenTiedAt
import Derived.Stop.Joined
import Derived.Handed
import Derived.LaidLaws
set_option linter.unusedVariables false
set_option linter.unusedSimpArgs false
open Nat renaming reduceEqDiff → za, reduceLeDiff → zb, reduceAdd → zd, reduceMul → ze, reduceMod → zf, reduceLT → zj, le_refl → zz, le_trans → zE, mul_le_mul_right → zK, zero_add → zX, add_mul → zZ, lt_of_lt_of_le → je, min_eq_left → jh, lt_or_ge → jl
open Int renaming reduceToNat → zc, reduceSub → zg, reduceNeg → zh, reduceAdd → zi, reduceLT → zk, reduceLE → zm, reduceEq → zn, natCast_nonneg → zq, ofNat_zero → zI, mul_le_mul_of_nonneg_right → zJ, natAbs → zM
open List renaming getD_eq_getElem?_getD → zo, take_of_length_le → zp, getElem?_eq_getElem → zr, take_length → zt, length_append → zx, length_map → zC, length_take → zD, length_cons → zF, mem_cons_self → zG, mem_cons_of_mem → zH, replicate → zL, length_replicate → zP, take → zQ, map_nil → zR, range → zT, length_set → zU, drop_of_length_le → zW, not_mem_nil → zY, mem_singleton → ja, map_append → jb, getElem?_append_right → jc, length_drop → jd, getElem?_eq_none → jf, length_singleton → jg, take_zero → jk
open Bool renaming and_eq_true → zu, false_eq_true → ji
open Option renaming map_eq_some_iff → zw, bind_eq_some_iff → zy, bind_some → zN, map_some → jj
open Rat renaming num → zV
open Go
namespace Go.Pe
theorem law_GrowBoosts (d : RD) (hd : OkD d) (r : RR) (hr : OkR r) (tr : Int) (htr : -9223372036854775808 ≤ tr ∧ tr ≤ 9223372036854775807) (x : RQt) (hx : OkQ x) : R FF 268 [.agg (eD d),.agg (eR r),(AV.i .i64 tr),.agg (eQ x)] = some (.b true) := by
 have f1 := few26_c hd
 have f2 := few1_c (q := x.1) (l := x.2.1) (d := x.2.2) hx
 have aw := awake26
 have hl := fD_len d
 have hw : SmQ (tQ x) 3 := Sm.take (k := maxL) hx 3
 have f3 := right26_c (d := fD d) (r := r) (by omega)
 by_cases ha : 3 < tr ∧ tr ≤ 64
 ·obtain ⟨a1,a2⟩ := ha
  generalize fD d = e at *
  obtain ⟨f,rows,vals⟩ := e
  obtain ⟨f',rows',vals'⟩ := d
  obtain ⟨dep,lst⟩ := r
  simp only [eD,eR,eQ] at f1 f2 ⊢
  rw [R_go FF F268 c268.eq_1]
  simp only [RB,RL,un,St.none,za,zd,ze,zf,zb,zj,zk,zm,zn,zc,zg,zh,zi,↓reduceIte,reduceCtorEq,pack,pid,parN,lid,chkK,apartV,Heap.none,f1,f2,aw,a1,a2,n64,zF,List.length_nil]
 ·by_cases hb : rtV (fD d) r ≠ 0 ∨ tr < 0 ∨ 64 < tr
  ·have g1 := boost_bad (w := tQ x) (show (fD d).2.1.length ≤ 1000 by omega) hb
   generalize rtV (fD d) r = v at *
   generalize fD d = e at *
   obtain ⟨f,rows,vals⟩ := e
   obtain ⟨f',rows',vals'⟩ := d
   obtain ⟨dep,lst⟩ := r
   simp only [eD,eR,eQ,tQ] at f1 f2 f3 g1 ⊢
   by_cases h0 : v = 0
   ·subst h0
    rw [if_pos rfl] at g1
    by_cases c1 : tr < 0
    ·have c3 : ¬ 3 < tr := by omega
     rw [R_go FF F268 c268.eq_1]
     simp only [RB,RL,un,St.none,za,zd,ze,zf,zb,zj,zk,zm,zn,zc,zg,zh,zi,↓reduceIte,reduceCtorEq,pack,pid,parN,lid,chkK,apartV,Heap.none,f1,f2,f3,g1,aw,c1,c3,n64,Row.freeze,zF,List.length_nil]
    ·have c2 : 64 < tr := by omega
     have c3 : 3 < tr := by omega
     have c4 : ¬ tr ≤ 64 := by omega
     rw [R_go FF F268 c268.eq_1]
     simp only [RB,RL,un,St.none,za,zd,ze,zf,zb,zj,zk,zm,zn,zc,zg,zh,zi,↓reduceIte,reduceCtorEq,pack,pid,parN,lid,chkK,apartV,Heap.none,f1,f2,f3,g1,aw,c1,c2,c3,c4,n64,Row.freeze,zF,List.length_nil]
   ·rw [if_neg h0] at g1
    by_cases c3 : 3 < tr
    ·have c4 : ¬ tr ≤ 64 := by omega
     rw [R_go FF F268 c268.eq_1]
     simp only [RB,RL,un,St.none,za,zd,ze,zf,zb,zj,zk,zm,zn,zc,zg,zh,zi,↓reduceIte,reduceCtorEq,pack,pid,parN,lid,chkK,apartV,Heap.none,f1,f2,f3,g1,h0,aw,c3,c4,n64,Row.freeze,zF,List.length_nil]
    ·rw [R_go FF F268 c268.eq_1]
     simp only [RB,RL,un,St.none,za,zd,ze,zf,zb,zj,zk,zm,zn,zc,zg,zh,zi,↓reduceIte,reduceCtorEq,pack,pid,parN,lid,chkK,apartV,Heap.none,f1,f2,f3,g1,h0,aw,c3,n64,Row.freeze,zF,List.length_nil]
  ·have h0 : rtV (fD d) r = 0 := by
    by_cases h : rtV (fD d) r = 0
    ·exact h
    ·exact (hb (.inl h)).elim
   have c0 : 0 ≤ tr ∧ tr ≤ 3 := by omega
   obtain ⟨hV,hVl⟩ := fD_vals hd
   have hg : OkG (fD d) r 3 := ⟨h0,hl,hV,fD_wf hd h0⟩
   have hf : fine tr.toNat 3 := by
    have : tr.toNat = 0 ∨ tr.toNat = 1 ∨ tr.toNat = 2 ∨ tr.toNat = 3 := by omega
    rcases this with h | h | h | h <;> rw [h] <;> simp [fine]
   have g1 := boost_c (tr := tr) (w := tQ x) hw (by omega) hf hg
   have hlen := tsP_len r (vQ (tQ x)) tr.toNat (fD d)
   obtain ⟨h1,h2,h3,h4⟩ := hg.facts
   have hts := tsP_vm (ρ := vQ (tQ x)) (vQ_sq hw (by omega)) tr.toNat (fD d) 3 hf hg
   have hvm : VM ((fD d).1,tsP r (vQ (tQ x)) tr.toNat (fD d)) := vm_all (by omega) (by omega) fun t ht => (hts t ht).1
   obtain ⟨b,g2,g3⟩ := ok_c (m := ((fD d).1,tsP r (vQ (tQ x)) tr.toNat (fD d))) (k := 2000) (by omega) (by omega) (by show (tsP r (vQ (tQ x)) tr.toNat (fD d)).length ≤ 100000; omega) (fun t ht => (hts t ht).2)
   rw [g3.2 hvm] at g2
   have l0 := Boosts_l0 (r := r) (g := (fD d).1) (tr := tr) hw (by omega) tr.toNat (fD d) 3 [] hf hg (by show ((0 : Nat) : Int) + _ = _; omega)
   rw [List.nil_append,List.length_nil,zI] at l0
   have em : ∀ ts : List (List RNd),eM ((fD d).1,ts) = [AV.i .i64 (fD d).1,AV.l 1 (ts.map eTr)] := fun _ => rfl
   rw [em] at g1 g2
   rw [h0] at f3
   generalize tsP r (vQ (tQ x)) tr.toNat (fD d) = M at *
   have c1 : ¬ tr < 0 := by omega
   have c2 : ¬ 64 < tr := by omega
   have c3 : ¬ 3 < tr := by omega
   have c5 : (M.length : Int) = tr := by omega
   generalize fD d = e at *
   obtain ⟨f,rows,vals⟩ := e
   obtain ⟨f',rows',vals'⟩ := d
   obtain ⟨dep,lst⟩ := r
   simp only [eD,eR,eQ,tQ] at f1 f2 f3 g1 g2 l0 ⊢
   rw [R_go FF F268 c268.eq_1]
   simp only [RB,RL,un,St.none,za,zd,ze,zf,zb,zj,zk,zm,zn,zc,zg,zh,zi,↓reduceIte,reduceCtorEq,pack,pid,parN,lid,chkK,apartV,Heap.none,f1,f2,f3,g1,g2,l0,aw,c1,c2,c3,c5,n64,eTr_rules,eTr_row,Row.freeze,zF,List.length_nil]
open Go Go.Proofs
set_option maxRecDepth 100000
def tabs0 : List (Nat × List AV) := [(0,tab0)]
def FD : Nat → Option PF
 | 14 => some p14
 | 29 => some p29
 | 31 => some p31
 | 38 => some p38
 | 39 => some p39
 | 40 => some p40
 | 43 => some p43
 | 47 => some p47
 | 54 => some p54
 | 55 => some p55
 | 56 => some p56
 | 57 => some p57
 | 63 => some p63
 | 64 => some p64
 | 65 => some p65
 | 66 => some p66
 | 68 => some p68
 | 71 => some p71
 | 72 => some p72
 | 73 => some p73
 | 74 => some p74
 | 75 => some p75
 | 76 => some p76
 | 77 => some p77
 | 79 => some p79
 | 80 => some p80
 | 81 => some p81
 | 82 => some p82
 | 83 => some p83
 | 86 => some p86
 | 87 => some p87
 | 88 => some p88
 | 89 => some p89
 | 90 => some p90
 | 91 => some p91
 | 92 => some p92
 | 94 => some p94
 | 95 => some p95
 | 96 => some p96
 | 97 => some p97
 | 106 => some p106
 | 107 => some p107
 | 108 => some p108
 | 109 => some p109
 | 110 => some p110
 | 111 => some p111
 | 112 => some p112
 | 113 => some p113
 | 114 => some p114
 | 115 => some p115
 | 116 => some p116
 | 117 => some p117
 | 118 => some p118
 | 119 => some p119
 | 120 => some p120
 | 122 => some p122
 | 127 => some p127
 | 128 => some p128
 | 129 => some p129
 | 130 => some p130
 | 131 => some p131
 | 137 => some p137
 | 138 => some p138
 | 139 => some p139
 | 140 => some p140
 | 141 => some p141
 | 162 => some p162
 | 167 => some p167
 | 168 => some p168
 | 169 => some p169
 | 170 => some p170
 | 171 => some p171
 | 173 => some p173
 | 201 => some p201
 | 206 => some p206
 | 211 => some p211
 | 214 => some p214
 | 215 => some p215
 | 216 => some p216
 | 217 => some p217
 | 218 => some p218
 | 219 => some p219
 | 230 => some p230
 | 231 => some p231
 | 237 => some p237
 | 238 => some p238
 | 239 => some p239
 | 240 => some p240
 | 241 => some p241
 | 242 => some p242
 | 246 => some p246
 | 248 => some p248
 | 249 => some p249
 | 250 => some p250
 | 251 => some p251
 | 252 => some p252
 | 253 => some p253
 | 254 => some p254
 | 255 => some p255
 | 256 => some p256
 | 257 => some p257
 | 258 => some p258
 | 261 => some p261
 | 262 => some p262
 | 268 => some p268
 | 272 => some p272
 | 273 => some p273
 | 274 => some p274
 | 276 => some p276
 | 281 => some p281
 | 282 => some p282
 | 283 => some p283
 | 284 => some p284
 | 285 => some p285
 | 331 => some p331
 | _ => none
def nuD : Nat → Nat
 | 14 => 27
 | 29 => 18
 | 31 => 38
 | 38 => 71
 | 39 => 105
 | 40 => 96
 | 43 => 100
 | 47 => 99
 | 54 => 51
 | 55 => 22
 | 56 => 35
 | 57 => 34
 | 63 => 47
 | 64 => 57
 | 65 => 49
 | 66 => 58
 | 68 => 33
 | 71 => 77
 | 72 => 91
 | 73 => 64
 | 74 => 45
 | 75 => 48
 | 76 => 66
 | 77 => 50
 | 79 => 69
 | 80 => 118
 | 81 => 76
 | 82 => 63
 | 83 => 56
 | 86 => 82
 | 87 => 102
 | 88 => 97
 | 89 => 125
 | 90 => 103
 | 91 => 95
 | 92 => 79
 | 94 => 20
 | 95 => 73
 | 96 => 53
 | 97 => 29
 | 106 => 75
 | 107 => 107
 | 108 => 108
 | 109 => 109
 | 110 => 110
 | 111 => 111
 | 112 => 112
 | 113 => 113
 | 114 => 80
 | 115 => 78
 | 116 => 93
 | 117 => 94
 | 118 => 98
 | 119 => 120
 | 120 => 119
 | 122 => 106
 | 127 => 121
 | 128 => 122
 | 129 => 117
 | 130 => 114
 | 131 => 115
 | 137 => 123
 | 138 => 124
 | 139 => 126
 | 140 => 127
 | 141 => 128
 | 162 => 25
 | 167 => 7
 | 168 => 30
 | 169 => 9
 | 170 => 10
 | 171 => 13
 | 173 => 39
 | 201 => 21
 | 206 => 52
 | 211 => 23
 | 214 => 14
 | 215 => 41
 | 216 => 42
 | 217 => 59
 | 218 => 60
 | 219 => 44
 | 230 => 65
 | 231 => 81
 | 237 => 54
 | 238 => 43
 | 239 => 32
 | 240 => 67
 | 241 => 68
 | 242 => 70
 | 246 => 92
 | 248 => 83
 | 249 => 84
 | 250 => 85
 | 251 => 86
 | 252 => 87
 | 253 => 88
 | 254 => 72
 | 255 => 31
 | 256 => 62
 | 257 => 101
 | 258 => 104
 | 261 => 61
 | 262 => 74
 | 268 => 5
 | 272 => 11
 | 273 => 12
 | 274 => 15
 | 276 => 19
 | 281 => 36
 | 282 => 37
 | 283 => 40
 | 284 => 46
 | 285 => 80
 | 331 => 16
 | _ => 0
theorem M14 : fnOk Tryz.prog (FD,nuD) tabs0 14 p14 = true := by kernel_rfl
theorem M29 : fnOk Tryz.prog (FD,nuD) tabs0 29 p29 = true := by kernel_rfl
theorem M31 : fnOk Tryz.prog (FD,nuD) tabs0 31 p31 = true := by kernel_rfl
theorem M38 : fnOk Tryz.prog (FD,nuD) tabs0 38 p38 = true := by kernel_rfl
theorem M39 : fnOk Tryz.prog (FD,nuD) tabs0 39 p39 = true := by kernel_rfl
theorem M40 : fnOk Tryz.prog (FD,nuD) tabs0 40 p40 = true := by kernel_rfl
theorem M43 : fnOk Tryz.prog (FD,nuD) tabs0 43 p43 = true := by kernel_rfl
theorem M47 : fnOk Tryz.prog (FD,nuD) tabs0 47 p47 = true := by kernel_rfl
theorem M54 : fnOk Tryz.prog (FD,nuD) tabs0 54 p54 = true := by kernel_rfl
theorem M55 : fnOk Tryz.prog (FD,nuD) tabs0 55 p55 = true := by kernel_rfl
theorem M56 : fnOk Tryz.prog (FD,nuD) tabs0 56 p56 = true := by kernel_rfl
theorem M57 : fnOk Tryz.prog (FD,nuD) tabs0 57 p57 = true := by kernel_rfl
theorem M63 : fnOk Tryz.prog (FD,nuD) tabs0 63 p63 = true := by kernel_rfl
theorem M64 : fnOk Tryz.prog (FD,nuD) tabs0 64 p64 = true := by kernel_rfl
theorem M65 : fnOk Tryz.prog (FD,nuD) tabs0 65 p65 = true := by kernel_rfl
theorem M66 : fnOk Tryz.prog (FD,nuD) tabs0 66 p66 = true := by kernel_rfl
theorem M68 : fnOk Tryz.prog (FD,nuD) tabs0 68 p68 = true := by kernel_rfl
theorem M71 : fnOk Tryz.prog (FD,nuD) tabs0 71 p71 = true := by kernel_rfl
theorem M72 : fnOk Tryz.prog (FD,nuD) tabs0 72 p72 = true := by kernel_rfl
theorem M73 : fnOk Tryz.prog (FD,nuD) tabs0 73 p73 = true := by kernel_rfl
theorem M74 : fnOk Tryz.prog (FD,nuD) tabs0 74 p74 = true := by kernel_rfl
theorem M75 : fnOk Tryz.prog (FD,nuD) tabs0 75 p75 = true := by kernel_rfl
theorem M76 : fnOk Tryz.prog (FD,nuD) tabs0 76 p76 = true := by kernel_rfl
theorem M77 : fnOk Tryz.prog (FD,nuD) tabs0 77 p77 = true := by kernel_rfl
theorem M79 : fnOk Tryz.prog (FD,nuD) tabs0 79 p79 = true := by kernel_rfl
theorem M80 : fnOk Tryz.prog (FD,nuD) tabs0 80 p80 = true := by kernel_rfl
theorem M81 : fnOk Tryz.prog (FD,nuD) tabs0 81 p81 = true := by kernel_rfl
theorem M82 : fnOk Tryz.prog (FD,nuD) tabs0 82 p82 = true := by kernel_rfl
theorem M83 : fnOk Tryz.prog (FD,nuD) tabs0 83 p83 = true := by kernel_rfl
theorem M86 : fnOk Tryz.prog (FD,nuD) tabs0 86 p86 = true := by kernel_rfl
theorem M87 : fnOk Tryz.prog (FD,nuD) tabs0 87 p87 = true := by kernel_rfl
theorem M88 : fnOk Tryz.prog (FD,nuD) tabs0 88 p88 = true := by kernel_rfl
theorem M89 : fnOk Tryz.prog (FD,nuD) tabs0 89 p89 = true := by kernel_rfl
theorem M90 : fnOk Tryz.prog (FD,nuD) tabs0 90 p90 = true := by kernel_rfl
theorem M91 : fnOk Tryz.prog (FD,nuD) tabs0 91 p91 = true := by kernel_rfl
theorem M92 : fnOk Tryz.prog (FD,nuD) tabs0 92 p92 = true := by kernel_rfl
theorem M94 : fnOk Tryz.prog (FD,nuD) tabs0 94 p94 = true := by kernel_rfl
theorem M95 : fnOk Tryz.prog (FD,nuD) tabs0 95 p95 = true := by kernel_rfl
theorem M96 : fnOk Tryz.prog (FD,nuD) tabs0 96 p96 = true := by kernel_rfl
theorem M97 : fnOk Tryz.prog (FD,nuD) tabs0 97 p97 = true := by kernel_rfl
theorem M106 : fnOk Tryz.prog (FD,nuD) tabs0 106 p106 = true := by kernel_rfl
theorem M107 : fnOk Tryz.prog (FD,nuD) tabs0 107 p107 = true := by kernel_rfl
theorem M108 : fnOk Tryz.prog (FD,nuD) tabs0 108 p108 = true := by kernel_rfl
theorem M109 : fnOk Tryz.prog (FD,nuD) tabs0 109 p109 = true := by kernel_rfl
theorem M110 : fnOk Tryz.prog (FD,nuD) tabs0 110 p110 = true := by kernel_rfl
theorem M111 : fnOk Tryz.prog (FD,nuD) tabs0 111 p111 = true := by kernel_rfl
theorem M112 : fnOk Tryz.prog (FD,nuD) tabs0 112 p112 = true := by kernel_rfl
theorem M113 : fnOk Tryz.prog (FD,nuD) tabs0 113 p113 = true := by kernel_rfl
theorem M114 : fnOk Tryz.prog (FD,nuD) tabs0 114 p114 = true := by kernel_rfl
theorem M115 : fnOk Tryz.prog (FD,nuD) tabs0 115 p115 = true := by kernel_rfl
theorem M116 : fnOk Tryz.prog (FD,nuD) tabs0 116 p116 = true := by kernel_rfl
theorem M117 : fnOk Tryz.prog (FD,nuD) tabs0 117 p117 = true := by kernel_rfl
theorem M118 : fnOk Tryz.prog (FD,nuD) tabs0 118 p118 = true := by kernel_rfl
theorem M119 : fnOk Tryz.prog (FD,nuD) tabs0 119 p119 = true := by kernel_rfl
theorem M120 : fnOk Tryz.prog (FD,nuD) tabs0 120 p120 = true := by kernel_rfl
theorem M122 : fnOk Tryz.prog (FD,nuD) tabs0 122 p122 = true := by kernel_rfl
theorem M127 : fnOk Tryz.prog (FD,nuD) tabs0 127 p127 = true := by kernel_rfl
theorem M128 : fnOk Tryz.prog (FD,nuD) tabs0 128 p128 = true := by kernel_rfl
theorem M129 : fnOk Tryz.prog (FD,nuD) tabs0 129 p129 = true := by kernel_rfl
theorem M130 : fnOk Tryz.prog (FD,nuD) tabs0 130 p130 = true := by kernel_rfl
theorem M131 : fnOk Tryz.prog (FD,nuD) tabs0 131 p131 = true := by kernel_rfl
theorem M137 : fnOk Tryz.prog (FD,nuD) tabs0 137 p137 = true := by kernel_rfl
theorem M138 : fnOk Tryz.prog (FD,nuD) tabs0 138 p138 = true := by kernel_rfl
theorem M139 : fnOk Tryz.prog (FD,nuD) tabs0 139 p139 = true := by kernel_rfl
theorem M140 : fnOk Tryz.prog (FD,nuD) tabs0 140 p140 = true := by kernel_rfl
theorem M141 : fnOk Tryz.prog (FD,nuD) tabs0 141 p141 = true := by kernel_rfl
theorem M162 : fnOk Tryz.prog (FD,nuD) tabs0 162 p162 = true := by kernel_rfl
theorem M167 : fnOk Tryz.prog (FD,nuD) tabs0 167 p167 = true := by kernel_rfl
theorem M168 : fnOk Tryz.prog (FD,nuD) tabs0 168 p168 = true := by kernel_rfl
theorem M169 : fnOk Tryz.prog (FD,nuD) tabs0 169 p169 = true := by kernel_rfl
theorem M170 : fnOk Tryz.prog (FD,nuD) tabs0 170 p170 = true := by kernel_rfl
theorem M171 : fnOk Tryz.prog (FD,nuD) tabs0 171 p171 = true := by kernel_rfl
theorem M173 : fnOk Tryz.prog (FD,nuD) tabs0 173 p173 = true := by kernel_rfl
theorem M201 : fnOk Tryz.prog (FD,nuD) tabs0 201 p201 = true := by kernel_rfl
theorem M206 : fnOk Tryz.prog (FD,nuD) tabs0 206 p206 = true := by kernel_rfl
theorem M211 : fnOk Tryz.prog (FD,nuD) tabs0 211 p211 = true := by kernel_rfl
theorem M214 : fnOk Tryz.prog (FD,nuD) tabs0 214 p214 = true := by kernel_rfl
theorem M215 : fnOk Tryz.prog (FD,nuD) tabs0 215 p215 = true := by kernel_rfl
theorem M216 : fnOk Tryz.prog (FD,nuD) tabs0 216 p216 = true := by kernel_rfl
theorem M217 : fnOk Tryz.prog (FD,nuD) tabs0 217 p217 = true := by kernel_rfl
theorem M218 : fnOk Tryz.prog (FD,nuD) tabs0 218 p218 = true := by kernel_rfl
theorem M219 : fnOk Tryz.prog (FD,nuD) tabs0 219 p219 = true := by kernel_rfl
theorem M230 : fnOk Tryz.prog (FD,nuD) tabs0 230 p230 = true := by kernel_rfl
theorem M231 : fnOk Tryz.prog (FD,nuD) tabs0 231 p231 = true := by kernel_rfl
theorem M237 : fnOk Tryz.prog (FD,nuD) tabs0 237 p237 = true := by kernel_rfl
theorem M238 : fnOk Tryz.prog (FD,nuD) tabs0 238 p238 = true := by kernel_rfl
theorem M239 : fnOk Tryz.prog (FD,nuD) tabs0 239 p239 = true := by kernel_rfl
theorem M240 : fnOk Tryz.prog (FD,nuD) tabs0 240 p240 = true := by kernel_rfl
theorem M241 : fnOk Tryz.prog (FD,nuD) tabs0 241 p241 = true := by kernel_rfl
theorem M242 : fnOk Tryz.prog (FD,nuD) tabs0 242 p242 = true := by kernel_rfl
theorem M246 : fnOk Tryz.prog (FD,nuD) tabs0 246 p246 = true := by kernel_rfl
theorem M248 : fnOk Tryz.prog (FD,nuD) tabs0 248 p248 = true := by kernel_rfl
theorem M249 : fnOk Tryz.prog (FD,nuD) tabs0 249 p249 = true := by kernel_rfl
theorem M250 : fnOk Tryz.prog (FD,nuD) tabs0 250 p250 = true := by kernel_rfl
theorem M251 : fnOk Tryz.prog (FD,nuD) tabs0 251 p251 = true := by kernel_rfl
theorem M252 : fnOk Tryz.prog (FD,nuD) tabs0 252 p252 = true := by kernel_rfl
theorem M253 : fnOk Tryz.prog (FD,nuD) tabs0 253 p253 = true := by kernel_rfl
theorem M254 : fnOk Tryz.prog (FD,nuD) tabs0 254 p254 = true := by kernel_rfl
theorem M255 : fnOk Tryz.prog (FD,nuD) tabs0 255 p255 = true := by kernel_rfl
theorem M256 : fnOk Tryz.prog (FD,nuD) tabs0 256 p256 = true := by kernel_rfl
theorem M257 : fnOk Tryz.prog (FD,nuD) tabs0 257 p257 = true := by kernel_rfl
theorem M258 : fnOk Tryz.prog (FD,nuD) tabs0 258 p258 = true := by kernel_rfl
theorem M261 : fnOk Tryz.prog (FD,nuD) tabs0 261 p261 = true := by kernel_rfl
theorem M262 : fnOk Tryz.prog (FD,nuD) tabs0 262 p262 = true := by kernel_rfl
theorem M268 : fnOk Tryz.prog (FD,nuD) tabs0 268 p268 = true := by kernel_rfl
theorem M272 : fnOk Tryz.prog (FD,nuD) tabs0 272 p272 = true := by kernel_rfl
theorem M273 : fnOk Tryz.prog (FD,nuD) tabs0 273 p273 = true := by kernel_rfl
theorem M274 : fnOk Tryz.prog (FD,nuD) tabs0 274 p274 = true := by kernel_rfl
theorem M276 : fnOk Tryz.prog (FD,nuD) tabs0 276 p276 = true := by kernel_rfl
theorem M281 : fnOk Tryz.prog (FD,nuD) tabs0 281 p281 = true := by kernel_rfl
theorem M282 : fnOk Tryz.prog (FD,nuD) tabs0 282 p282 = true := by kernel_rfl
theorem M283 : fnOk Tryz.prog (FD,nuD) tabs0 283 p283 = true := by kernel_rfl
theorem M284 : fnOk Tryz.prog (FD,nuD) tabs0 284 p284 = true := by kernel_rfl
theorem M285 : fnOk Tryz.prog (FD,nuD) tabs0 285 p285 = true := by kernel_rfl
theorem M331 : fnOk Tryz.prog (FD,nuD) tabs0 331 p331 = true := by kernel_rfl
theorem FD_ok (g : Nat) (p : PF) (h : FD g = some p) : fnOk Tryz.prog (FD,nuD) tabs0 g p = true ∧ FF g = some p := by
 unfold FD at h
 split at h
 ·cases h; exact ⟨M14,rfl⟩
 ·cases h; exact ⟨M29,rfl⟩
 ·cases h; exact ⟨M31,rfl⟩
 ·cases h; exact ⟨M38,rfl⟩
 ·cases h; exact ⟨M39,rfl⟩
 ·cases h; exact ⟨M40,rfl⟩
 ·cases h; exact ⟨M43,rfl⟩
 ·cases h; exact ⟨M47,rfl⟩
 ·cases h; exact ⟨M54,rfl⟩
 ·cases h; exact ⟨M55,rfl⟩
 ·cases h; exact ⟨M56,rfl⟩
 ·cases h; exact ⟨M57,rfl⟩
 ·cases h; exact ⟨M63,rfl⟩
 ·cases h; exact ⟨M64,rfl⟩
 ·cases h; exact ⟨M65,rfl⟩
 ·cases h; exact ⟨M66,rfl⟩
 ·cases h; exact ⟨M68,rfl⟩
 ·cases h; exact ⟨M71,rfl⟩
 ·cases h; exact ⟨M72,rfl⟩
 ·cases h; exact ⟨M73,rfl⟩
 ·cases h; exact ⟨M74,rfl⟩
 ·cases h; exact ⟨M75,rfl⟩
 ·cases h; exact ⟨M76,rfl⟩
 ·cases h; exact ⟨M77,rfl⟩
 ·cases h; exact ⟨M79,rfl⟩
 ·cases h; exact ⟨M80,rfl⟩
 ·cases h; exact ⟨M81,rfl⟩
 ·cases h; exact ⟨M82,rfl⟩
 ·cases h; exact ⟨M83,rfl⟩
 ·cases h; exact ⟨M86,rfl⟩
 ·cases h; exact ⟨M87,rfl⟩
 ·cases h; exact ⟨M88,rfl⟩
 ·cases h; exact ⟨M89,rfl⟩
 ·cases h; exact ⟨M90,rfl⟩
 ·cases h; exact ⟨M91,rfl⟩
 ·cases h; exact ⟨M92,rfl⟩
 ·cases h; exact ⟨M94,rfl⟩
 ·cases h; exact ⟨M95,rfl⟩
 ·cases h; exact ⟨M96,rfl⟩
 ·cases h; exact ⟨M97,rfl⟩
 ·cases h; exact ⟨M106,rfl⟩
 ·cases h; exact ⟨M107,rfl⟩
 ·cases h; exact ⟨M108,rfl⟩
 ·cases h; exact ⟨M109,rfl⟩
 ·cases h; exact ⟨M110,rfl⟩
 ·cases h; exact ⟨M111,rfl⟩
 ·cases h; exact ⟨M112,rfl⟩
 ·cases h; exact ⟨M113,rfl⟩
 ·cases h; exact ⟨M114,rfl⟩
 ·cases h; exact ⟨M115,rfl⟩
 ·cases h; exact ⟨M116,rfl⟩
 ·cases h; exact ⟨M117,rfl⟩
 ·cases h; exact ⟨M118,rfl⟩
 ·cases h; exact ⟨M119,rfl⟩
 ·cases h; exact ⟨M120,rfl⟩
 ·cases h; exact ⟨M122,rfl⟩
 ·cases h; exact ⟨M127,rfl⟩
 ·cases h; exact ⟨M128,rfl⟩
 ·cases h; exact ⟨M129,rfl⟩
 ·cases h; exact ⟨M130,rfl⟩
 ·cases h; exact ⟨M131,rfl⟩
 ·cases h; exact ⟨M137,rfl⟩
 ·cases h; exact ⟨M138,rfl⟩
 ·cases h; exact ⟨M139,rfl⟩
 ·cases h; exact ⟨M140,rfl⟩
 ·cases h; exact ⟨M141,rfl⟩
 ·cases h; exact ⟨M162,rfl⟩
 ·cases h; exact ⟨M167,rfl⟩
 ·cases h; exact ⟨M168,rfl⟩
 ·cases h; exact ⟨M169,rfl⟩
 ·cases h; exact ⟨M170,rfl⟩
 ·cases h; exact ⟨M171,rfl⟩
 ·cases h; exact ⟨M173,rfl⟩
 ·cases h; exact ⟨M201,rfl⟩
 ·cases h; exact ⟨M206,rfl⟩
 ·cases h; exact ⟨M211,rfl⟩
 ·cases h; exact ⟨M214,rfl⟩
 ·cases h; exact ⟨M215,rfl⟩
 ·cases h; exact ⟨M216,rfl⟩
 ·cases h; exact ⟨M217,rfl⟩
 ·cases h; exact ⟨M218,rfl⟩
 ·cases h; exact ⟨M219,rfl⟩
 ·cases h; exact ⟨M230,rfl⟩
 ·cases h; exact ⟨M231,rfl⟩
 ·cases h; exact ⟨M237,rfl⟩
 ·cases h; exact ⟨M238,rfl⟩
 ·cases h; exact ⟨M239,rfl⟩
 ·cases h; exact ⟨M240,rfl⟩
 ·cases h; exact ⟨M241,rfl⟩
 ·cases h; exact ⟨M242,rfl⟩
 ·cases h; exact ⟨M246,rfl⟩
 ·cases h; exact ⟨M248,rfl⟩
 ·cases h; exact ⟨M249,rfl⟩
 ·cases h; exact ⟨M250,rfl⟩
 ·cases h; exact ⟨M251,rfl⟩
 ·cases h; exact ⟨M252,rfl⟩
 ·cases h; exact ⟨M253,rfl⟩
 ·cases h; exact ⟨M254,rfl⟩
 ·cases h; exact ⟨M255,rfl⟩
 ·cases h; exact ⟨M256,rfl⟩
 ·cases h; exact ⟨M257,rfl⟩
 ·cases h; exact ⟨M258,rfl⟩
 ·cases h; exact ⟨M261,rfl⟩
 ·cases h; exact ⟨M262,rfl⟩
 ·cases h; exact ⟨M268,rfl⟩
 ·cases h; exact ⟨M272,rfl⟩
 ·cases h; exact ⟨M273,rfl⟩
 ·cases h; exact ⟨M274,rfl⟩
 ·cases h; exact ⟨M276,rfl⟩
 ·cases h; exact ⟨M281,rfl⟩
 ·cases h; exact ⟨M282,rfl⟩
 ·cases h; exact ⟨M283,rfl⟩
 ·cases h; exact ⟨M284,rfl⟩
 ·cases h; exact ⟨M285,rfl⟩
 ·cases h; exact ⟨M331,rfl⟩
 ·cases h
theorem followsD : Tryz.prog.follows .mixedOrders = true := by kernel_rfl
theorem callsD : CallsOk Tryz.prog (FD,nuD) tabs0 (R FF) := R_ok followsD FD_ok
end Go.Pe
namespace Go.Proofs.YtmdlpmhkpnobeaaGreatDoor.growBoosts
open Go.Pe
open Go.ChangeShapes Go.WideShapes Go.ChangeAt Go.RowKit
theorem own : ownKnob Tryz.prog.godebug = none := by kernel_rfl
theorem laidOut : laidOutB Tryz.prog = true := by kernel_rfl
def laid : List (String × DataW Unit) := [("math/bits.deBruijn64tab",Rows.laid_math_bits_deBruijn64tab)]
def tz : List Int := tab0.map fun | .i _ n => n | _ => 0
theorem tab_rv {W : World} (h : laidMetH Tryz.prog laid W) : Rv W (fun _ => False) Rho.none (.tp tab0 0) (.pointer (some ⟨0,0,none⟩)) := by
 rw [MakeChecks.laidMetH_plain _ _ _ (by kernel_rfl)] at h
 obtain ⟨ps,⟨g,t,cs,fuel,p,q,hg,ht,hv,hd,_,_⟩,_,_⟩ := h
 obtain rfl := Option.some.inj ((show Tryz.prog.globalNamed "math/bits.deBruijn64tab" = some 0 by kernel_rfl).symm.trans hg)
 obtain rfl := Option.some.inj ((show (Tryz.prog.globals[0]?).map (·.type) = some 166 by kernel_rfl).symm.trans ht)
 obtain ⟨xs,m,_,ex,_,hl,hel⟩ := DataW.trod_array Tryz.underlying166 hd
 have cE : Tryz.prog.cellsOf 5 = 1 := by kernel_rfl
 have hlen : tz.length = 64 := by decide
 have e0 : (xs.map (·.1)) = tz.map fun n => .lit (.int .u8 n) := (DataW.agg.inj (Prod.mk.inj ex).1).symm
 have cell : ∀ r,r < 64 → W.cell? ⟨0,r,none⟩ = some (.int .u8 (tz.getD r 0)) := by
  intro r hr
  have hE := hel r hr
  rw [cE,Nat.mul_one,zr (by omega)] at hE
  obtain ⟨z,e1,e2,_⟩ := DataW.trod_int Tryz.underlying5 hE
  have e4 : (xs.map (·.1))[r]? = (tz.map fun n => (DataW.lit (.int .u8 n) : DataW Unit))[r]? := by rw [e0]
  rw [List.getElem?_map,List.getElem?_map,zr (by omega : r < xs.length),zr (by omega : r < tz.length),e2] at e4
  have hz : z = tz.getD r 0 := by
   simp only [jj,Option.some.injEq,DataW.lit.injEq,Lit.int.injEq,true_and] at e4
   rw [e4,List.getD,zr (by omega : r < tz.length)]; rfl
  rw [World.var?_cell hg hv r,← hz]
  have : cs.toList[r]? = some (.int .u8 z) := by
   have h0 : ((cs.toList.drop r).take 1)[0]? = some (.int .u8 z) := by rw [e1]; rfl
   simpa using h0
  simpa using this
 have hb : 0 < W.heap.size := by
  have h0 := cell 0 (by decide)
  rcases jl 0 W.heap.size with h | h
  ·exact h
  ·unfold World.cell? at h0; rw [Array.getElem?_eq_none h] at h0; cases h0
 refine Rv.tp (o := 0) (base := 0) (fun c => .int .u8 (tz.getD c 0)) (fun h => h) hb (fun c hc => ?_) fun c hc => ?_
 ·rw [zX]; exact ⟨cell c hc,rfl⟩
 ·have e : tab0 = tz.map (AV.i .u8) := rfl
  have hc' : c < tz.length := by rw [hlen]; exact hc
  rw [e,zo,List.getElem?_map,zo,zr hc']
  exact Rv.i
set_option maxRecDepth 100000 in
theorem lifted (os : Os) (started : os.Started) (H : Type) (enc : TypeId × Value → H) :
  ReturnsInHanded {} Tryz.checked os 5 .any (fun w args => (Rows.growBoostsSpec.pre enc Tryz.prog Tryz.f5 Rows.growBoostsRow.domain false w args ∧ laidMetH Tryz.prog laid w) ∧ sizedMet enc Tryz.prog Tryz.f5 (OpenSpec.ofChange Rows.growBoostsSpec) false w args) (Rows.growBoostsSpec.post enc Tryz.prog Tryz.f5 false true false false) := by
 refine returnsInHanded_of_change_and (C := Tryz.checked) (X := fun w _ => laidMetH Tryz.prog laid w) (fun _ _ _ hh h => h.of_heap hh) own started (by kernel_rfl) Tryz.func5
  (ChangeSpec.witness_shaped (enc := enc) (C := Tryz.checked) (os := os) (X := fun w _ => laidMetH Tryz.prog laid w) false (World.laidAll Tryz.prog os laid) #[.agg #[.int .i64 0,.slice none 0 0,.slice none 0 0],.agg #[.int .i64 0,.int .i64 0],.int .i64 0,.agg #[.bool false,.slice none 0 0,.slice none 0 0]] 8 (World.laidAll_os _ _ _)
   (World.shaped_of_ZipB (by kernel_rfl) (by kernel_rfl)) (by kernel_rfl) (by kernel_rfl) (by kernel_rfl) (by rw [MakeChecks.laidMetH_plain _ _ _ (by kernel_rfl)]; exact laidMet_laidAll _ (by kernel_rfl) (by kernel_rfl))) ?_
 intro W base args ds gs before hval0 hW hcnd hsz0 hL _
 have hval : ∀ (j : Nat) t v,Tryz.f5.params[j]? = some t → args[j]? = some v → Value.okWide Tryz.prog W .any base t v := hval0
 have hW' := hW
 obtain ⟨p,q,hA0,hV,rfl,hfz,hnd⟩ := hW
 have hA : DataW.TrodAll enc Tryz.prog W 0 (fun _ => true) true Tryz.f5.params.toList args.toList ds p := hA0
 rw [Tryz.params5] at hA hval
 obtain ⟨v0,vs0,d0,ds0,pl0,ql0,hargs,rfl,rfl,h0,r0⟩ := trodAll_cons hA
 obtain ⟨v1,vs1,d1,ds1,pl1,ql1,rfl,rfl,rfl,h1,r1⟩ := trodAll_cons r0
 obtain ⟨v2,vs2,d2,ds2,pl2,ql2,rfl,rfl,rfl,h2,r2⟩ := trodAll_cons r1
 obtain ⟨v3,vs3,d3,ds3,pl3,ql3,rfl,rfl,rfl,h3,r3⟩ := trodAll_cons r2
 obtain ⟨rfl,rfl,rfl⟩ := trodAll_nil r3
 obtain rfl : args = #[v0,v1,v2,v3] := by cases args; simp_all
 obtain ⟨rfl,rfl⟩ := trodVars_none hV
 have lt0 : ∀ x ∈ pl0,x.block < W.heap.size := by obtain ⟨m,hm⟩ := h0; exact DataW.trod_lt m _ _ _ hm
 obtain ⟨acs0,la0,fa0,rv0⟩ := arg_rv (n := 12) (ks := kD) (hval 0 25 v0 rfl rfl) h0 (by kernel_rfl)
 rw [show isStr Tryz.prog 25 = true by kernel_rfl] at rv0
 obtain ⟨x0,rfl,ok0⟩ := open_D ⟨la0,fa0⟩
 have lt1 : ∀ x ∈ pl1,x.block < W.heap.size := by obtain ⟨m,hm⟩ := h1; exact DataW.trod_lt m _ _ _ hm
 obtain ⟨acs1,la1,fa1,rv1⟩ := arg_rv (n := 12) (ks := kR) (hval 1 27 v1 rfl rfl) h1 (by kernel_rfl)
 rw [show isStr Tryz.prog 27 = true by kernel_rfl] at rv1
 obtain ⟨x1,rfl,ok1⟩ := open_R ⟨la1,fa1⟩
 have lt2 : ∀ x ∈ pl2,x.block < W.heap.size := by obtain ⟨m,hm⟩ := h2; exact DataW.trod_lt m _ _ _ hm
 obtain ⟨acs2,la2,fa2,rv2⟩ := arg_rv (n := 12) (ks := [.int .i64]) (hval 2 3 v2 rfl rfl) h2 (by kernel_rfl)
 rw [show isStr Tryz.prog 3 = false by kernel_rfl] at rv2
 obtain ⟨y2,rfl,fy2⟩ := Fits.one ⟨la2,fa2⟩
 obtain ⟨x2,rfl,ok2⟩ := open_int fy2
 have lt3 : ∀ x ∈ pl3,x.block < W.heap.size := by obtain ⟨m,hm⟩ := h3; exact DataW.trod_lt m _ _ _ hm
 obtain ⟨acs3,la3,fa3,rv3⟩ := arg_rv (n := 12) (ks := kQ) (hval 3 34 v3 rfl rfl) h3 (by kernel_rfl)
 rw [show isStr Tryz.prog 34 = true by kernel_rfl] at rv3
 obtain ⟨x3,rfl,ok3⟩ := open_Q ⟨la3,fa3⟩
 clear hA0 hval0 hsz0
 have hlaw := law_GrowBoosts x0 ok0 x1 ok1 x2 ok2 x3 ok3
 have hx : ∀ j,j < 4 → Rv W (fun _ => False) Rho.none ([AV.agg (eD x0),AV.agg (eR x1),AV.i .i64 x2,AV.agg (eQ x3)].getD j .junk) (#[v0,v1,v2,v3].getD j undef) := by
  intro j hj
  match j,hj with
  | 0,_ => exact rv0
  | 1,_ => exact rv1
  | 2,_ => exact rv2
  | 3,_ => exact rv3
 refine (law_true (F := (FD,nuD)) callsD (g := 268) (p := p268) rfl rfl (by decide) (by kernel_rfl) hlaw (w := W) (vs := #[v0,v1,v2,v3]) (fun q hq => by obtain rfl := List.mem_singleton.1 hq; exact tab_rv hL) rfl hx).mono fun e W' ⟨he,bel⟩ => ?_
 subst he
 exact ⟨_,rfl,_,_,_,[],_,[],hW',trodAll_mk1 (shut_bool Tryz.underlying4 _),(trodAll_cons_mk (Below.trod laidOut (by kernel_rfl) (of_decide_eq_true (by kernel_rfl)) h0 bel lt0) (trodAll_cons_mk (Below.trod laidOut (by kernel_rfl) (of_decide_eq_true (by kernel_rfl)) h1 bel lt1) (trodAll_cons_mk (Below.trod laidOut (by kernel_rfl) (of_decide_eq_true (by kernel_rfl)) h2 bel lt2) (trodAll_cons_mk (Below.trod laidOut (by kernel_rfl) (of_decide_eq_true (by kernel_rfl)) h3 bel lt3) trodAll_mk0)))),rfl,bel.frame _,fun h => by cases h⟩
theorem over : Rows.growBoostsRow.holds Tryz.pinned (OpenSpec.ofChange Rows.growBoostsSpec) :=
 OpenClaim.holds_of_wide 5 Tryz.f5 rfl rfl rfl rfl rfl rfl rfl ⟨rfl,rfl,rfl,rfl,rfl⟩ rfl rfl rfl rfl rfl (by kernel_rfl) Tryz.func5 (by kernel_rfl)
  (of_decide_eq_true (by kernel_rfl)) (by unfold Func.isWrapper; first | (rw [if_pos (by decide +kernel)]; kernel_rfl) | (rw [if_neg (by decide +kernel)]; exact ⟨rfl,rfl⟩))
  (fun os started H enc _ => lifted os started H enc)
theorem proved : Rows.GrowBoostsCardSaid :=
 Claim7.holds_tied_plain_at .later [] [.data] true (true,"17efdc352ec3d0b200996e0ee9810004bcdd160069ab220330ace2cdfbaefea9") false over (fun _ h => by cases h) (by kernel_rfl) (fun _ h => by cases h) growBoosts_row_tie rfl ⟨rfl,rfl⟩ (by kernel_rfl) rfl
  (fun f fn hf hfn => by
   obtain rfl : f = 5 := Option.some.inj ((show Tryz.prog.funcNamed "dendron/dendronlaw26.GrowBoosts" = some 5 by kernel_rfl).symm.trans hf) |>.symm
   obtain rfl : fn = Tryz.f5 := (Option.some.inj (Tryz.func5.symm.trans hfn)).symm
   exact ⟨by kernel_rfl,fun j t ht => by
    rw [Tryz.params5] at ht
    have hm : t ∈ [25,27,3,34] := by simpa using Array.mem_of_getElem? ht
    have hall : ([25,27,3,34].all fun u => !Tryz.prog.wantsStandIn u) = true := by kernel_rfl
    exact (show Tryz.prog.wantsStandIn t = false by simpa using List.all_eq_true.1 hall t hm)⟩)
  (by kernel_rfl)
#print axioms proved
end Go.Proofs.YtmdlpmhkpnobeaaGreatDoor.growBoosts
namespace Go.Proofs.YtmdlpmhkpnobeaaGreatDoor
theorem growBoosts_holds : Rows.GrowBoostsCardSaid := growBoosts.proved
end Go.Proofs.YtmdlpmhkpnobeaaGreatDoor
