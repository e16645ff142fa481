/- Part 4 of the texts of ExtremeSwings: words, the machine's side of functions (written by a program), plain lemmas. -/
import Derived.Test.YtomicjfjbfkikaaDoorBExtremeSwings3
import Derived.KernelRfl
set_option linter.unusedVariables false
set_option linter.unusedSimpArgs false
open List renaming getD_eq_getElem?_getD → za, take_of_length_le → zc, getElem?_eq_getElem → ze, take_length → zh, length_map → zi, replicate → zj, length_take → zk, length_append → zl, length_replicate → zm, mem_cons_of_mem → zn, mem_cons_self → zp, length_cons → zr, length_set → zx, drop_zero → zz, mem_singleton → zB, drop_of_length_le → zG
open Int renaming natCast_nonneg → zb, mul_le_mul_of_nonneg_right → zq, ofNat_zero → zy, natAbs → zD
open Bool renaming and_eq_true → zd, false_eq_true → zA
open Option renaming map_eq_some_iff → zf, bind_eq_some_iff → zg, bind_some → zt
open Nat renaming le_refl → zo, mul_le_mul_right → zu, le_trans → zw, add_mul → zE, zero_add → zF
open Rat renaming num → zC
open Go
namespace Go.Pe
def FF : Nat → Option PF
 | 14 => some p14
 | 19 => some p19
 | 20 => some p20
 | 21 => some p21
 | 23 => some p23
 | 25 => some p25
 | 29 => some p29
 | 31 => some p31
 | 33 => some p33
 | 36 => some p36
 | 51 => some p51
 | 52 => some p52
 | 53 => some p53
 | 54 => some p54
 | 55 => some p55
 | 56 => some p56
 | 57 => some p57
 | 63 => some p63
 | 64 => some p64
 | 65 => some p65
 | 66 => some p66
 | 68 => some p68
 | 69 => some p69
 | 71 => some p71
 | 72 => some p72
 | 73 => some p73
 | 74 => some p74
 | 75 => some p75
 | 76 => some p76
 | 77 => some p77
 | 81 => some p81
 | 82 => some p82
 | 83 => some p83
 | 86 => some p86
 | 92 => some p92
 | 96 => some p96
 | 106 => some p106
 | 107 => some p107
 | 108 => some p108
 | 109 => some p109
 | 110 => some p110
 | 111 => some p111
 | 112 => some p112
 | 113 => some p113
 | 114 => some p114
 | 115 => some p115
 | 116 => some p116
 | 117 => some p117
 | 127 => some p127
 | 128 => some p128
 | 129 => some p129
 | 130 => some p130
 | 131 => some p131
 | 137 => some p137
 | 138 => some p138
 | 139 => some p139
 | 140 => some p140
 | 141 => some p141
 | 158 => some p158
 | 162 => some p162
 | 196 => some p196
 | 197 => some p197
 | 199 => some p199
 | 201 => some p201
 | 203 => some p203
 | 205 => some p205
 | 206 => some p206
 | 207 => some p207
 | 208 => some p208
 | 209 => some p209
 | 211 => some p211
 | 224 => some p224
 | 225 => some p225
 | 226 => some p226
 | 227 => some p227
 | 228 => some p228
 | 229 => some p229
 | 230 => some p230
 | 231 => some p231
 | 232 => some p232
 | 233 => some p233
 | 234 => some p234
 | 236 => some p236
 | 237 => some p237
 | 243 => some p243
 | 244 => some p244
 | 245 => some p245
 | 246 => some p246
 | 248 => some p248
 | 249 => some p249
 | 250 => some p250
 | 251 => some p251
 | 252 => some p252
 | 253 => some p253
 | 259 => some p259
 | 285 => some p285
 | 327 => some p327
 | 328 => some p328
 | 329 => some p329
 | 330 => some p330
 | _ => none
theorem F14 : FF 14 = some ⟨[(.tmp 4, 0)], [], c14⟩ := rfl
theorem F19 : FF 19 = some ⟨[(.cell 6 true 9, 0)], [], c19⟩ := rfl
theorem F20 : FF 20 = some ⟨[(.cell 6 true 9, 0)], [], c20⟩ := rfl
theorem F21 : FF 21 = some ⟨[(.cell 2 true 9, 0)], [], c21⟩ := rfl
theorem F23 : FF 23 = some ⟨[(.tmp 2, 0)], [], c23⟩ := rfl
theorem F29 : FF 29 = some ⟨[(.tmp 4, 0)], [], c29⟩ := rfl
theorem F31 : FF 31 = some ⟨[(.cell 4 true 3, 0)], [], c31⟩ := rfl
theorem F36 : FF 36 = some ⟨[(.tmp 6, 0), (.tmp 7, 0)], [], c36⟩ := rfl
theorem F51 : FF 51 = some ⟨[(.tmp 2, 0)], [], c51⟩ := rfl
theorem F52 : FF 52 = some ⟨[(.tmp 2, 0), (.tmp 3, 0)], [], c52⟩ := rfl
theorem F53 : FF 53 = some ⟨[(.cell 2 true 4, 0), (.tmp 3, 0)], [], c53⟩ := rfl
theorem F54 : FF 54 = some ⟨[(.cell 0 true 3, 0)], [], c54⟩ := rfl
theorem F55 : FF 55 = some ⟨[(.cell 4 true 3, 0)], [], c55⟩ := rfl
theorem F56 : FF 56 = some ⟨[(.cell 0 true 3, 0)], [], c56⟩ := rfl
theorem F57 : FF 57 = some ⟨[(.tmp 4, 0)], [], c57⟩ := rfl
theorem F63 : FF 63 = some ⟨[(.cell 2 true 3, 0)], [], c63⟩ := rfl
theorem F64 : FF 64 = some ⟨[(.tmp 4, 0)], [], c64⟩ := rfl
theorem F65 : FF 65 = some ⟨[(.cell 4 true 2, 0)], [], c65⟩ := rfl
theorem F66 : FF 66 = some ⟨[(.cell 2 true 2, 0)], [], c66⟩ := rfl
theorem F68 : FF 68 = some ⟨[(.cell 2 true 3, 0)], [], c68⟩ := rfl
theorem F69 : FF 69 = some ⟨[(.tmp 2, 0)], [], c69⟩ := rfl
theorem F71 : FF 71 = some ⟨[(.tmp 4, 0)], [], c71⟩ := rfl
theorem F72 : FF 72 = some ⟨[(.tmp 4, 0)], [], c72⟩ := rfl
theorem F73 : FF 73 = some ⟨[(.tmp 2, 0)], [], c73⟩ := rfl
theorem F74 : FF 74 = some ⟨[(.cell 2 true 3, 0)], [], c74⟩ := rfl
theorem F75 : FF 75 = some ⟨[(.cell 4 true 3, 0)], [], c75⟩ := rfl
theorem F76 : FF 76 = some ⟨[(.cell 4 true 2, 0)], [], c76⟩ := rfl
theorem F77 : FF 77 = some ⟨[(.tmp 4, 0)], [], c77⟩ := rfl
theorem F81 : FF 81 = some ⟨[(.cell 2 true 2, 0)], [], c81⟩ := rfl
theorem F82 : FF 82 = some ⟨[(.cell 2 true 2, 0)], [], c82⟩ := rfl
theorem F83 : FF 83 = some ⟨[(.tmp 2, 0)], [], c83⟩ := rfl
theorem F86 : FF 86 = some ⟨[(.cell 2 true 2, 0)], [], c86⟩ := rfl
theorem F92 : FF 92 = some ⟨[(.cell 4 true 2, 0)], [], c92⟩ := rfl
theorem F96 : FF 96 = some ⟨[(.cell 2 true 3, 0)], [], c96⟩ := rfl
theorem F106 : FF 106 = some ⟨[(.tmp 2, 0)], [], c106⟩ := rfl
theorem F107 : FF 107 = some ⟨[(.tmp 4, 0)], [], c107⟩ := rfl
theorem F108 : FF 108 = some ⟨[(.tmp 2, 0)], [], c108⟩ := rfl
theorem F109 : FF 109 = some ⟨[(.tmp 4, 0)], [], c109⟩ := rfl
theorem F110 : FF 110 = some ⟨[(.tmp 4, 0)], [], c110⟩ := rfl
theorem F111 : FF 111 = some ⟨[(.tmp 4, 1)], [], c111⟩ := rfl
theorem F112 : FF 112 = some ⟨[(.tmp 4, 0), (.tmp 5, 0)], [], c112⟩ := rfl
theorem F113 : FF 113 = some ⟨[(.tmp 4, 0)], [], c113⟩ := rfl
theorem F114 : FF 114 = some ⟨[(.tmp 2, 0)], [], c114⟩ := rfl
theorem F115 : FF 115 = some ⟨[(.tmp 4, 0), (.tmp 5, 0), (.tmp 6, 0)], [], c115⟩ := rfl
theorem F116 : FF 116 = some ⟨[(.tmp 4, 0)], [], c116⟩ := rfl
theorem F117 : FF 117 = some ⟨[(.tmp 4, 0), (.tmp 5, 0)], [], c117⟩ := rfl
theorem F127 : FF 127 = some ⟨[(.tmp 2, 0), (.tmp 3, 0)], [], c127⟩ := rfl
theorem F128 : FF 128 = some ⟨[(.tmp 2, 0)], [], c128⟩ := rfl
theorem F129 : FF 129 = some ⟨[(.tmp 4, 0)], [], c129⟩ := rfl
theorem F130 : FF 130 = some ⟨[(.tmp 4, 0), (.tmp 5, 0)], [], c130⟩ := rfl
theorem F131 : FF 131 = some ⟨[(.tmp 4, 0), (.tmp 5, 0)], [], c131⟩ := rfl
theorem F137 : FF 137 = some ⟨[(.tmp 2, 0)], [], c137⟩ := rfl
theorem F138 : FF 138 = some ⟨[(.tmp 4, 0)], [0], c138⟩ := rfl
theorem F139 : FF 139 = some ⟨[(.tmp 2, 0)], [], c139⟩ := rfl
theorem F140 : FF 140 = some ⟨[(.tmp 6, 0)], [0], c140⟩ := rfl
theorem F141 : FF 141 = some ⟨[], [0], c141⟩ := rfl
theorem F158 : FF 158 = some ⟨[(.tmp 8, 0)], [], c158⟩ := rfl
theorem F162 : FF 162 = some ⟨[(.tmp 2, 0)], [], c162⟩ := rfl
theorem F196 : FF 196 = some ⟨[(.cell 4 true 3, 0), (.tmp 5, 0), (.tmp 6, 0)], [], c196⟩ := rfl
theorem F197 : FF 197 = some ⟨[(.cell 4 true 3, 0), (.tmp 5, 0), (.tmp 6, 0)], [], c197⟩ := rfl
theorem F201 : FF 201 = some ⟨[(.cell 4 true 3, 0)], [], c201⟩ := rfl
theorem F203 : FF 203 = some ⟨[(.cell 4 true 2, 0), (.tmp 5, 0)], [], c203⟩ := rfl
theorem F205 : FF 205 = some ⟨[(.tmp 4, 0)], [], c205⟩ := rfl
theorem F206 : FF 206 = some ⟨[(.tmp 6, 0)], [], c206⟩ := rfl
theorem F207 : FF 207 = some ⟨[(.cell 6 true 3, 0), (.cell 7 true 3, 0), (.tmp 8, 0)], [], c207⟩ := rfl
theorem F208 : FF 208 = some ⟨[(.cell 4 true 3, 0), (.tmp 5, 0)], [], c208⟩ := rfl
theorem F209 : FF 209 = some ⟨[(.cell 2 true 2, 0)], [], c209⟩ := rfl
theorem F211 : FF 211 = some ⟨[(.tmp 2, 0)], [], c211⟩ := rfl
theorem F224 : FF 224 = some ⟨[(.tmp 4, 0)], [], c224⟩ := rfl
theorem F225 : FF 225 = some ⟨[(.cell 4 true 3, 0), (.tmp 5, 0)], [], c225⟩ := rfl
theorem F226 : FF 226 = some ⟨[(.tmp 2, 0)], [], c226⟩ := rfl
theorem F227 : FF 227 = some ⟨[(.tmp 4, 0)], [], c227⟩ := rfl
theorem F228 : FF 228 = some ⟨[(.tmp 4, 0), (.tmp 5, 0)], [], c228⟩ := rfl
theorem F229 : FF 229 = some ⟨[(.tmp 6, 0), (.tmp 7, 0)], [], c229⟩ := rfl
theorem F230 : FF 230 = some ⟨[(.tmp 4, 0)], [], c230⟩ := rfl
theorem F231 : FF 231 = some ⟨[(.tmp 4, 0)], [], c231⟩ := rfl
theorem F232 : FF 232 = some ⟨[(.tmp 4, 0)], [], c232⟩ := rfl
theorem F233 : FF 233 = some ⟨[(.cell 4 true 3, 0)], [], c233⟩ := rfl
theorem F234 : FF 234 = some ⟨[(.cell 2 true 3, 0)], [], c234⟩ := rfl
theorem F236 : FF 236 = some ⟨[(.cell 2 true 3, 0)], [], c236⟩ := rfl
theorem F237 : FF 237 = some ⟨[(.cell 2 true 4, 0)], [], c237⟩ := rfl
theorem F243 : FF 243 = some ⟨[], [0], c243⟩ := rfl
theorem F244 : FF 244 = some ⟨[(.tmp 4, 0)], [], c244⟩ := rfl
theorem F245 : FF 245 = some ⟨[(.tmp 4, 0)], [], c245⟩ := rfl
theorem F246 : FF 246 = some ⟨[(.tmp 4, 0)], [], c246⟩ := rfl
theorem F248 : FF 248 = some ⟨[(.tmp 2, 0)], [], c248⟩ := rfl
theorem F249 : FF 249 = some ⟨[(.tmp 4, 0), (.tmp 5, 0)], [], c249⟩ := rfl
theorem F250 : FF 250 = some ⟨[(.tmp 2, 0), (.tmp 3, 0)], [], c250⟩ := rfl
theorem F251 : FF 251 = some ⟨[(.tmp 2, 0), (.tmp 3, 0)], [], c251⟩ := rfl
theorem F252 : FF 252 = some ⟨[(.tmp 2, 0), (.tmp 3, 0)], [], c252⟩ := rfl
theorem F253 : FF 253 = some ⟨[(.cell 6 true 4, 0)], [], c253⟩ := rfl
theorem F259 : FF 259 = some ⟨[(.tmp 6, 0)], [], c259⟩ := rfl
theorem F285 : FF 285 = some ⟨[(.tmp 2, 1)], [0], c285⟩ := rfl
theorem F327 : FF 327 = some ⟨[(.tmp 2, 1)], [], c327⟩ := rfl
theorem F328 : FF 328 = some ⟨[(.tmp 6, 1), (.tmp 7, 0)], [], c328⟩ := rfl
theorem F329 : FF 329 = some ⟨[(.tmp 4, 1), (.tmp 5, 0)], [], c329⟩ := rfl
theorem F330 : FF 330 = some ⟨[(.tmp 6, 1), (.tmp 7, 0)], [], c330⟩ := rfl
theorem RB : type_of% (And.intro (rules FF) (And.intro (digR FF) (And.intro @nests (And.intro @unNs (And.intro @strs (And.intro (ites FF) (And.intro (nones FF) (And.intro @nones' (And.intro @merge (And.intro @upd_apply (And.intro @put_apply (And.intro @tells (And.intro @refs (And.intro @unpacks (And.intro @uns (And.intro @encs (And.intro @ats (And.intro @ops (And.intro @bins (And.intro @binb (And.intro @shs (And.intro @quos (And.intro @vals (And.intro @opts (And.intro @optites (And.intro @ints (And.intro @idxs (And.intro @stores (And.intro @cuts (And.intro @cutk (And.intro @makes (And.intro @boxes (And.intro @apps (And.intro @packs (And.intro @calls (And.intro @maps (And.intro @reps (And.intro @boolites (And.intro @boolnots (And.intro @lits (And.intro @celltells (And.intro @cellrefs (And.intro @boolq (And.intro @casts (And.intro @idxl (And.intro @idxas (And.intro @conses (And.intro @ldcs (And.intro @aliases (And.intro @frzs (And.intro @callos (And.intro @more (And.intro @more' (And.intro @sidxs (And.intro @lends (And.intro @ends (And.intro @endites (And.intro @endnones (And.intro @tellr (And.intro @listc (And.intro @true_and (And.intro @and_true (And.intro @false_and (And.intro @and_false (And.intro @decide_eq_true_eq (And.intro @Bool.false_eq_true (And.intro @Bool.not_true (And.intro @Bool.not_false (And.intro @Bool.true_eq_false (And.intro @Bool.and_eq_true (And.intro @Bool.or_eq_true (And.intro @Bool.or_true (And.intro @Bool.or_false (And.intro @Bool.and_true (And.intro @Bool.and_false (And.intro @Bool.true_and (And.intro @Bool.false_and (And.intro @Bool.true_or (And.intro @Bool.false_or (And.intro @decide_true (And.intro @decide_false (And.intro @Bool.not_eq_true (And.intro @Bool.not_eq_false (And.intro @not_false_eq_true (And.intro @or_false (And.intro @false_or (And.intro @or_true (And.intro @true_or (And.intro @Nat.sub_zero (And.intro @Nat.zero_add (And.intro @Nat.add_zero (And.intro @Int.toNat_natCast (And.intro @Int.toNat_zero (@Int.ofNat_zero)))))))))))))))))))))))))))))))))))))))))))))))))))))))))))))))))))))))))))))))))))))))))))))) := And.intro (rules FF) (And.intro (digR FF) (And.intro @nests (And.intro @unNs (And.intro @strs (And.intro (ites FF) (And.intro (nones FF) (And.intro @nones' (And.intro @merge (And.intro @upd_apply (And.intro @put_apply (And.intro @tells (And.intro @refs (And.intro @unpacks (And.intro @uns (And.intro @encs (And.intro @ats (And.intro @ops (And.intro @bins (And.intro @binb (And.intro @shs (And.intro @quos (And.intro @vals (And.intro @opts (And.intro @optites (And.intro @ints (And.intro @idxs (And.intro @stores (And.intro @cuts (And.intro @cutk (And.intro @makes (And.intro @boxes (And.intro @apps (And.intro @packs (And.intro @calls (And.intro @maps (And.intro @reps (And.intro @boolites (And.intro @boolnots (And.intro @lits (And.intro @celltells (And.intro @cellrefs (And.intro @boolq (And.intro @casts (And.intro @idxl (And.intro @idxas (And.intro @conses (And.intro @ldcs (And.intro @aliases (And.intro @frzs (And.intro @callos (And.intro @more (And.intro @more' (And.intro @sidxs (And.intro @lends (And.intro @ends (And.intro @endites (And.intro @endnones (And.intro @tellr (And.intro @listc (And.intro @true_and (And.intro @and_true (And.intro @false_and (And.intro @and_false (And.intro @decide_eq_true_eq (And.intro @Bool.false_eq_true (And.intro @Bool.not_true (And.intro @Bool.not_false (And.intro @Bool.true_eq_false (And.intro @Bool.and_eq_true (And.intro @Bool.or_eq_true (And.intro @Bool.or_true (And.intro @Bool.or_false (And.intro @Bool.and_true (And.intro @Bool.and_false (And.intro @Bool.true_and (And.intro @Bool.false_and (And.intro @Bool.true_or (And.intro @Bool.false_or (And.intro @decide_true (And.intro @decide_false (And.intro @Bool.not_eq_true (And.intro @Bool.not_eq_false (And.intro @not_false_eq_true (And.intro @or_false (And.intro @false_or (And.intro @or_true (And.intro @true_or (And.intro @Nat.sub_zero (And.intro @Nat.zero_add (And.intro @Nat.add_zero (And.intro @Int.toNat_natCast (And.intro @Int.toNat_zero (@Int.ofNat_zero)))))))))))))))))))))))))))))))))))))))))))))))))))))))))))))))))))))))))))))))))))))))))))))
theorem RL : type_of% (And.intro @List.not_mem_nil.{0} (And.intro @List.mem_cons.{0} (And.intro @List.map_nil.{0,0} (And.intro @List.flatMap_nil.{0,0} (And.intro @List.append_nil.{0} (And.intro @List.nil_append.{0} (And.intro @List.drop_zero.{0} (And.intro @List.length_set.{0} (And.intro @List.length_replicate.{0} (And.intro @List.length_append.{0} (And.intro @List.take_length.{0} (And.intro @List.take_zero.{0} (And.intro @List.drop_length.{0} (And.intro @Option.isNone_none.{0} (And.intro @ite_self.{1} (And.intro @ite_self.{0} (And.intro @eq_self.{1} (And.intro @if_true.{1} (And.intro @if_false.{1} (And.intro @if_true.{0} @if_false.{0})))))))))))))))))))) := (And.intro @List.not_mem_nil.{0} (And.intro @List.mem_cons.{0} (And.intro @List.map_nil.{0,0} (And.intro @List.flatMap_nil.{0,0} (And.intro @List.append_nil.{0} (And.intro @List.nil_append.{0} (And.intro @List.drop_zero.{0} (And.intro @List.length_set.{0} (And.intro @List.length_replicate.{0} (And.intro @List.length_append.{0} (And.intro @List.take_length.{0} (And.intro @List.take_zero.{0} (And.intro @List.drop_length.{0} (And.intro @Option.isNone_none.{0} (And.intro @ite_self.{1} (And.intro @ite_self.{0} (And.intro @eq_self.{1} (And.intro @if_true.{1} (And.intro @if_false.{1} (And.intro @if_true.{0} @if_false.{0}))))))))))))))))))))
theorem take_set_len (l : List Int) (i : Nat) (v : Int) : (l.set i v).take l.length = l.set i v := by rw [zc]; rw [zx]; exact zo _
theorem take_app_len {α : Type} (l m : List α) : (l ++ m).take (l.length + m.length) = l ++ m := by rw [← zl, zh]
theorem take_snoc_len {α : Type} (l : List α) (x : α) : (l ++ [x]).take (l.length + 1) = l ++ [x] := take_app_len l [x]
theorem take_rep_len {α : Type} (n : Nat) (v : α) : (zj n v).take n = zj n v := by rw [zc]; rw [zm]; exact zo _
theorem take_set2_len (l : List Int) (i j : Nat) (v x : Int) : ((l.set i v).set j x).take l.length = (l.set i v).set j x := by rw [zc]; rw [zx, zx]; exact zo _
theorem top_take {l : List Int} {n : Nat} (hn : n < l.length) (h : l.getD n 0 ≠ 0) : Dg.Top (l.take (n + 1)) := by
 intro _
 have hl : (l.take (n + 1)).length = n + 1 := by rw [zk]; omega
 rw [hl, Nat.add_sub_cancel]
 rw [za, List.getElem?_take_of_lt (by omega), ← za]
 exact h
theorem trim_l0 {l : List Int} (hd : Dg.Dig 4294967296 l) (hl : l.length ≤ 35184372088832) : ∀ n : Nat, n ≤ l.length →
  ∃ m, m ≤ n ∧ l.take m = D (Dg.vl 4294967296 (l.take n)).toNat ∧ LP FF [(0, 0), (3, 0)] [(0, 0), (3, 0)] b114_0 [(AV.l 1 (List.map u l)), (AV.i .i64 ((n : Int)))] = some (.exit 0, [(AV.l 1 (List.map u l)), (AV.i .i64 ((m : Int)))]) := by
 intro n
 induction n with
 | zero =>
  intro _
  refine ⟨0, zo _, by simp only [List.take_zero, Dg.vl, Int.toNat_zero, D_zero], ?_⟩
  rw [LP_go FF b114_0.eq_1]
  simp only [RB, RL, un, St.none, Nat.reduceEqDiff, Nat.reduceAdd, Nat.reduceMul, Nat.reduceMod, Nat.reduceLeDiff, Nat.reduceLT, Int.reduceLT, Int.reduceLE, Int.reduceEq, Int.reduceToNat, Int.reduceSub, Int.reduceNeg, Int.reduceAdd, ↓reduceIte, reduceCtorEq, pack, pid, parN, lid, chkK, apartV, Heap.none]
 | succ n ih =>
  intro hn
  have e : IntKind.i64.wrap (((n + 1 : Nat) : Int) - 1) = (n : Int) := by rw [w64 (by omega) (by omega)]; omega
  rw [LP_go FF b114_0.eq_1]
  simp only [RB, RL, un, St.none, Nat.reduceEqDiff, Nat.reduceAdd, Nat.reduceMul, Nat.reduceMod, Nat.reduceLeDiff, Nat.reduceLT, Int.reduceLT, Int.reduceLE, Int.reduceEq, Int.reduceToNat, Int.reduceSub, Int.reduceNeg, Int.reduceAdd, ↓reduceIte, reduceCtorEq, pack, pid, parN, lid, chkK, apartV, Heap.none, e]
  rw [if_pos (by omega)]
  by_cases h : l.getD n 0 = 0
  ·obtain ⟨m, hm, h1, h2⟩ := ih (by omega)
   refine ⟨m, by omega, ?_, ?_⟩
   ·rw [h1, Dg.vl_take_succ, h]; simp
   ·rw [if_pos (by omega)]; exact h2
  ·refine ⟨n + 1, zo _, ?_, ?_⟩
   ·have hdd := hd.take (n + 1)
    refine D_of hdd (top_take (by omega) h) ?_
    have := Dg.vl_nonneg hdd (by decide)
    omega
   ·rw [if_neg (by omega)]
theorem trim_c {l : List Int} (hd : Dg.Dig 4294967296 l) (hl : l.length ≤ 35184372088832) {n : Nat} (hv : Dg.vl 4294967296 l = n) : R FF 114 [(AV.l 1 (List.map u l))] = some (AV.l 1 (List.map u (D n))) := by
 obtain ⟨m, hm, h1, h2⟩ := trim_l0 hd hl l.length (zo _)
 rw [zh, hv, Int.toNat_natCast] at h1
 rw [R_go FF F114 c114.eq_1]
 simp only [RB, RL, un, St.none, Nat.reduceEqDiff, Nat.reduceAdd, Nat.reduceMul, Nat.reduceMod, Nat.reduceLeDiff, Nat.reduceLT, Int.reduceLT, Int.reduceLE, Int.reduceEq, Int.reduceToNat, Int.reduceSub, Int.reduceNeg, Int.reduceAdd, ↓reduceIte, reduceCtorEq, pack, pid, parN, lid, chkK, apartV, Heap.none, h2]
 by_cases h0 : (m : Int) = 0
 ·rw [if_pos h0, ← h1, show m = 0 by omega]; rfl
 ·rw [if_neg h0, if_pos (by omega), h1]
theorem set_take {l : List Int} {n : Nat} (v : Int) (h : n < l.length) : (l.set n v).take (n + 1) = l.take n ++ [v] := by
 rw [List.take_add_one, List.take_set_of_le (zo _), List.getElem?_set_self h, Option.toList_some]
theorem map_take_succ {l : List Int} {n : Nat} (f : Int → Int) (h : n < l.length) : (l.map f).take (n + 1) = (l.map f).take n ++ [f (l.getD n 0)] := by
 rw [List.take_add_one, List.getElem?_map, ze h, za, ze h]; rfl
theorem U_get {l : List Int} (h : U l) (n : Nat) : 0 ≤ l.getD n 0 ∧ l.getD n 0 ≤ 18446744073709551615 := by
 rw [za]
 rcases Nat.lt_or_ge n l.length with hn | hn
 ·rw [ze hn]; exact h _ (List.getElem_mem hn)
 ·rw [List.getElem?_eq_none hn]; simp
theorem clean_l0 {l : List Int} (hu : U l) (hl : l.length ≤ 35184372088832) : ∀ (d i : Nat) (out : List Int), i + d = l.length → out.length = l.length → out.take i = (l.map (· % 4294967296)).take i →
  LP FF [(3, 1), (9, 0), (10, 0), (11, 0)] [(3, 0)] b106_0 [.own true 1 (out.map u), (AV.l 1 (List.map u l)), (AV.i .i64 ((l.length : Int))), (AV.i .i64 ((i : Int)))] = some (.exit 0, [(AV.l 1 (List.map u (l.map (· % 4294967296))))]) := by
 intro d
 induction d with
 | zero =>
  intro i out hi ho ht
  have e : out = l.map (· % 4294967296) := by
   rw [zc (by omega), zc (by rw [zi]; omega)] at ht
   exact ht
  rw [LP_go FF b106_0.eq_1]
  simp only [RB, RL, un, St.none, Nat.reduceEqDiff, Nat.reduceAdd, Nat.reduceMul, Nat.reduceMod, Nat.reduceLeDiff, Nat.reduceLT, Int.reduceLT, Int.reduceLE, Int.reduceEq, Int.reduceToNat, Int.reduceSub, Int.reduceNeg, Int.reduceAdd, ↓reduceIte, reduceCtorEq, pack, pid, parN, lid, chkK, apartV, Heap.none]
  simp (disch := omega) only [if_pos, if_neg, zh, take_set_len, take_set2_len, take_rep_len, take_snoc_len, take_app_len]
  rw [e]
 | succ d ih =>
  intro i out hi ho ht
  have hg := U_get hu i
  have e : IntKind.i64.wrap ((i : Int) + 1) = ((i + 1 : Nat) : Int) := by rw [w64 (by omega) (by omega)]; omega
  rw [LP_go FF b106_0.eq_1]
  simp only [RB, RL, un, St.none, Nat.reduceEqDiff, Nat.reduceAdd, Nat.reduceMul, Nat.reduceMod, Nat.reduceLeDiff, Nat.reduceLT, Int.reduceLT, Int.reduceLE, Int.reduceEq, Int.reduceToNat, Int.reduceSub, Int.reduceNeg, Int.reduceAdd, ↓reduceIte, reduceCtorEq, pack, pid, parN, lid, chkK, apartV, Heap.none, e, and32 hg.1 hg.2]
  simp (disch := omega) only [if_pos, if_neg, zh, take_set_len, take_set2_len, take_rep_len, take_snoc_len, take_app_len]
  refine ih (i + 1) _ (by omega) (by rw [zx]; exact ho) ?_
  rw [set_take _ (by omega), map_take_succ _ (by omega), ht]
theorem clean_c {l : List Int} (hu : U l) (hl : l.length ≤ 35184372088832) : R FF 106 [(AV.l 1 (List.map u l))] = some (AV.l 1 (List.map u (D (W l)))) := by
 have h0 := clean_l0 hu hl l.length 0 (zj l.length 0) (by omega) (by rw [zm]) (by simp)
 have h1 := trim_c (map_dig l) (by rw [zi]; exact hl) (W_map l).symm
 rw [R_go FF F106 c106.eq_1]
 simp only [RB, RL, un, St.none, Nat.reduceEqDiff, Nat.reduceAdd, Nat.reduceMul, Nat.reduceMod, Nat.reduceLeDiff, Nat.reduceLT, Int.reduceLT, Int.reduceLE, Int.reduceEq, Int.reduceToNat, Int.reduceSub, Int.reduceNeg, Int.reduceAdd, ↓reduceIte, reduceCtorEq, pack, pid, parN, lid, chkK, apartV, Heap.none, h1]
 rw [zy] at h0
 simp (disch := omega) only [if_pos, if_neg, zh, take_set_len, take_set2_len, take_rep_len, take_snoc_len, take_app_len, h0]
 simp only [RB, RL, un, St.none, Nat.reduceEqDiff, Nat.reduceAdd, Nat.reduceMul, Nat.reduceMod, Nat.reduceLeDiff, Nat.reduceLT, Int.reduceLT, Int.reduceLE, Int.reduceEq, Int.reduceToNat, Int.reduceSub, Int.reduceNeg, Int.reduceAdd, ↓reduceIte, reduceCtorEq, pack, pid, parN, lid, chkK, apartV, Heap.none, h1]
theorem order_l0 {a b : List Int} (ha : Dg.Dig 4294967296 a) (hb : Dg.Dig 4294967296 b) (hl : a.length = b.length) (hs : a.length ≤ 35184372088832) : ∀ n : Nat, n ≤ a.length →
  ∃ ex x, LP FF [(0, 0), (1, 0), (5, 0)] [(4, 0)] b110_0 [(AV.l 1 (List.map u a)), (AV.l 1 (List.map u b)), (AV.i .i64 ((n : Int) - 1))] = some (ex, [x]) ∧ (ex = .ret ∧ x = (AV.i .i64 (cmp (Dg.vl 4294967296 (a.take n)) (Dg.vl 4294967296 (b.take n)))) ∨ ex = .exit 1 ∧ cmp (Dg.vl 4294967296 (a.take n)) (Dg.vl 4294967296 (b.take n)) = 0) := by
 intro n
 induction n with
 | zero =>
  intro _
  rw [LP_go FF b110_0.eq_1]
  simp only [RB, RL, un, St.none, Nat.reduceEqDiff, Nat.reduceAdd, Nat.reduceMul, Nat.reduceMod, Nat.reduceLeDiff, Nat.reduceLT, Int.reduceLT, Int.reduceLE, Int.reduceEq, Int.reduceToNat, Int.reduceSub, Int.reduceNeg, Int.reduceAdd, ↓reduceIte, reduceCtorEq, pack, pid, parN, lid, chkK, apartV, Heap.none]
  exact ⟨_, _, rfl, .inr ⟨rfl, rfl⟩⟩
 | succ n ih =>
  intro hn
  have e0 : ((n + 1 : Nat) : Int) - 1 = (n : Int) := by omega
  have e : IntKind.i64.wrap ((n : Int) - 1) = (n : Int) - 1 := w64 (by omega) (by omega)
  have ga := ha.getD (by decide) n
  have gb := hb.getD (by decide) n
  have a0 := Dg.vl_nonneg (ha.take n) (by decide)
  have b0 := Dg.vl_nonneg (hb.take n) (by decide)
  have a1 := Dg.vl_lt (ha.take n) (by decide)
  have b1 := Dg.vl_lt (hb.take n) (by decide)
  have hla : (a.take n).length = n := by rw [zk]; omega
  have hlb : (b.take n).length = n := by rw [zk]; omega
  rw [hla] at a1
  rw [hlb] at b1
  rw [LP_go FF b110_0.eq_1]
  simp only [RB, RL, un, St.none, Nat.reduceEqDiff, Nat.reduceAdd, Nat.reduceMul, Nat.reduceMod, Nat.reduceLeDiff, Nat.reduceLT, Int.reduceLT, Int.reduceLE, Int.reduceEq, Int.reduceToNat, Int.reduceSub, Int.reduceNeg, Int.reduceAdd, ↓reduceIte, reduceCtorEq, pack, pid, parN, lid, chkK, apartV, Heap.none, e0, e]
  simp (disch := omega) only [if_pos, if_neg, zh, take_set_len, take_set2_len, take_rep_len, take_snoc_len, take_app_len]
  rw [Dg.vl_take_succ, Dg.vl_take_succ]
  by_cases h1 : a.getD n 0 < b.getD n 0
  ·rw [if_pos h1]
   exact ⟨_, _, rfl, .inl ⟨rfl, by rw [cmp_lt (cmp_top (B := 0) a0 a1 b0 b1 h1)]⟩⟩
  ·rw [if_neg h1]
   by_cases h2 : b.getD n 0 < a.getD n 0
   ·rw [if_pos h2]
    exact ⟨_, _, rfl, .inl ⟨rfl, by rw [cmp_gt (cmp_top (B := 0) b0 b1 a0 a1 h2)]⟩⟩
   ·rw [if_neg h2]
    have h3 : a.getD n 0 = b.getD n 0 := by omega
    have h4 : cmp (Dg.vl 4294967296 (a.take n) + a.getD n 0 * 4294967296 ^ n) (Dg.vl 4294967296 (b.take n) + b.getD n 0 * 4294967296 ^ n) = cmp (Dg.vl 4294967296 (a.take n)) (Dg.vl 4294967296 (b.take n)) := by
     rw [h3]
     unfold cmp
     split <;> split <;> (try split) <;> (try split) <;> first | rfl | omega
    rw [h4]
    exact ih (by omega)
theorem order_c {m n : Nat} (hm : L m ≤ 35184372088832) (hn : L n ≤ 35184372088832) : R FF 110 [(AV.l 1 (List.map u (D m))), (AV.l 1 (List.map u (D n)))] = some (AV.i .i64 (cmp m n)) := by
 have hm' : (D m).length ≤ 35184372088832 := hm
 have hn' : (D n).length ≤ 35184372088832 := hn
 have e : IntKind.i64.wrap (((D m).length : Int) - 1) = ((D m).length : Int) - 1 := w64 (by omega) (by omega)
 rw [R_go FF F110 c110.eq_1]
 simp only [RB, RL, un, St.none, Nat.reduceEqDiff, Nat.reduceAdd, Nat.reduceMul, Nat.reduceMod, Nat.reduceLeDiff, Nat.reduceLT, Int.reduceLT, Int.reduceLE, Int.reduceEq, Int.reduceToNat, Int.reduceSub, Int.reduceNeg, Int.reduceAdd, ↓reduceIte, reduceCtorEq, pack, pid, parN, lid, chkK, apartV, Heap.none, e]
 by_cases h1 : ((D m).length : Int) < ((D n).length : Int)
 ·rw [if_pos h1, cmp_lt (by have := len_lt_imp _ (by decide) (show (D m).length < (D n).length by omega); omega)]
 ·rw [if_neg h1]
  by_cases h2 : ((D n).length : Int) < ((D m).length : Int)
  ·rw [if_pos h2, cmp_gt (by have := len_lt_imp _ (by decide) (show (D n).length < (D m).length by omega); omega)]
  ·rw [if_neg h2]
   obtain ⟨ex, x, h3, h4⟩ := order_l0 (D_dig m) (D_dig n) (by omega) hm' (D m).length (zo _)
   rw [zh, show (D m).length = (D n).length by omega, zh, D_vl, D_vl] at h4
   rcases h4 with ⟨rfl, rfl⟩ | ⟨rfl, h4⟩
   ·simp only [RB, RL, un, St.none, Nat.reduceEqDiff, Nat.reduceAdd, Nat.reduceMul, Nat.reduceMod, Nat.reduceLeDiff, Nat.reduceLT, Int.reduceLT, Int.reduceLE, Int.reduceEq, Int.reduceToNat, Int.reduceSub, Int.reduceNeg, Int.reduceAdd, ↓reduceIte, reduceCtorEq, pack, pid, parN, lid, chkK, apartV, Heap.none, h3]
   ·simp only [RB, RL, un, St.none, Nat.reduceEqDiff, Nat.reduceAdd, Nat.reduceMul, Nat.reduceMod, Nat.reduceLeDiff, Nat.reduceLT, Int.reduceLT, Int.reduceLE, Int.reduceEq, Int.reduceToNat, Int.reduceSub, Int.reduceNeg, Int.reduceAdd, ↓reduceIte, reduceCtorEq, pack, pid, parN, lid, chkK, apartV, Heap.none, h3]
    rw [h4]
theorem limb_c (l : List Int) (i : Nat) : R FF 129 [(AV.l 1 (List.map u l)), (AV.i .i64 ((i : Int)))] = some (AV.i .u64 (l.getD i 0)) := by
 rw [R_go FF F129 c129.eq_1]
 simp only [RB, RL, un, St.none, Nat.reduceEqDiff, Nat.reduceAdd, Nat.reduceMul, Nat.reduceMod, Nat.reduceLeDiff, Nat.reduceLT, Int.reduceLT, Int.reduceLE, Int.reduceEq, Int.reduceToNat, Int.reduceSub, Int.reduceNeg, Int.reduceAdd, ↓reduceIte, reduceCtorEq, pack, pid, parN, lid, chkK, apartV, Heap.none]
 by_cases h : (i : Int) < (l.length : Int)
 ·simp (disch := omega) only [if_pos, if_neg, zh, take_set_len, take_set2_len, take_rep_len, take_snoc_len, take_app_len]
 ·rw [za, List.getElem?_eq_none (by omega)]
  simp (disch := omega) only [if_pos, if_neg, zh, take_set_len, take_set2_len, take_rep_len, take_snoc_len, take_app_len]
  rfl
theorem cmp_c {a b : List Int} (ha : U a) (hb : U b) (hla : a.length ≤ 35184372088832) (hlb : b.length ≤ 35184372088832) : R FF 72 [(AV.l 1 (List.map u a)), (AV.l 1 (List.map u b))] = some (AV.i .i64 (cmp (W a) (W b))) := by
 rw [R_go FF F72 c72.eq_1]
 simp only [RB, RL, un, St.none, Nat.reduceEqDiff, Nat.reduceAdd, Nat.reduceMul, Nat.reduceMod, Nat.reduceLeDiff, Nat.reduceLT, Int.reduceLT, Int.reduceLE, Int.reduceEq, Int.reduceToNat, Int.reduceSub, Int.reduceNeg, Int.reduceAdd, ↓reduceIte, reduceCtorEq, pack, pid, parN, lid, chkK, apartV, Heap.none, clean_c ha hla, clean_c hb hlb, order_c (zw (L_W a) hla) (zw (L_W b) hlb)]
theorem shr32 {x : Int} (h0 : 0 ≤ x) : x.fdiv (2 ^ Nat.min 32 IntKind.u64.bits) = x / 4294967296 := by
 rw [show Nat.min 32 IntKind.u64.bits = 32 by decide, Int.fdiv_eq_ediv_of_nonneg _ (by decide)]; rfl
theorem of_c {x : Int} (h0 : 0 ≤ x) (h1 : x ≤ 18446744073709551615) {n : Nat} (hn : (n : Int) = x) : R FF 73 [(AV.i .u64 x)] = some (AV.l 1 (List.map u (D n))) := by
 have h2 := trim_c (l := [x % 4294967296, x / 4294967296]) (n := n) (Dg.Dig.cons (by omega) (by omega) (Dg.Dig.cons (by omega) (by omega) Dg.Dig.nil)) (by simp) (by simp only [Dg.vl]; omega)
 simp only [List.map_cons, List.map_nil] at h2
 rw [R_go FF F73 c73.eq_1]
 simp only [RB, RL, un, St.none, Nat.reduceEqDiff, Nat.reduceAdd, Nat.reduceMul, Nat.reduceMod, Nat.reduceLeDiff, Nat.reduceLT, Int.reduceLT, Int.reduceLE, Int.reduceEq, Int.reduceToNat, Int.reduceSub, Int.reduceNeg, Int.reduceAdd, ↓reduceIte, reduceCtorEq, pack, pid, parN, lid, chkK, apartV, Heap.none, and32 h0 h1, shr32 h0, h2]
theorem D_small {n : Nat} (h0 : n ≠ 0) (h : n < 4294967296) : D n = [(n : Int)] := by
 unfold D
 rw [Dg.dg_succ (by decide) h0, Nat.mod_eq_of_lt h, Nat.div_eq_of_lt h, Dg.dg_zero]
theorem D_two {n : Nat} (h0 : 4294967296 ≤ n) (h : n < 18446744073709551616) : D n = [((n % 4294967296 : Nat) : Int), ((n / 4294967296 : Nat) : Int)] := by
 unfold D
 rw [Dg.dg_succ (by decide) (by omega)]
 have : Dg.dg 4294967296 (n / 4294967296) = D (n / 4294967296) := rfl
 rw [this, D_small (by omega) (by omega)]
theorem D_more {n : Nat} (h : 18446744073709551616 ≤ n) : 3 ≤ (D n).length := by
 unfold D
 rw [Dg.dg_succ (by decide) (by omega), Dg.dg_succ (by decide) (by omega), Dg.dg_succ (by decide) (by omega)]
 simp
theorem mul_bound {x y M : Int} (hx0 : 0 ≤ x) (hx : x ≤ M) (hy0 : 0 ≤ y) (hy : y ≤ M) : 0 ≤ x * y ∧ x * y ≤ M * M :=
 ⟨Int.mul_nonneg hx0 hy0, Int.le_trans (zq hx hy0) (Int.mul_le_mul_of_nonneg_left hy (by omega))⟩
theorem tdiv_pos {x y : Int} (h : 0 ≤ x) : Int.tdiv x y = x / y := Int.tdiv_eq_ediv_of_nonneg h
theorem tmod_pos {x y : Int} (h : 0 ≤ x) : Int.tmod x y = x % y := Int.tmod_eq_emod_of_nonneg h
theorem mul_step {B : Int} {out : List Int} {p : Nat} {c x S t : Int} (hlt : p < out.length) (hv : Dg.vl B out + c * B ^ p = S) (ht : t = c + out.getD p 0 + x) :
  Dg.vl B (out.set p (t % B)) + (t / B) * B ^ (p + 1) = S + x * B ^ p := by
 rw [Dg.vl_set _ _ _ _ hlt, Int.pow_succ]
 have h := Int.mul_ediv_add_emod t B
 have e : (t % B - out.getD p 0) * B ^ p + t / B * (B ^ p * B) = (t - out.getD p 0) * B ^ p := by
  have : t % B = t - B * (t / B) := by omega
  rw [this]
  grind
 rw [Int.add_assoc, e, ht, ← hv]
 grind
theorem zero_set {out : List Int} {p q : Nat} (v : Int) (h : p < q) (hz : ∀ j, q ≤ j → out.getD j 0 = 0) : ∀ j, q ≤ j → (out.set p v).getD j 0 = 0 := by
 intro j hj
 rw [za, List.getElem?_set_ne (by omega), ← za]
 exact hz j hj
theorem getD_beyond {l : List Int} {i : Nat} (h : l.length ≤ i) : l.getD i 0 = 0 := by rw [za, List.getElem?_eq_none h]; rfl
theorem vl_snoc (B : Int) (l : List Int) (x : Int) : Dg.vl B (l ++ [x]) = Dg.vl B l + x * B ^ l.length := by
 rw [Dg.vl_append]
 simp [Dg.vl]
 exact Int.mul_comm _ _
theorem getD_rep (n j : Nat) : (zj n (0 : Int)).getD j 0 = 0 := by
 rw [za]
 by_cases h : j < n <;> simp [List.getElem?_replicate, h]
theorem mul_l1 {a b : List Int} (ha : Dg.Dig 4294967296 a) (hb : Dg.Dig 4294967296 b) (hl : a.length + b.length ≤ 35184372088832) {i : Nat} (hi : i < a.length) (out : List Int) : ∀ (e m : Nat) (o : List Int) (c : Int), m + e = b.length → o.length = a.length + b.length → Dg.Dig 4294967296 o → 0 ≤ c → c ≤ 4294967295 → (∀ j, i + b.length ≤ j → o.getD j 0 = 0) →
  Dg.vl 4294967296 o + c * 4294967296 ^ (i + m) = Dg.vl 4294967296 out + a.getD i 0 * Dg.vl 4294967296 (b.take m) * 4294967296 ^ i →
  ∃ o' c', LP FF [(5, 1), (1, 0), (6, 0), (7, 0), (8, 0), (21, 0), (22, 0), (23, 0), (28, 0), (29, 0), (30, 0)] [(5, 1), (1, 0), (6, 0), (8, 0), (21, 0), (22, 0), (23, 0)] b77_1 [.own true 1 (o.map u), (AV.l 1 (List.map u b)), (AV.i .i64 ((i : Int))), (AV.i .u64 (a.getD i 0)), (AV.i .u64 c), (AV.l 1 (List.map u a)), (AV.i .i64 ((a.length : Int))), (AV.i .i64 ((i : Int))), (AV.l 1 (List.map u b)), (AV.i .i64 ((b.length : Int))), (AV.i .i64 ((m : Int)))] = some (.exit 2, [.own true 1 (o'.map u), (AV.l 1 (List.map u b)), (AV.i .i64 ((i : Int))), (AV.i .u64 (c')), (AV.l 1 (List.map u a)), (AV.i .i64 ((a.length : Int))), (AV.i .i64 ((i : Int)))]) ∧
   o'.length = a.length + b.length ∧ Dg.Dig 4294967296 o' ∧ 0 ≤ c' ∧ c' ≤ 4294967295 ∧ (∀ j, i + b.length ≤ j → o'.getD j 0 = 0) ∧ Dg.vl 4294967296 o' + c' * 4294967296 ^ (i + b.length) = Dg.vl 4294967296 out + a.getD i 0 * Dg.vl 4294967296 b * 4294967296 ^ i := by
 have gi := ha.getD (by decide) i
 intro e
 induction e with
 | zero =>
  intro m o c hm ho2 hd2 hc0 hc1 hz2 hv2
  have hmb : m = b.length := by omega
  subst hmb
  rw [zh] at hv2
  refine ⟨o, c, ?_, ho2, hd2, hc0, hc1, hz2, hv2⟩
  rw [LP_go FF b77_1.eq_1]
  simp only [RB, RL, un, St.none, Nat.reduceEqDiff, Nat.reduceAdd, Nat.reduceMul, Nat.reduceMod, Nat.reduceLeDiff, Nat.reduceLT, Int.reduceLT, Int.reduceLE, Int.reduceEq, Int.reduceToNat, Int.reduceSub, Int.reduceNeg, Int.reduceAdd, ↓reduceIte, reduceCtorEq, pack, pid, parN, lid, chkK, apartV, Heap.none]
  simp (disch := omega) only [if_pos, if_neg, zh, take_set_len, take_set2_len, take_rep_len, take_snoc_len, take_app_len]
 | succ e ih2 =>
  intro m o c hm ho2 hd2 hc0 hc1 hz2 hv2
  have gm := hb.getD (by decide) m
  have go := hd2.getD (by decide) (i + m)
  have hx := mul_bound gi.1 (show a.getD i 0 ≤ 4294967295 by omega) gm.1 (show b.getD m 0 ≤ 4294967295 by omega)
  have ht : c + (o.getD (i + m) 0 + a.getD i 0 * b.getD m 0) = c + o.getD (i + m) 0 + a.getD i 0 * b.getD m 0 := by omega
  have h9 := ih2 (m + 1) (o.set (i + m) ((c + (o.getD (i + m) 0 + a.getD i 0 * b.getD m 0)) % 4294967296)) ((c + (o.getD (i + m) 0 + a.getD i 0 * b.getD m 0)) / 4294967296) (by omega) (by rw [zx]; exact ho2) (hd2.set _ (by omega) (by omega)) (by omega) (by omega) (zero_set _ (by omega) hz2) (by
   have := mul_step (B := 4294967296) (x := a.getD i 0 * b.getD m 0) (show i + m < o.length by omega) hv2 (t := c + o.getD (i + m) 0 + a.getD i 0 * b.getD m 0) rfl
   rw [ht, show i + (m + 1) = i + m + 1 by omega, this, Dg.vl_take_succ, Int.pow_add]
   grind)
  have e1 : IntKind.i64.wrap ((i : Int) + (m : Int)) = ((i + m : Nat) : Int) := w64add (by omega)
  have e2 : IntKind.i64.wrap ((m : Int) + 1) = ((m + 1 : Nat) : Int) := w64succ (by omega)
  have e3 : IntKind.u64.wrap (a.getD i 0 * b.getD m 0) = a.getD i 0 * b.getD m 0 := u64w (by omega) (by omega)
  have e4 : IntKind.u64.wrap (o.getD (i + m) 0 + a.getD i 0 * b.getD m 0) = o.getD (i + m) 0 + a.getD i 0 * b.getD m 0 := u64w (by omega) (by omega)
  have e5 : IntKind.u64.wrap (c + (o.getD (i + m) 0 + a.getD i 0 * b.getD m 0)) = c + (o.getD (i + m) 0 + a.getD i 0 * b.getD m 0) := u64w (by omega) (by omega)
  have e6 := and32 (x := c + (o.getD (i + m) 0 + a.getD i 0 * b.getD m 0)) (by omega) (by omega)
  have e7 := shr32 (x := c + (o.getD (i + m) 0 + a.getD i 0 * b.getD m 0)) (by omega)
  rw [LP_go FF b77_1.eq_1]
  simp only [RB, RL, un, St.none, Nat.reduceEqDiff, Nat.reduceAdd, Nat.reduceMul, Nat.reduceMod, Nat.reduceLeDiff, Nat.reduceLT, Int.reduceLT, Int.reduceLE, Int.reduceEq, Int.reduceToNat, Int.reduceSub, Int.reduceNeg, Int.reduceAdd, ↓reduceIte, reduceCtorEq, pack, pid, parN, lid, chkK, apartV, Heap.none, e1, e2, e3, e4, e5, e6, e7]
  simp (disch := omega) only [if_pos, if_neg, zh, take_set_len, take_set2_len, take_rep_len, take_snoc_len, take_app_len]
  exact h9
theorem mul_l0 {a b : List Int} (ha : Dg.Dig 4294967296 a) (hb : Dg.Dig 4294967296 b) (hl : a.length + b.length ≤ 35184372088832) :
  ∀ (d i : Nat) (out : List Int), i + d = a.length → out.length = a.length + b.length → Dg.Dig 4294967296 out → Dg.vl 4294967296 out = Dg.vl 4294967296 (a.take i) * Dg.vl 4294967296 b → (∀ j, i + b.length ≤ j → out.getD j 0 = 0) →
  ∃ o, LP FF [(5, 1), (1, 0), (21, 0), (22, 0), (23, 0)] [(5, 0)] b77_0 [.own true 1 (out.map u), (AV.l 1 (List.map u b)), (AV.l 1 (List.map u a)), (AV.i .i64 ((a.length : Int))), (AV.i .i64 ((i : Int)))] = some (.exit 0, [(AV.l 1 (List.map u o))]) ∧ Dg.Dig 4294967296 o ∧ o.length = a.length + b.length ∧ Dg.vl 4294967296 o = Dg.vl 4294967296 a * Dg.vl 4294967296 b := by
 intro d
 induction d with
 | zero =>
  intro i out hi ho hd hv hz
  rw [zc (by omega)] at hv
  refine ⟨out, ?_, hd, ho, hv⟩
  rw [LP_go FF b77_0.eq_1]
  simp only [RB, RL, un, St.none, Nat.reduceEqDiff, Nat.reduceAdd, Nat.reduceMul, Nat.reduceMod, Nat.reduceLeDiff, Nat.reduceLT, Int.reduceLT, Int.reduceLE, Int.reduceEq, Int.reduceToNat, Int.reduceSub, Int.reduceNeg, Int.reduceAdd, ↓reduceIte, reduceCtorEq, pack, pid, parN, lid, chkK, apartV, Heap.none]
  simp (disch := omega) only [if_pos, if_neg, zh, take_set_len, take_set2_len, take_rep_len, take_snoc_len, take_app_len]
 | succ d ih =>
  intro i out hi ho hd hv hz
  obtain ⟨o, c, h1, h2, h3, h4, h5, h6, h7⟩ := mul_l1 ha hb hl (show i < a.length by omega) out b.length 0 out 0 (by omega) ho hd (by omega) (by omega) hz (by simp [Dg.vl])
  have h9 := ih (i + 1) (o.set (i + b.length) c) (by omega) (by rw [zx]; exact h2) (h3.set _ h4 (by omega)) (by
   rw [Dg.vl_set _ _ _ _ (by omega), h6 _ (zo _), Int.sub_zero, h7, hv, Dg.vl_take_succ]
   grind) (fun j hj => zero_set c (q := i + b.length + 1) (by omega) (fun j hj => h6 j (by omega)) j (by omega))
  have e1 : IntKind.i64.wrap ((i : Int) + (b.length : Int)) = ((i + b.length : Nat) : Int) := w64add (by omega)
  have e2 : IntKind.i64.wrap ((i : Int) + 1) = ((i + 1 : Nat) : Int) := w64succ (by omega)
  rw [zy] at h1
  rw [LP_go FF b77_0.eq_1]
  simp only [RB, RL, un, St.none, Nat.reduceEqDiff, Nat.reduceAdd, Nat.reduceMul, Nat.reduceMod, Nat.reduceLeDiff, Nat.reduceLT, Int.reduceLT, Int.reduceLE, Int.reduceEq, Int.reduceToNat, Int.reduceSub, Int.reduceNeg, Int.reduceAdd, ↓reduceIte, reduceCtorEq, pack, pid, parN, lid, chkK, apartV, Heap.none]
  simp (disch := omega) only [if_pos, if_neg, zh, take_set_len, take_set2_len, take_rep_len, take_snoc_len, take_app_len, h1]
  simp only [RB, RL, un, St.none, Nat.reduceEqDiff, Nat.reduceAdd, Nat.reduceMul, Nat.reduceMod, Nat.reduceLeDiff, Nat.reduceLT, Int.reduceLT, Int.reduceLE, Int.reduceEq, Int.reduceToNat, Int.reduceSub, Int.reduceNeg, Int.reduceAdd, ↓reduceIte, reduceCtorEq, pack, pid, parN, lid, chkK, apartV, Heap.none, e1, e2]
  simp (disch := omega) only [if_pos, if_neg, zh, take_set_len, take_set2_len, take_rep_len, take_snoc_len, take_app_len]
  exact h9
theorem mul_c {a b : List Int} (ha : U a) (hb : U b) (hl : a.length + b.length ≤ 35184372088832) : R FF 77 [(AV.l 1 (List.map u a)), (AV.l 1 (List.map u b))] = some (AV.l 1 (List.map u (D (W a * W b)))) := by
 have g1 : (D (W a)).length ≤ a.length := L_W a
 have g2 : (D (W b)).length ≤ b.length := L_W b
 obtain ⟨o, h1, h2, h3, h4⟩ := mul_l0 (D_dig (W a)) (D_dig (W b)) (by omega) (D (W a)).length 0 (zj ((D (W a)).length + (D (W b)).length) 0) (by omega) (by rw [zm]) (Dg.Dig.replicate (by decide) _) (by rw [Dg.vl_replicate_zero]; simp [Dg.vl]) (fun j _ => getD_rep _ j)
 have h5 := trim_c h2 (by omega) (n := W a * W b) (by rw [h4, D_vl, D_vl]; exact (Int.natCast_mul _ _).symm)
 have e1 : IntKind.i64.wrap (((D (W a)).length : Int) + ((D (W b)).length : Int)) = (((D (W a)).length + (D (W b)).length : Nat) : Int) := w64add (by omega)
 rw [zy] at h1
 rw [R_go FF F77 c77.eq_1]
 simp only [RB, RL, un, St.none, Nat.reduceEqDiff, Nat.reduceAdd, Nat.reduceMul, Nat.reduceMod, Nat.reduceLeDiff, Nat.reduceLT, Int.reduceLT, Int.reduceLE, Int.reduceEq, Int.reduceToNat, Int.reduceSub, Int.reduceNeg, Int.reduceAdd, ↓reduceIte, reduceCtorEq, pack, pid, parN, lid, chkK, apartV, Heap.none, clean_c ha (by omega), clean_c hb (by omega), e1]
 simp (disch := omega) only [if_pos, if_neg, zh, take_set_len, take_set2_len, take_rep_len, take_snoc_len, take_app_len, h1]
 simp only [RB, RL, un, St.none, Nat.reduceEqDiff, Nat.reduceAdd, Nat.reduceMul, Nat.reduceMod, Nat.reduceLeDiff, Nat.reduceLT, Int.reduceLT, Int.reduceLE, Int.reduceEq, Int.reduceToNat, Int.reduceSub, Int.reduceNeg, Int.reduceAdd, ↓reduceIte, reduceCtorEq, pack, pid, parN, lid, chkK, apartV, Heap.none, h5]
theorem mul_D {m n : Nat} (hl : L m + L n ≤ 35184372088832) : R FF 77 [(AV.l 1 (List.map u (D m))), (AV.l 1 (List.map u (D n)))] = some (AV.l 1 (List.map u (D (m * n)))) := by
 have := mul_c (D_U m) (D_U n) hl
 rwa [W_D, W_D] at this
theorem add_l0 {a b : List Int} (ha : Dg.Dig 4294967296 a) (hb : Dg.Dig 4294967296 b) (hl : max a.length b.length + 1 ≤ 35184372088832) {n : Nat} (hn : Dg.vl 4294967296 a + Dg.vl 4294967296 b = n) :
  ∀ (d i : Nat) (out : List Int) (c : Int), i + d = max a.length b.length + 1 → out.length = max a.length b.length + 1 → Dg.Dig 4294967296 out → 0 ≤ c → c ≤ 1 → (i = max a.length b.length + 1 → c = 0) → Dg.vl 4294967296 (out.take i) + c * 4294967296 ^ i = Dg.vl 4294967296 (a.take i) + Dg.vl 4294967296 (b.take i) →
  ∃ o, LP FF [(5, 1), (0, 0), (1, 0), (6, 0), (20, 0), (21, 0)] [(5, 0)] b116_0 [.own true 1 (out.map u), (AV.l 1 (List.map u a)), (AV.l 1 (List.map u b)), (AV.i .u64 c), (AV.i .i64 ((out.length : Int))), (AV.i .i64 ((i : Int)))] = some (.exit 0, [(AV.l 1 (List.map u o))]) ∧ Dg.Dig 4294967296 o ∧ o.length = max a.length b.length + 1 ∧ Dg.vl 4294967296 o = n := by
 intro d
 induction d with
 | zero =>
  intro i out c hi ho hd hc0 hc1 hc9 hv
  have hc := hc9 (by omega)
  subst hc
  refine ⟨out, ?_, hd, ho, ?_⟩
  ·rw [LP_go FF b116_0.eq_1]
   simp only [RB, RL, un, St.none, Nat.reduceEqDiff, Nat.reduceAdd, Nat.reduceMul, Nat.reduceMod, Nat.reduceLeDiff, Nat.reduceLT, Int.reduceLT, Int.reduceLE, Int.reduceEq, Int.reduceToNat, Int.reduceSub, Int.reduceNeg, Int.reduceAdd, ↓reduceIte, reduceCtorEq, pack, pid, parN, lid, chkK, apartV, Heap.none]
   simp (disch := omega) only [if_pos, if_neg, zh, take_set_len, take_set2_len, take_rep_len, take_snoc_len, take_app_len]
  rw [zc (by omega), zc (by omega), zc (by omega), hn] at hv
  simpa using hv
 | succ d ih =>
  intro i out c hi ho hd hc0 hc1 hc9 hv
  have ga := ha.getD (by decide) i
  have gb := hb.getD (by decide) i
  have e1 : IntKind.u64.wrap (a.getD i 0 + b.getD i 0) = a.getD i 0 + b.getD i 0 := u64w (by omega) (by omega)
  have e2 : IntKind.u64.wrap (c + (a.getD i 0 + b.getD i 0)) = c + (a.getD i 0 + b.getD i 0) := u64w (by omega) (by omega)
  have e3 : IntKind.i64.wrap ((i : Int) + 1) = ((i + 1 : Nat) : Int) := w64succ (by omega)
  have e6 := and32 (x := c + (a.getD i 0 + b.getD i 0)) (by omega) (by omega)
  have e7 := shr32 (x := c + (a.getD i 0 + b.getD i 0)) (by omega)
  have h9 := ih (i + 1) (out.set i ((c + (a.getD i 0 + b.getD i 0)) % 4294967296)) ((c + (a.getD i 0 + b.getD i 0)) / 4294967296) (by omega) (by rw [zx]; exact ho) (hd.set _ (by omega) (by omega)) (by omega) (by omega) (by
   intro h9
   have h1 := getD_beyond (l := a) (i := i) (by omega)
   have h2 := getD_beyond (l := b) (i := i) (by omega)
   rw [h1, h2]
   omega) (by
   rw [set_take _ (by omega), vl_snoc, zk, Nat.min_eq_left (by omega), Dg.vl_take_succ, Dg.vl_take_succ, Int.pow_succ]
   have h := Int.mul_ediv_add_emod (c + (a.getD i 0 + b.getD i 0)) 4294967296
   grind)
  rw [zx] at h9
  rw [LP_go FF b116_0.eq_1]
  simp only [RB, RL, un, St.none, Nat.reduceEqDiff, Nat.reduceAdd, Nat.reduceMul, Nat.reduceMod, Nat.reduceLeDiff, Nat.reduceLT, Int.reduceLT, Int.reduceLE, Int.reduceEq, Int.reduceToNat, Int.reduceSub, Int.reduceNeg, Int.reduceAdd, ↓reduceIte, reduceCtorEq, pack, pid, parN, lid, chkK, apartV, Heap.none, limb_c, e1, e2, e3, e6, e7]
  simp (disch := omega) only [if_pos, if_neg, zh, take_set_len, take_set2_len, take_rep_len, take_snoc_len, take_app_len]
  exact h9
theorem add_c {a b : List Int} (ha : U a) (hb : U b) (hla : a.length + 1 ≤ 35184372088832) (hlb : b.length + 1 ≤ 35184372088832) : R FF 116 [(AV.l 1 (List.map u a)), (AV.l 1 (List.map u b))] = some (AV.l 1 (List.map u (D (W a + W b)))) := by
 have g1 : (D (W a)).length ≤ a.length := L_W a
 have g2 : (D (W b)).length ≤ b.length := L_W b
 obtain ⟨o, h1, h2, h3, h4⟩ := add_l0 (D_dig (W a)) (D_dig (W b)) (by omega) (n := W a + W b) (by rw [D_vl, D_vl]; omega) (max (D (W a)).length (D (W b)).length + 1) 0 (zj (max (D (W a)).length (D (W b)).length + 1) 0) 0 (by omega) (by rw [zm]) (Dg.Dig.replicate (by decide) _) (by omega) (by omega) (by omega) (by simp [Dg.vl])
 have h5 := trim_c h2 (by omega) h4
 have e0 : (if ((D (W b)).length : Int) > ((D (W a)).length : Int) then ((D (W b)).length : Int) else ((D (W a)).length : Int)) = ((max (D (W a)).length (D (W b)).length : Nat) : Int) := by split <;> omega
 have e1 : IntKind.i64.wrap (((max (D (W a)).length (D (W b)).length : Nat) : Int) + 1) = ((max (D (W a)).length (D (W b)).length + 1 : Nat) : Int) := w64succ (by omega)
 rw [zy, zm] at h1
 rw [R_go FF F116 c116.eq_1]
 simp only [RB, RL, un, St.none, Nat.reduceEqDiff, Nat.reduceAdd, Nat.reduceMul, Nat.reduceMod, Nat.reduceLeDiff, Nat.reduceLT, Int.reduceLT, Int.reduceLE, Int.reduceEq, Int.reduceToNat, Int.reduceSub, Int.reduceNeg, Int.reduceAdd, ↓reduceIte, reduceCtorEq, pack, pid, parN, lid, chkK, apartV, Heap.none, clean_c ha (by omega), clean_c hb (by omega), e0, e1]
 simp (disch := omega) only [if_pos, if_neg, zh, take_set_len, take_set2_len, take_rep_len, take_snoc_len, take_app_len, h1]
 simp only [RB, RL, un, St.none, Nat.reduceEqDiff, Nat.reduceAdd, Nat.reduceMul, Nat.reduceMod, Nat.reduceLeDiff, Nat.reduceLT, Int.reduceLT, Int.reduceLE, Int.reduceEq, Int.reduceToNat, Int.reduceSub, Int.reduceNeg, Int.reduceAdd, ↓reduceIte, reduceCtorEq, pack, pid, parN, lid, chkK, apartV, Heap.none, h5]
theorem add_D {m n : Nat} (hm : L m + 1 ≤ 35184372088832) (hn : L n + 1 ≤ 35184372088832) : R FF 116 [(AV.l 1 (List.map u (D m))), (AV.l 1 (List.map u (D n)))] = some (AV.l 1 (List.map u (D (m + n)))) := by
 have := add_c (D_U m) (D_U n) hm hn
 rwa [W_D, W_D] at this
theorem nminus_l0 {a b : List Int} (ha : Dg.Dig 4294967296 a) (hb : Dg.Dig 4294967296 b) (hl : a.length ≤ 35184372088832) (hlb : b.length ≤ a.length) {n : Nat} (hn : Dg.vl 4294967296 a - Dg.vl 4294967296 b = n) :
  ∀ (d i : Nat) (out : List Int) (c : Int), i + d = a.length → out.length = a.length → Dg.Dig 4294967296 out → 0 ≤ c → c ≤ 1 → Dg.vl 4294967296 (out.take i) - c * 4294967296 ^ i = Dg.vl 4294967296 (a.take i) - Dg.vl 4294967296 (b.take i) →
  ∃ o, LP FF [(5, 1), (0, 0), (1, 0), (6, 0), (13, 0), (14, 0)] [(5, 0)] b113_0 [.own true 1 (out.map u), (AV.l 1 (List.map u a)), (AV.l 1 (List.map u b)), (AV.i .u64 c), (AV.i .i64 ((out.length : Int))), (AV.i .i64 ((i : Int)))] = some (.exit 0, [(AV.l 1 (List.map u o))]) ∧ Dg.Dig 4294967296 o ∧ o.length = a.length ∧ Dg.vl 4294967296 o = n := by
 intro d
 induction d with
 | zero =>
  intro i out c hi ho hd hc0 hc1 hv
  refine ⟨out, ?_, hd, ho, ?_⟩
  ·rw [LP_go FF b113_0.eq_1]
   simp only [RB, RL, un, St.none, Nat.reduceEqDiff, Nat.reduceAdd, Nat.reduceMul, Nat.reduceMod, Nat.reduceLeDiff, Nat.reduceLT, Int.reduceLT, Int.reduceLE, Int.reduceEq, Int.reduceToNat, Int.reduceSub, Int.reduceNeg, Int.reduceAdd, ↓reduceIte, reduceCtorEq, pack, pid, parN, lid, chkK, apartV, Heap.none]
   simp (disch := omega) only [if_pos, if_neg, zh, take_set_len, take_set2_len, take_rep_len, take_snoc_len, take_app_len]
  rw [zc (by omega), zc (by omega), zc (by omega), hn] at hv
  have h1 := Dg.vl_lt hd (by decide)
  rw [ho, show a.length = i by omega] at h1
  rcases (show c = 0 ∨ c = 1 by omega) with h | h
  ·subst h
   simpa using hv
  ·subst h
   omega
 | succ d ih =>
  intro i out c hi ho hd hc0 hc1 hv
  have ga := ha.getD (by decide) i
  have gb := hb.getD (by decide) i
  have e0 : IntKind.u64.wrap (4294967296 + a.getD i 0) = 4294967296 + a.getD i 0 := u64w (by omega) (by omega)
  have e1 : IntKind.u64.wrap (4294967296 + a.getD i 0 - b.getD i 0) = 4294967296 + a.getD i 0 - b.getD i 0 := u64w (by omega) (by omega)
  have e2 : IntKind.u64.wrap (4294967296 + a.getD i 0 - b.getD i 0 - c) = 4294967296 + a.getD i 0 - b.getD i 0 - c := u64w (by omega) (by omega)
  have e3 : IntKind.i64.wrap ((i : Int) + 1) = ((i + 1 : Nat) : Int) := w64succ (by omega)
  have e6 := and32 (x := 4294967296 + a.getD i 0 - b.getD i 0 - c) (by omega) (by omega)
  have e7 := shr32 (x := 4294967296 + a.getD i 0 - b.getD i 0 - c) (by omega)
  have e8 : IntKind.u64.wrap (1 - (4294967296 + a.getD i 0 - b.getD i 0 - c) / 4294967296) = 1 - (4294967296 + a.getD i 0 - b.getD i 0 - c) / 4294967296 := u64w (by omega) (by omega)
  have h9 := ih (i + 1) (out.set i ((4294967296 + a.getD i 0 - b.getD i 0 - c) % 4294967296)) (1 - (4294967296 + a.getD i 0 - b.getD i 0 - c) / 4294967296) (by omega) (by rw [zx]; exact ho) (hd.set _ (by omega) (by omega)) (by omega) (by omega) (by
   rw [set_take _ (by omega), vl_snoc, zk, Nat.min_eq_left (by omega), Dg.vl_take_succ, Dg.vl_take_succ, Int.pow_succ]
   have h := Int.mul_ediv_add_emod (4294967296 + a.getD i 0 - b.getD i 0 - c) 4294967296
   grind)
  rw [zx] at h9
  rw [LP_go FF b113_0.eq_1]
  simp only [RB, RL, un, St.none, Nat.reduceEqDiff, Nat.reduceAdd, Nat.reduceMul, Nat.reduceMod, Nat.reduceLeDiff, Nat.reduceLT, Int.reduceLT, Int.reduceLE, Int.reduceEq, Int.reduceToNat, Int.reduceSub, Int.reduceNeg, Int.reduceAdd, ↓reduceIte, reduceCtorEq, pack, pid, parN, lid, chkK, apartV, Heap.none, limb_c, e0, e1, e2, e3, e6, e7, e8]
  simp (disch := omega) only [if_pos, if_neg, zh, take_set_len, take_set2_len, take_rep_len, take_snoc_len, take_app_len]
  exact h9
theorem nminus_c {m n : Nat} (h : n ≤ m) (hl : L m ≤ 35184372088832) : R FF 113 [(AV.l 1 (List.map u (D m))), (AV.l 1 (List.map u (D n)))] = some (AV.l 1 (List.map u (D (m - n)))) := by
 have hl' : (D m).length ≤ 35184372088832 := hl
 obtain ⟨o, h1, h2, h3, h4⟩ := nminus_l0 (D_dig m) (D_dig n) hl' (L_mono h) (n := m - n) (by rw [D_vl, D_vl]; omega) (D m).length 0 (zj (D m).length 0) 0 (by omega) (by rw [zm]) (Dg.Dig.replicate (by decide) _) (by omega) (by omega) (by simp [Dg.vl])
 rw [zy, zm] at h1
 rw [R_go FF F113 c113.eq_1]
 simp only [RB, RL, un, St.none, Nat.reduceEqDiff, Nat.reduceAdd, Nat.reduceMul, Nat.reduceMod, Nat.reduceLeDiff, Nat.reduceLT, Int.reduceLT, Int.reduceLE, Int.reduceEq, Int.reduceToNat, Int.reduceSub, Int.reduceNeg, Int.reduceAdd, ↓reduceIte, reduceCtorEq, pack, pid, parN, lid, chkK, apartV, Heap.none]
 simp (disch := omega) only [if_pos, if_neg, zh, take_set_len, take_set2_len, take_rep_len, take_snoc_len, take_app_len, h1]
 simp only [RB, RL, un, St.none, Nat.reduceEqDiff, Nat.reduceAdd, Nat.reduceMul, Nat.reduceMod, Nat.reduceLeDiff, Nat.reduceLT, Int.reduceLT, Int.reduceLE, Int.reduceEq, Int.reduceToNat, Int.reduceSub, Int.reduceNeg, Int.reduceAdd, ↓reduceIte, reduceCtorEq, pack, pid, parN, lid, chkK, apartV, Heap.none, trim_c h2 (by omega) h4]
theorem sub_ge {a b : List Int} (ha : U a) (hb : U b) (hla : a.length ≤ 35184372088832) (hlb : b.length ≤ 35184372088832) (h : W b ≤ W a) : R FF 117 [(AV.l 1 (List.map u a)), (AV.l 1 (List.map u b))] = some (.tup [(AV.l 1 (List.map u (D (W a - W b)))), (AV.i .i64 0)]) := by
 have hc := cmp_lt_iff (a := (W a : Int)) (b := W b)
 rw [R_go FF F117 c117.eq_1]
 simp only [RB, RL, un, St.none, Nat.reduceEqDiff, Nat.reduceAdd, Nat.reduceMul, Nat.reduceMod, Nat.reduceLeDiff, Nat.reduceLT, Int.reduceLT, Int.reduceLE, Int.reduceEq, Int.reduceToNat, Int.reduceSub, Int.reduceNeg, Int.reduceAdd, ↓reduceIte, reduceCtorEq, pack, pid, parN, lid, chkK, apartV, Heap.none, clean_c ha hla, clean_c hb hlb, order_c (zw (L_W a) hla) (zw (L_W b) hlb)]
 rw [if_neg (fun h2 => by have := hc.1 h2; omega)]
 simp only [RB, RL, un, St.none, Nat.reduceEqDiff, Nat.reduceAdd, Nat.reduceMul, Nat.reduceMod, Nat.reduceLeDiff, Nat.reduceLT, Int.reduceLT, Int.reduceLE, Int.reduceEq, Int.reduceToNat, Int.reduceSub, Int.reduceNeg, Int.reduceAdd, ↓reduceIte, reduceCtorEq, pack, pid, parN, lid, chkK, apartV, Heap.none, nminus_c h (zw (L_W a) hla)]
theorem shl32 {x : Int} (h0 : 0 ≤ x) (h1 : x ≤ 4294967295) : IntKind.u64.wrap (x * 2 ^ Nat.min 32 IntKind.u64.bits) = x * 4294967296 := by
 rw [show Nat.min 32 IntKind.u64.bits = 32 by decide, show (2 : Int) ^ 32 = 4294967296 by decide]; exact u64w (by omega) (by omega)
theorem small_div {a : List Int} (ha : Dg.Dig 4294967296 a) (hl : a.length ≤ 35184372088832) {d : Int} (hd0 : 0 < d) (hd1 : d ≤ 4294967295) {q r : Nat} (hq : Dg.vl 4294967296 a = q * d + r) (hr : (r : Int) < d) :
  ∀ (n : Nat) (out : List Int) (c : Int), n ≤ a.length → out.length = a.length → Dg.Dig 4294967296 out → 0 ≤ c → c < d → Dg.vl 4294967296 (out.drop n) * d + c = Dg.vl 4294967296 (a.drop n) →
  ∃ o, LP FF [(6, 1), (0, 0), (1, 0), (7, 0), (8, 0)] [(6, 0), (7, 0)] b130_0 [.own true 1 (out.map u), (AV.l 1 (List.map u a)), (AV.i .u64 d), (AV.i .u64 c), (AV.i .i64 ((n : Int) - 1))] = some (.exit 0, [(AV.l 1 (List.map u o)), (AV.i .u64 ((r : Int)))]) ∧ Dg.Dig 4294967296 o ∧ o.length = a.length ∧ Dg.vl 4294967296 o = q := by
 intro n
 induction n with
 | zero =>
  intro out c hn ho hd hc0 hc1 hv
  rw [zz, zz, hq] at hv
  have h1 : Dg.vl 4294967296 out = q := by
   have e1 : (Dg.vl 4294967296 out - q) * d = r - c := by grind
   rcases Int.lt_trichotomy (Dg.vl 4294967296 out - q) 0 with h | h | h
   ·have : (Dg.vl 4294967296 out - q) * d ≤ -1 * d := zq (by omega) (by omega)
    omega
   ·omega
   ·have : 1 * d ≤ (Dg.vl 4294967296 out - q) * d := zq (by omega) (by omega)
    omega
  have h2 : c = r := by rw [h1] at hv; omega
  refine ⟨out, ?_, hd, ho, h1⟩
  rw [← h2]
  rw [LP_go FF b130_0.eq_1]
  simp only [RB, RL, un, St.none, Nat.reduceEqDiff, Nat.reduceAdd, Nat.reduceMul, Nat.reduceMod, Nat.reduceLeDiff, Nat.reduceLT, Int.reduceLT, Int.reduceLE, Int.reduceEq, Int.reduceToNat, Int.reduceSub, Int.reduceNeg, Int.reduceAdd, ↓reduceIte, reduceCtorEq, pack, pid, parN, lid, chkK, apartV, Heap.none]
  try simp (disch := omega) only [if_pos, if_neg, zh, take_set_len, take_set2_len, take_rep_len, take_snoc_len, take_app_len]
 | succ n ih =>
  intro out c hn ho hd hc0 hc1 hv
  have e0 : ((n + 1 : Nat) : Int) - 1 = (n : Int) := by omega
  have ga := ha.getD (by decide) n
  have t0 : 0 ≤ c * 4294967296 + a.getD n 0 := by omega
  have q0 : (c * 4294967296 + a.getD n 0) / d < 4294967296 := by
   apply Int.ediv_lt_of_lt_mul hd0
   have : (c + 1) * 4294967296 ≤ d * 4294967296 := zq (by omega) (by omega)
   omega
  have q1 : 0 ≤ (c * 4294967296 + a.getD n 0) / d := Int.ediv_nonneg t0 (by omega)
  have r0 := Int.emod_nonneg (c * 4294967296 + a.getD n 0) (show d ≠ 0 by omega)
  have r1 := Int.emod_lt_of_pos (c * 4294967296 + a.getD n 0) hd0
  have hqr := Int.mul_ediv_add_emod (c * 4294967296 + a.getD n 0) d
  have h9 := ih (out.set n ((c * 4294967296 + a.getD n 0) / d)) ((c * 4294967296 + a.getD n 0) % d) (by omega) (by rw [zx]; exact ho) (hd.set _ q1 q0) r0 r1 (by
   rw [Dg.vl_drop_succ, Dg.vl_drop_succ 4294967296 a, Dg.vl_drop_set _ _ _ _ _ (Nat.lt_succ_self _), Dg.getD_set _ _ _ _ (by omega), if_pos rfl, ← hv]
   grind)
  have e1 := shl32 (x := c) hc0 (by omega)
  have e2 := or32 (x := c) (y := a.getD n 0) hc0 (by omega) (by omega) (by omega)
  have e3 : IntKind.u64.wrap (Int.tdiv (c * 4294967296 + a.getD n 0) d) = (c * 4294967296 + a.getD n 0) / d := by rw [tdiv_pos t0]; exact u64w q1 (by omega)
  have e4 : Int.tmod (c * 4294967296 + a.getD n 0) d = (c * 4294967296 + a.getD n 0) % d := tmod_pos t0
  have e5 : IntKind.i64.wrap ((n : Int) - 1) = (n : Int) - 1 := w64 (by omega) (by omega)
  rw [LP_go FF b130_0.eq_1]
  simp only [RB, RL, un, St.none, Nat.reduceEqDiff, Nat.reduceAdd, Nat.reduceMul, Nat.reduceMod, Nat.reduceLeDiff, Nat.reduceLT, Int.reduceLT, Int.reduceLE, Int.reduceEq, Int.reduceToNat, Int.reduceSub, Int.reduceNeg, Int.reduceAdd, ↓reduceIte, reduceCtorEq, pack, pid, parN, lid, chkK, apartV, Heap.none, e0, e1, e2, e3, e4, e5]
  simp (disch := omega) only [if_pos, if_neg, zh, take_set_len, take_set2_len, take_rep_len, take_snoc_len, take_app_len]
  exact h9
theorem small_D {m d : Nat} (hd0 : 0 < d) (hd1 : d ≤ 4294967295) (hl : L m ≤ 35184372088832) : R FF 130 [(AV.l 1 (List.map u (D m))), (AV.i .u64 ((d : Int)))] = some (.tup [(AV.l 1 (List.map u (D (m / d)))), (AV.i .u64 (((m % d : Nat) : Int)))]) := by
 have hl' : (D m).length ≤ 35184372088832 := hl
 have hm := Nat.mod_lt m hd0
 have hq : Dg.vl 4294967296 (D m) = ((m / d : Nat) : Int) * (d : Int) + ((m % d : Nat) : Int) := by
  rw [D_vl]
  have := Nat.div_add_mod m d
  rw [Nat.mul_comm] at this
  exact_mod_cast this.symm
 obtain ⟨o, h1, h2, h3, h4⟩ := small_div (D_dig m) hl' (d := (d : Int)) (by omega) (by omega) hq (by omega) (D m).length (zj (D m).length 0) 0 (zo _) (by rw [zm]) (Dg.Dig.replicate (by decide) _) (by omega) (by omega) (by
  rw [List.drop_length, zG (by rw [zm]; omega)]
  simp [Dg.vl])
 have e1 : IntKind.i64.wrap (((D m).length : Int) - 1) = ((D m).length : Int) - 1 := w64 (by omega) (by omega)
 rw [R_go FF F130 c130.eq_1]
 simp only [RB, RL, un, St.none, Nat.reduceEqDiff, Nat.reduceAdd, Nat.reduceMul, Nat.reduceMod, Nat.reduceLeDiff, Nat.reduceLT, Int.reduceLT, Int.reduceLE, Int.reduceEq, Int.reduceToNat, Int.reduceSub, Int.reduceNeg, Int.reduceAdd, ↓reduceIte, reduceCtorEq, pack, pid, parN, lid, chkK, apartV, Heap.none, e1]
 simp (disch := omega) only [if_pos, if_neg, zh, take_set_len, take_set2_len, take_rep_len, take_snoc_len, take_app_len, h1]
 simp only [RB, RL, un, St.none, Nat.reduceEqDiff, Nat.reduceAdd, Nat.reduceMul, Nat.reduceMod, Nat.reduceLeDiff, Nat.reduceLT, Int.reduceLT, Int.reduceLE, Int.reduceEq, Int.reduceToNat, Int.reduceSub, Int.reduceNeg, Int.reduceAdd, ↓reduceIte, reduceCtorEq, pack, pid, parN, lid, chkK, apartV, Heap.none, trim_c h2 (by omega) h4]
theorem bits_or_comm (k : IntKind) (x y : Int) : Go.bits .or k x y = Go.bits .or k y x := by simp [Go.bits, BitVec.or_comm]
theorem shift_parts (x s : Nat) (hs : s < 32) : (x * 2 ^ s) % 4294967296 = (x % 2 ^ (32 - s)) * 2 ^ s ∧ (x * 2 ^ s) / 4294967296 = x / 2 ^ (32 - s) := by
 have e : 4294967296 = 2 ^ (32 - s) * 2 ^ s := by rw [← Nat.pow_add, Nat.sub_add_cancel (by omega)]
 constructor
 ·rw [e, Nat.mul_mod_mul_right]
 ·rw [e, Nat.mul_div_mul_right _ _ (Nat.two_pow_pos s)]
theorem trimw_l0 {l : List Int} (hd : Dg.Dig 4294967296 l) (hl : l.length ≤ 35184372088832) : ∀ n : Nat, n ≤ l.length →
  ∃ m, m ≤ n ∧ l.take m = D (Dg.vl 4294967296 (l.take n)).toNat ∧ LP FF [(200000, 2), (0, 1), (3, 0)] [(200000, 2), (0, 1), (3, 0)] b285_0 [.own false 1 (l.map u), .sl 200000 1 0 l.length, (AV.i .i64 ((n : Int)))] = some (.exit 0, [.own false 1 (l.map u), .sl 200000 1 0 l.length, (AV.i .i64 ((m : Int)))]) := by
 intro n
 induction n with
 | zero =>
  intro _
  refine ⟨0, zo _, by simp only [List.take_zero, Dg.vl, Int.toNat_zero, D_zero], ?_⟩
  rw [LP_go FF b285_0.eq_1]
  simp only [RB, RL, un, St.none, Nat.reduceEqDiff, Nat.reduceAdd, Nat.reduceMul, Nat.reduceMod, Nat.reduceLeDiff, Nat.reduceLT, Int.reduceLT, Int.reduceLE, Int.reduceEq, Int.reduceToNat, Int.reduceSub, Int.reduceNeg, Int.reduceAdd, ↓reduceIte, reduceCtorEq, pack, pid, parN, lid, chkK, apartV, Heap.none]
 | succ n ih =>
  intro hn
  have e : IntKind.i64.wrap (((n + 1 : Nat) : Int) - 1) = (n : Int) := by rw [w64 (by omega) (by omega)]; omega
  rw [LP_go FF b285_0.eq_1]
  simp only [RB, RL, un, St.none, Nat.reduceEqDiff, Nat.reduceAdd, Nat.reduceMul, Nat.reduceMod, Nat.reduceLeDiff, Nat.reduceLT, Int.reduceLT, Int.reduceLE, Int.reduceEq, Int.reduceToNat, Int.reduceSub, Int.reduceNeg, Int.reduceAdd, ↓reduceIte, reduceCtorEq, pack, pid, parN, lid, chkK, apartV, Heap.none, e]
  rw [if_pos (by omega)]
  by_cases h : l.getD n 0 = 0
  ·obtain ⟨m, hm, h1, h2⟩ := ih (by omega)
   refine ⟨m, by omega, ?_, ?_⟩
   ·rw [h1, Dg.vl_take_succ, h]; simp
   ·simp (disch := omega) only [if_pos, if_neg, zh, take_set_len, take_set2_len, take_rep_len, take_snoc_len, take_app_len]
    exact h2
  ·refine ⟨n + 1, zo _, ?_, ?_⟩
   ·have hdd := hd.take (n + 1)
    refine D_of hdd (top_take (by omega) h) ?_
    have := Dg.vl_nonneg hdd (by decide)
    omega
   ·simp (disch := omega) only [if_pos, if_neg, zh, take_set_len, take_set2_len, take_rep_len, take_snoc_len, take_app_len]
theorem trimw_c {l : List Int} (hd : Dg.Dig 4294967296 l) (hl : l.length ≤ 35184372088832) {n : Nat} (hv : Dg.vl 4294967296 l = n) (hn : n ≠ 0) :
  R FF 285 [.own false 1 (l.map u)] = some (.back (.sl 200000 1 0 (L n)) [.own false 1 (l.map u)]) ∧ 0 < L n ∧ l.take (L n) = D n ∧ L n ≤ l.length := by
 obtain ⟨m, hm, h1, h2⟩ := trimw_l0 hd hl l.length (zo _)
 rw [zh, hv, Int.toNat_natCast] at h1
 have hL : L n = m := by
  show (D n).length = m
  rw [← h1, zk]
  omega
 have h0 : m ≠ 0 := fun h => hn (D_nil.1 (List.eq_nil_of_length_eq_zero (hL.trans h)))
 rw [hL]
 refine ⟨?_, by omega, h1, by omega⟩
 rw [R_go FF F285 c285.eq_1]
 simp only [RB, RL, un, St.none, Nat.reduceEqDiff, Nat.reduceAdd, Nat.reduceMul, Nat.reduceMod, Nat.reduceLeDiff, Nat.reduceLT, Int.reduceLT, Int.reduceLE, Int.reduceEq, Int.reduceToNat, Int.reduceSub, Int.reduceNeg, Int.reduceAdd, ↓reduceIte, reduceCtorEq, pack, pid, parN, lid, chkK, apartV, Heap.none, h2]
 rw [if_neg (by omega), if_pos (by omega)]
theorem shl_l0 {a : List Int} (ha : Dg.Dig 4294967296 a) {w s : Nat} (hs : s < 32) (hl : a.length + w + 1 ≤ 35184372088832) {n : Nat} (hn : Dg.vl 4294967296 a * 2 ^ s * 4294967296 ^ w = n) :
  ∀ (d i : Nat) (out : List Int), i + d = a.length → out.length = a.length + w + 1 → Dg.Dig 4294967296 out → Dg.vl 4294967296 out = Dg.vl 4294967296 (a.take i) * 2 ^ s * 4294967296 ^ w → out.getD (i + w) 0 < 2 ^ s → (∀ j, i + w < j → out.getD j 0 = 0) →
  ∃ o, LP FF [(7, 1), (5, 0), (6, 0), (20, 0), (21, 0), (22, 0)] [(7, 1)] b111_0 [.own true 1 (out.map u), (AV.i .i64 ((w : Int))), (AV.i .i64 ((s : Int))), (AV.l 1 (List.map u a)), (AV.i .i64 ((a.length : Int))), (AV.i .i64 ((i : Int)))] = some (.exit 0, [.own true 1 (o.map u)]) ∧ Dg.Dig 4294967296 o ∧ o.length = a.length + w + 1 ∧ Dg.vl 4294967296 o = n := by
 intro d
 induction d with
 | zero =>
  intro i out hi ho hd hv hp hz
  refine ⟨out, ?_, hd, ho, ?_⟩
  ·rw [LP_go FF b111_0.eq_1]
   simp only [RB, RL, un, St.none, Nat.reduceEqDiff, Nat.reduceAdd, Nat.reduceMul, Nat.reduceMod, Nat.reduceLeDiff, Nat.reduceLT, Int.reduceLT, Int.reduceLE, Int.reduceEq, Int.reduceToNat, Int.reduceSub, Int.reduceNeg, Int.reduceAdd, ↓reduceIte, reduceCtorEq, pack, pid, parN, lid, chkK, apartV, Heap.none]
   simp (disch := omega) only [if_pos, if_neg, zh, take_set_len, take_set2_len, take_rep_len, take_snoc_len, take_app_len]
  rw [hv, zc (by omega), hn]
 | succ d ih =>
  intro i out hi ho hd hv hp hz
  have ga := ha.getD (by decide) i
  have go := hd.getD (by decide) (i + w)
  obtain ⟨x, hx⟩ := Int.eq_ofNat_of_zero_le ga.1
  obtain ⟨y, hy⟩ := Int.eq_ofNat_of_zero_le go.1
  have hxlt : x < 4294967296 := by omega
  have hylt : y < 2 ^ s := by rw [hy] at hp; exact_mod_cast hp
  obtain ⟨p1, p2⟩ := shift_parts x s hs
  have hps : 2 ^ s ≤ 2 ^ 31 := Nat.pow_le_pow_right (by decide) (by omega)
  have hxs : x * 2 ^ s ≤ 4294967295 * 2 ^ 31 := Nat.mul_le_mul (by omega) hps
  have hsp := Nat.two_pow_pos s
  have hhi : x * 2 ^ s / 4294967296 < 2 ^ s := by
   rw [Nat.div_lt_iff_lt_mul (by decide), Nat.mul_comm (2 ^ s)]
   exact (Nat.mul_lt_mul_right hsp).2 hxlt
  have hlo : y + x * 2 ^ s % 4294967296 < 4294967296 := by
   rw [p1]
   have h1 : x % 2 ^ (32 - s) + 1 ≤ 2 ^ (32 - s) := Nat.mod_lt _ (Nat.two_pow_pos _)
   have h2 := zu (2 ^ s) h1
   rw [← Nat.pow_add, Nat.sub_add_cancel (by omega), zE] at h2
   omega
  have hsh : IntKind.u64.wrap ((x : Int) * 2 ^ Nat.min s IntKind.u64.bits) = ((x * 2 ^ s : Nat) : Int) := by
   rw [show Nat.min s IntKind.u64.bits = s from Nat.min_eq_left (by simp [IntKind.bits]; omega)]
   rw [show (x : Int) * 2 ^ s = ((x * 2 ^ s : Nat) : Int) by rw [Int.natCast_mul, Int.natCast_pow]; rfl]
   rw [u64w (by omega) (by omega)]
  have hor : Go.bits .or .u64 (y : Int) ((x * 2 ^ s % 4294967296 : Nat) : Int) = ((y + x * 2 ^ s % 4294967296 : Nat) : Int) := by
   rw [bits_or_comm, bits_join .u64 64 (by decide) u64_id s _ _ (by omega) ?_ (by omega) (by omega) (by exact_mod_cast hylt) (by omega)]
   ·omega
   ·rw [p1]
    exact_mod_cast Nat.mul_mod_left _ _
  have hand : Go.bits .and .u64 ((x * 2 ^ s : Nat) : Int) 4294967295 = ((x * 2 ^ s % 4294967296 : Nat) : Int) := by rw [and32 (by omega) (by omega)]; omega
  have hdv := shr32 (x := ((x * 2 ^ s : Nat) : Int)) (by omega)
  rw [show ((x * 2 ^ s : Nat) : Int) / 4294967296 = ((x * 2 ^ s / 4294967296 : Nat) : Int) by omega] at hdv
  have e1 : IntKind.i64.wrap ((i : Int) + (w : Int)) = ((i + w : Nat) : Int) := w64add (by omega)
  have e2 : IntKind.i64.wrap (((i + w : Nat) : Int) + 1) = ((i + w + 1 : Nat) : Int) := w64succ (by omega)
  have e3 : IntKind.i64.wrap ((i : Int) + 1) = ((i + 1 : Nat) : Int) := w64succ (by omega)
  have ho1 : (out.set (i + w) ((y + x * 2 ^ s % 4294967296 : Nat) : Int)).length = a.length + w + 1 := by rw [zx]; exact ho
  have hz1 : (out.set (i + w) ((y + x * 2 ^ s % 4294967296 : Nat) : Int)).getD (i + w + 1) 0 = 0 := by
   rw [Dg.getD_set _ _ _ _ (by omega), if_neg (by omega)]
   exact hz _ (by omega)
  have h9 := ih (i + 1) ((out.set (i + w) ((y + x * 2 ^ s % 4294967296 : Nat) : Int)).set (i + w + 1) ((x * 2 ^ s / 4294967296 : Nat) : Int)) (by omega) (by rw [zx]; exact ho1) ((hd.set _ (by omega) (by omega)).set _ (by omega) (by omega)) ?_ ?_ ?_
  rotate_left
  ·rw [Dg.vl_set _ _ _ _ (by omega), hz1, Dg.vl_set _ _ _ _ (by omega), hv, hy, Dg.vl_take_succ, hx]
   have h := Nat.mod_add_div (x * 2 ^ s) 4294967296
   have h' : ((x * 2 ^ s % 4294967296 : Nat) : Int) + 4294967296 * ((x * 2 ^ s / 4294967296 : Nat) : Int) = (x : Int) * 2 ^ s := by
    have e : (x : Int) * 2 ^ s = ((x * 2 ^ s : Nat) : Int) := by rw [Int.natCast_mul, Int.natCast_pow]; rfl
    rw [e]
    omega
   rw [Int.natCast_add, Int.pow_succ, Int.pow_add]
   grind
  ·rw [show i + 1 + w = i + w + 1 by omega, Dg.getD_set _ _ _ _ (by omega), if_pos rfl]
   exact_mod_cast hhi
  ·intro j hj
   rw [Dg.getD_set _ _ _ _ (by omega), if_neg (by omega), Dg.getD_set _ _ _ _ (by omega), if_neg (by omega)]
   exact hz j (by omega)
  rw [LP_go FF b111_0.eq_1]
  simp only [RB, RL, un, St.none, Nat.reduceEqDiff, Nat.reduceAdd, Nat.reduceMul, Nat.reduceMod, Nat.reduceLeDiff, Nat.reduceLT, Int.reduceLT, Int.reduceLE, Int.reduceEq, Int.reduceToNat, Int.reduceSub, Int.reduceNeg, Int.reduceAdd, ↓reduceIte, reduceCtorEq, pack, pid, parN, lid, chkK, apartV, Heap.none, e1, e2, e3, hx, hsh, hand, hdv, hy, hor]
  simp (disch := omega) only [if_pos, if_neg, zh, take_set_len, take_set2_len, take_rep_len, take_snoc_len, take_app_len]
  exact h9
theorem shl_D {m n : Nat} (hm : m ≠ 0) (hl : L m + n / 32 + 1 ≤ 35184372088832) (hn : n ≤ 9223372036854775807) : R FF 111 [(AV.l 1 (List.map u (D m))), (AV.i .i64 ((n : Int)))] = some (.own true 1 ((D (m * 2 ^ n)).map u)) := by
 have hl' : (D m).length + n / 32 + 1 ≤ 35184372088832 := hl
 have e1 : IntKind.i64.wrap (Int.tdiv (n : Int) 32) = ((n / 32 : Nat) : Int) := by rw [tdiv_pos (by omega), w64 (by omega) (by omega)]; omega
 have e2 : Int.tmod (n : Int) 32 = ((n % 32 : Nat) : Int) := by rw [tmod_pos (by omega)]; omega
 have e3 : IntKind.i64.wrap (((D m).length : Int) + ((n / 32 : Nat) : Int)) = (((D m).length + n / 32 : Nat) : Int) := w64add (by omega)
 have e4 : IntKind.i64.wrap ((((D m).length + n / 32 : Nat) : Int) + 1) = (((D m).length + n / 32 + 1 : Nat) : Int) := w64succ (by omega)
 obtain ⟨o, h1, h2, h3, h4⟩ := shl_l0 (D_dig m) (Nat.mod_lt n (by decide)) hl' (n := m * 2 ^ n) (by
  rw [D_vl]
  have e : m * 2 ^ (n % 32) * 4294967296 ^ (n / 32) = m * 2 ^ n := by
   rw [show (4294967296 : Nat) = 2 ^ 32 from rfl, ← Nat.pow_mul, Nat.mul_assoc, ← Nat.pow_add, show n % 32 + 32 * (n / 32) = n by omega]
  rw [← e]
  simp only [Int.natCast_mul, Int.natCast_pow]
  rfl) (D m).length 0 (zj ((D m).length + n / 32 + 1) 0) (by omega) (by rw [zm]) (Dg.Dig.replicate (by decide) _) (by rw [Dg.vl_replicate_zero]; simp [Dg.vl]) (by rw [getD_rep]; exact Int.pow_pos (by decide)) (fun j _ => getD_rep _ j)
 rw [zy] at h1
 obtain ⟨t1, t0, t2, t3⟩ := trimw_c h2 (by omega) h4 (Nat.mul_ne_zero hm (Nat.ne_of_gt (Nat.two_pow_pos n)))
 rw [R_go FF F111 c111.eq_1]
 simp only [RB, RL, un, St.none, Nat.reduceEqDiff, Nat.reduceAdd, Nat.reduceMul, Nat.reduceMod, Nat.reduceLeDiff, Nat.reduceLT, Int.reduceLT, Int.reduceLE, Int.reduceEq, Int.reduceToNat, Int.reduceSub, Int.reduceNeg, Int.reduceAdd, ↓reduceIte, reduceCtorEq, pack, pid, parN, lid, chkK, apartV, Heap.none, e1, e2, e3, e4]
 simp (disch := omega) only [if_pos, if_neg, zh, take_set_len, take_set2_len, take_rep_len, take_snoc_len, take_app_len, h1]
 simp only [RB, RL, un, St.none, Nat.reduceEqDiff, Nat.reduceAdd, Nat.reduceMul, Nat.reduceMod, Nat.reduceLeDiff, Nat.reduceLT, Int.reduceLT, Int.reduceLE, Int.reduceEq, Int.reduceToNat, Int.reduceSub, Int.reduceNeg, Int.reduceAdd, ↓reduceIte, reduceCtorEq, pack, pid, parN, lid, chkK, apartV, Heap.none, t1, aliases, t0]
 rw [t2]
theorem vl_drop_D (m w : Nat) : Dg.vl 4294967296 ((D m).drop w) = ((m / 4294967296 ^ w : Nat) : Int) := by
 have h := Dg.vl_take_drop 4294967296 (D m) w
 rw [D_vl] at h
 have h0 := Dg.vl_nonneg ((D_dig m).take w) (by decide)
 have h1 := Dg.vl_lt ((D_dig m).take w) (by decide)
 have h2 := Dg.vl_nonneg ((D_dig m).drop w) (by decide)
 have h3 : 4294967296 ^ ((D m).take w).length ≤ 4294967296 ^ w := Nat.pow_le_pow_right (by decide) (by rw [zk]; omega)
 obtain ⟨x, hx⟩ := Int.eq_ofNat_of_zero_le h0
 obtain ⟨y, hy⟩ := Int.eq_ofNat_of_zero_le h2
 rw [hx, hy] at h
 rw [hx] at h1
 have e : ∀ k : Nat, (4294967296 : Int) ^ k = ((4294967296 ^ k : Nat) : Int) := fun k => by rw [Int.natCast_pow]; rfl
 rw [e, ← Int.natCast_mul, ← Int.natCast_add] at h
 rw [e] at h1
 have h4 : m = x + 4294967296 ^ w * y := Int.ofNat_inj.1 h
 have h5 : x < 4294967296 ^ w := Nat.lt_of_lt_of_le (Int.ofNat_lt.1 h1) h3
 rw [hy, h4, Nat.add_mul_div_left _ _ (Nat.pow_pos (by decide)), Nat.div_eq_of_lt h5, zF]
theorem shr_parts (x u v s : Nat) (hs : s < 32) (hu : u < 4294967296) : (u + 4294967296 * x) / 2 ^ s = (u + 4294967296 * (x % 2 ^ s)) / 2 ^ s + 4294967296 * (x / 2 ^ s) ∧ (u + 4294967296 * (x % 2 ^ s)) / 2 ^ s < 4294967296 := by
 have hp := Nat.two_pow_pos s
 constructor
 ·have h := Nat.mod_add_div x (2 ^ s)
  have e : u + 4294967296 * x = u + 4294967296 * (x % 2 ^ s) + 2 ^ s * (4294967296 * (x / 2 ^ s)) := by
   have : 4294967296 * x = 4294967296 * (x % 2 ^ s) + 4294967296 * (2 ^ s * (x / 2 ^ s)) := by rw [← Nat.mul_add, h]
   rw [this, Nat.mul_left_comm]
   omega
  rw [e, Nat.add_mul_div_left _ _ hp]
 ·rw [Nat.div_lt_iff_lt_mul hp]
  have h1 : x % 2 ^ s + 1 ≤ 2 ^ s := Nat.mod_lt _ hp
  have h2 := Nat.mul_le_mul_left 4294967296 h1
  omega
theorem mod_pow_limb (x s : Nat) (u : Nat) (hs : s < 32) : (u + 4294967296 * x) % 2 ^ s = u % 2 ^ s := by
 have e : 4294967296 = 2 ^ s * 2 ^ (32 - s) := by rw [← Nat.pow_add, Nat.add_sub_cancel' (by omega)]
 rw [e, Nat.mul_assoc, Nat.add_mul_mod_self_left]
theorem and_part {t r c : Nat} (h : t = r + 4294967296 * c) (hr : r < 4294967296) (ht : t ≤ 18446744073709551615) : Go.bits .and .u64 (t : Int) 4294967295 = (r : Int) := by
 rw [and32 (by omega) (by omega)]
 omega
theorem shr_l0 {m : Nat} (hl : (D m).length ≤ 35184372088832) {w s : Nat} (hs : s < 32) (hw : w < (D m).length) :
  ∀ (d i : Nat) (out : List Int), i + d = (D m).length - w → out.length = (D m).length - w → Dg.Dig 4294967296 out → Dg.vl 4294967296 (out.take i) + 4294967296 ^ i * ((m / 4294967296 ^ (w + i) / 2 ^ s : Nat) : Int) = ((m / 4294967296 ^ w / 2 ^ s : Nat) : Int) →
  ∃ o, LP FF [(7, 1), (0, 0), (5, 0), (6, 0), (23, 0), (24, 0)] [(7, 0)] b109_0 [.own true 1 (out.map u), (AV.l 1 (List.map u (D m))), (AV.i .i64 ((w : Int))), (AV.i .i64 ((s : Int))), (AV.i .i64 ((out.length : Int))), (AV.i .i64 ((i : Int)))] = some (.exit 0, [(AV.l 1 (List.map u o))]) ∧ Dg.Dig 4294967296 o ∧ o.length = (D m).length - w ∧ Dg.vl 4294967296 o = ((m / 4294967296 ^ w / 2 ^ s : Nat) : Int) := by
 intro d
 induction d with
 | zero =>
  intro i out hi ho hd hv
  refine ⟨out, ?_, hd, ho, ?_⟩
  ·rw [LP_go FF b109_0.eq_1]
   simp only [RB, RL, un, St.none, Nat.reduceEqDiff, Nat.reduceAdd, Nat.reduceMul, Nat.reduceMod, Nat.reduceLeDiff, Nat.reduceLT, Int.reduceLT, Int.reduceLE, Int.reduceEq, Int.reduceToNat, Int.reduceSub, Int.reduceNeg, Int.reduceAdd, ↓reduceIte, reduceCtorEq, pack, pid, parN, lid, chkK, apartV, Heap.none]
   simp (disch := omega) only [if_pos, if_neg, zh, take_set_len, take_set2_len, take_rep_len, take_snoc_len, take_app_len]
  have h0 : m / 4294967296 ^ (w + i) = 0 := by
   apply Nat.div_eq_of_lt
   have := L_lt m
   rwa [show w + i = L m by unfold L; omega]
  rw [h0, Nat.zero_div, zc (by omega)] at hv
  simpa using hv
 | succ d ih =>
  intro i out hi ho hd hv
  have g1 := D_get m (i + w)
  have g2 := D_get m (i + w + 1)
  obtain ⟨u, hu⟩ := Int.eq_ofNat_of_zero_le g1.1
  obtain ⟨v, hv1⟩ := Int.eq_ofNat_of_zero_le g2.1
  have hul : u < 4294967296 := by omega
  have hvl : v < 4294967296 := by omega
  have hd1 : m / 4294967296 ^ (w + i) = u + 4294967296 * (m / 4294967296 ^ (w + i + 1)) := by
   have h1 := Dg.vl_drop_succ 4294967296 (D m) (i + w)
   rw [vl_drop_D, vl_drop_D, hu] at h1
   rw [show w + i = i + w by omega]
   omega
  have hd2 : m / 4294967296 ^ (w + i + 1) = v + 4294967296 * (m / 4294967296 ^ (w + i + 2)) := by
   have h1 := Dg.vl_drop_succ 4294967296 (D m) (i + w + 1)
   rw [vl_drop_D, vl_drop_D, hv1] at h1
   rw [show w + i + 1 = i + w + 1 by omega, show w + i + 2 = i + w + 1 + 1 by omega]
   omega
  have hmod : m / 4294967296 ^ (w + i + 1) % 2 ^ s = v % 2 ^ s := by rw [hd2, mod_pow_limb _ _ _ hs]
  obtain ⟨q1, q2⟩ := shr_parts (m / 4294967296 ^ (w + i + 1)) u 0 s hs hul
  obtain ⟨q3, q4⟩ := shr_parts v u 0 s hs hul
  rw [hmod] at q1 q2
  have hsh : ((v : Int) * 4294967296 + u).fdiv (2 ^ Nat.min s IntKind.u64.bits) = (((u + 4294967296 * v) / 2 ^ s : Nat) : Int) := by
   rw [show Nat.min s IntKind.u64.bits = s from Nat.min_eq_left (by simp [IntKind.bits]; omega), Int.fdiv_eq_ediv_of_nonneg _ (Int.le_of_lt (Int.pow_pos (by decide))), Int.natCast_ediv, Int.natCast_pow]
   congr 1
   omega
  have hle : (u + 4294967296 * v) / 2 ^ s ≤ u + 4294967296 * v := Nat.div_le_self _ _
  have hand : Go.bits .and .u64 (((u + 4294967296 * v) / 2 ^ s : Nat) : Int) 4294967295 = (((u + 4294967296 * (v % 2 ^ s)) / 2 ^ s : Nat) : Int) :=
   and_part q3 q4 (zw hle (by omega))
  have e1 : IntKind.i64.wrap ((i : Int) + (w : Int)) = ((i + w : Nat) : Int) := w64add (by omega)
  have e2 : IntKind.i64.wrap (((i + w : Nat) : Int) + 1) = ((i + w + 1 : Nat) : Int) := w64succ (by omega)
  have e3 : IntKind.i64.wrap ((i : Int) + 1) = ((i + 1 : Nat) : Int) := w64succ (by omega)
  have e4 := shl32 (x := (v : Int)) (by omega) (by omega)
  have e5 := or32 (x := (v : Int)) (y := (u : Int)) (by omega) (by omega) (by omega) (by omega)
  rw [LP_go FF b109_0.eq_1]
  simp only [RB, RL, un, St.none, Nat.reduceEqDiff, Nat.reduceAdd, Nat.reduceMul, Nat.reduceMod, Nat.reduceLeDiff, Nat.reduceLT, Int.reduceLT, Int.reduceLE, Int.reduceEq, Int.reduceToNat, Int.reduceSub, Int.reduceNeg, Int.reduceAdd, ↓reduceIte, reduceCtorEq, pack, pid, parN, lid, chkK, apartV, Heap.none, e1, e2, e3, limb_c, hu, hv1, e4, e5, hsh, hand]
  clear hsh hand hle q3 q4 hmod hd2 e1 e2 e4 e5
  generalize (u + 4294967296 * (v % 2 ^ s)) / 2 ^ s = r at *
  have h9 := ih (i + 1) (out.set i (r : Int)) (by omega) (by rw [zx]; exact ho) (hd.set _ (by omega) (by omega)) (by
   rw [set_take _ (by omega), vl_snoc, zk, Nat.min_eq_left (by omega), ← hv, hd1, q1, Int.pow_succ, Int.natCast_add, Int.natCast_mul]
   rw [show w + (i + 1) = w + i + 1 by omega]
   grind)
  rw [zx] at h9
  simp (disch := omega) only [if_pos, if_neg, zh, take_set_len, take_set2_len, take_rep_len, take_snoc_len, take_app_len]
  exact h9
theorem shr_D {m n : Nat} (hl : L m ≤ 35184372088832) (hn : n ≤ 9223372036854775807) : R FF 109 [(AV.l 1 (List.map u (D m))), (AV.i .i64 ((n : Int)))] = some (AV.l 1 (List.map u (D (m / 2 ^ n)))) := by
 have hl' : (D m).length ≤ 35184372088832 := hl
 have e : m / 2 ^ n = m / 4294967296 ^ (n / 32) / 2 ^ (n % 32) := by
  rw [Nat.div_div_eq_div_mul, show (4294967296 : Nat) = 2 ^ 32 from rfl, ← Nat.pow_mul, ← Nat.pow_add, show 32 * (n / 32) + n % 32 = n by omega]
 have e1 : IntKind.i64.wrap (Int.tdiv (n : Int) 32) = ((n / 32 : Nat) : Int) := by rw [tdiv_pos (by omega), w64 (by omega) (by omega)]; omega
 have e2 : Int.tmod (n : Int) 32 = ((n % 32 : Nat) : Int) := by rw [tmod_pos (by omega)]; omega
 by_cases h : n / 32 ≥ (D m).length
 ·have : m / 4294967296 ^ (n / 32) = 0 := by
   apply Nat.div_eq_of_lt
   exact Nat.lt_of_lt_of_le (L_lt m) (Nat.pow_le_pow_right (by decide) h)
  rw [R_go FF F109 c109.eq_1]
  simp only [RB, RL, un, St.none, Nat.reduceEqDiff, Nat.reduceAdd, Nat.reduceMul, Nat.reduceMod, Nat.reduceLeDiff, Nat.reduceLT, Int.reduceLT, Int.reduceLE, Int.reduceEq, Int.reduceToNat, Int.reduceSub, Int.reduceNeg, Int.reduceAdd, ↓reduceIte, reduceCtorEq, pack, pid, parN, lid, chkK, apartV, Heap.none, e1, e2]
  simp (disch := omega) only [if_pos, if_neg, zh, take_set_len, take_set2_len, take_rep_len, take_snoc_len, take_app_len]
  rw [e, this, Nat.zero_div, D_zero]
  rfl
 ·have e4 : IntKind.i64.wrap (((D m).length : Int) - ((n / 32 : Nat) : Int)) = (((D m).length - n / 32 : Nat) : Int) := by rw [w64 (by omega) (by omega)]; omega
  obtain ⟨o, h1, h2, h3, h4⟩ := shr_l0 hl' (Nat.mod_lt n (by decide)) (show n / 32 < (D m).length by omega) ((D m).length - n / 32) 0 (zj ((D m).length - n / 32) 0) (by omega) (by rw [zm]) (Dg.Dig.replicate (by decide) _) (by simp [Dg.vl])
  rw [zy, zm] at h1
  rw [R_go FF F109 c109.eq_1]
  simp only [RB, RL, un, St.none, Nat.reduceEqDiff, Nat.reduceAdd, Nat.reduceMul, Nat.reduceMod, Nat.reduceLeDiff, Nat.reduceLT, Int.reduceLT, Int.reduceLE, Int.reduceEq, Int.reduceToNat, Int.reduceSub, Int.reduceNeg, Int.reduceAdd, ↓reduceIte, reduceCtorEq, pack, pid, parN, lid, chkK, apartV, Heap.none, e1, e2, e4]
  simp (disch := omega) only [if_pos, if_neg, zh, take_set_len, take_set2_len, take_rep_len, take_snoc_len, take_app_len, h1]
  simp only [RB, RL, un, St.none, Nat.reduceEqDiff, Nat.reduceAdd, Nat.reduceMul, Nat.reduceMod, Nat.reduceLeDiff, Nat.reduceLT, Int.reduceLT, Int.reduceLE, Int.reduceEq, Int.reduceToNat, Int.reduceSub, Int.reduceNeg, Int.reduceAdd, ↓reduceIte, reduceCtorEq, pack, pid, parN, lid, chkK, apartV, Heap.none, trim_c h2 (by omega) h4]
  rw [e]
end Go.Pe
namespace Dg
theorem pow_mono {B : Int} (hB : 1 ≤ B) {m n : Nat} (h : m ≤ n) : B ^ m ≤ B ^ n := by
 obtain ⟨d, rfl⟩ := Nat.exists_eq_add_of_le h
 rw [Int.pow_add]
 have h1 : 0 < B ^ m := Int.pow_pos (by omega)
 have h2 : 1 ≤ B ^ d := by
  have : 0 < B ^ d := Int.pow_pos (by omega)
  omega
 have := Int.mul_le_mul_of_nonneg_left h2 (Int.le_of_lt h1)
 omega
end Dg
namespace Go.Pe
theorem take_l0 {uu v : List Int} (hu : Dg.Dig 4294967296 uu) (hv : Dg.Dig 4294967296 v) (hl : uu.length ≤ 35184372088832) (hlv : v.length < uu.length) {g : Int} (hg0 : 0 ≤ g) (hg1 : g ≤ 4294967295) :
  ∀ (d i : Nat) (out : List Int) (c e : Int), i + d = uu.length → out.length = uu.length → Dg.Dig 4294967296 out → 0 ≤ c → c ≤ 4294967295 → (i = uu.length → c = 0) → 0 ≤ e → e ≤ 1 → (∀ j, i ≤ j → out.getD j 0 = uu.getD j 0) →
  Dg.vl 4294967296 (out.take i) = Dg.vl 4294967296 (uu.take i) - g * Dg.vl 4294967296 (v.take i) + (c + e) * 4294967296 ^ i →
  ∃ o e', LP FF [(200000, 2), (0, 1), (1, 0), (2, 0), (7, 0), (8, 0), (12, 0), (13, 0)] [(200000, 2), (0, 1), (8, 0)] b140_0 [.own false 1 (out.map u), .sl 200000 1 0 out.length, (AV.l 1 (List.map u v)), (AV.i .u64 g), (AV.i .u64 c), (AV.i .u64 e), (AV.i .i64 ((uu.length : Int))), (AV.i .i64 ((i : Int)))] = some (.exit 0, [.own false 1 (o.map u), .sl 200000 1 0 o.length, (AV.i .u64 (e'))]) ∧
   o.length = uu.length ∧ Dg.Dig 4294967296 o ∧ 0 ≤ e' ∧ e' ≤ 1 ∧ Dg.vl 4294967296 o = Dg.vl 4294967296 uu - g * Dg.vl 4294967296 v + e' * 4294967296 ^ uu.length := by
 intro d
 induction d with
 | zero =>
  intro i out c e hi ho hd hc0 hc1 hc9 he0 he1 hsame hval
  have hc := hc9 (by omega)
  subst hc
  refine ⟨out, e, ?_, ho, hd, he0, he1, ?_⟩
  ·rw [LP_go FF b140_0.eq_1]
   simp only [RB, RL, un, St.none, Nat.reduceEqDiff, Nat.reduceAdd, Nat.reduceMul, Nat.reduceMod, Nat.reduceLeDiff, Nat.reduceLT, Int.reduceLT, Int.reduceLE, Int.reduceEq, Int.reduceToNat, Int.reduceSub, Int.reduceNeg, Int.reduceAdd, ↓reduceIte, reduceCtorEq, pack, pid, parN, lid, chkK, apartV, Heap.none]
   simp (disch := omega) only [if_pos, if_neg, zh, take_set_len, take_set2_len, take_rep_len, take_snoc_len, take_app_len]
  rw [zc (by omega), zc (by omega), zc (by omega), show i = uu.length by omega] at hval
  rw [hval, Int.zero_add]
 | succ d ih =>
  intro i out c e hi ho hd hc0 hc1 hc9 he0 he1 hsame hval
  have gu := hu.getD (by decide) i
  have gv := hv.getD (by decide) i
  have hs := hsame i (zo _)
  have hx := mul_bound hg0 hg1 gv.1 (show v.getD i 0 ≤ 4294967295 by omega)
  have hx2 : g * v.getD i 0 ≤ 4294967295 * 4294967295 := hx.2
  have e1 : IntKind.u64.wrap (g * v.getD i 0) = g * v.getD i 0 := u64w hx.1 (by omega)
  have e2 : IntKind.u64.wrap (c + g * v.getD i 0) = c + g * v.getD i 0 := u64w (by omega) (by omega)
  have e3 := and32 (x := c + g * v.getD i 0) (by omega) (by omega)
  have e4 := shr32 (x := c + g * v.getD i 0) (by omega)
  have e5 : IntKind.u64.wrap (4294967296 + uu.getD i 0) = 4294967296 + uu.getD i 0 := u64w (by omega) (by omega)
  have e6 : IntKind.u64.wrap (4294967296 + uu.getD i 0 - (c + g * v.getD i 0) % 4294967296) = 4294967296 + uu.getD i 0 - (c + g * v.getD i 0) % 4294967296 := u64w (by omega) (by omega)
  have e7 : IntKind.u64.wrap (4294967296 + uu.getD i 0 - (c + g * v.getD i 0) % 4294967296 - e) = 4294967296 + uu.getD i 0 - (c + g * v.getD i 0) % 4294967296 - e := u64w (by omega) (by omega)
  have e8 := and32 (x := 4294967296 + uu.getD i 0 - (c + g * v.getD i 0) % 4294967296 - e) (by omega) (by omega)
  have e9 := shr32 (x := 4294967296 + uu.getD i 0 - (c + g * v.getD i 0) % 4294967296 - e) (by omega)
  have e10 : IntKind.u64.wrap (1 - (4294967296 + uu.getD i 0 - (c + g * v.getD i 0) % 4294967296 - e) / 4294967296) = 1 - (4294967296 + uu.getD i 0 - (c + g * v.getD i 0) % 4294967296 - e) / 4294967296 := u64w (by omega) (by omega)
  have e11 : IntKind.i64.wrap ((i : Int) + 1) = ((i + 1 : Nat) : Int) := w64succ (by omega)
  rw [LP_go FF b140_0.eq_1]
  simp only [RB, RL, un, St.none, Nat.reduceEqDiff, Nat.reduceAdd, Nat.reduceMul, Nat.reduceMod, Nat.reduceLeDiff, Nat.reduceLT, Int.reduceLT, Int.reduceLE, Int.reduceEq, Int.reduceToNat, Int.reduceSub, Int.reduceNeg, Int.reduceAdd, ↓reduceIte, reduceCtorEq, pack, pid, parN, lid, chkK, apartV, Heap.none, limb_c, hs, e1, e2, e3, e4, e5, e6, e7, e8, e9, e10, e11]
  simp (disch := omega) only [if_pos, if_neg, zh, take_set_len, take_set2_len, take_rep_len, take_snoc_len, take_app_len]
  clear e1 e2 e3 e4 e5 e6 e7 e8 e9 e10 e11
  generalize hp : g * v.getD i 0 = p at *
  have hcz : i + 1 = uu.length → (c + p) / 4294967296 = 0 := by
   intro h1
   have h2 := getD_beyond (l := v) (i := i) (by omega)
   rw [h2, Int.mul_zero] at hp
   omega
  have h9 := ih (i + 1) (out.set i ((4294967296 + uu.getD i 0 - (c + p) % 4294967296 - e) % 4294967296)) ((c + p) / 4294967296) (1 - (4294967296 + uu.getD i 0 - (c + p) % 4294967296 - e) / 4294967296) (by omega) (by rw [zx]; exact ho) (hd.set _ (by omega) (by omega)) (by omega) (by omega) hcz (by omega) (by omega) (by
   intro j hj
   rw [Dg.getD_set _ _ _ _ (by omega), if_neg (by omega)]
   exact hsame j (by omega)) (by
   rw [set_take _ (by omega), vl_snoc, zk, Nat.min_eq_left (by omega), hval, Dg.vl_take_succ, Dg.vl_take_succ, Int.pow_succ]
   have h1 := Int.mul_ediv_add_emod (c + p) 4294967296
   have h2 := Int.mul_ediv_add_emod (4294967296 + uu.getD i 0 - (c + p) % 4294967296 - e) 4294967296
   generalize (4294967296 + uu.getD i 0 - (c + p) % 4294967296 - e) / 4294967296 = y at *
   generalize (4294967296 + uu.getD i 0 - (c + p) % 4294967296 - e) % 4294967296 = z at *
   generalize (c + p) / 4294967296 = cq at *
   generalize (c + p) % 4294967296 = cr at *
   rw [Int.mul_add, ← Int.mul_assoc g, hp]
   grind)
  rw [zx] at h9
  exact h9
theorem take_c {uu v : List Int} (hu : Dg.Dig 4294967296 uu) (hv : Dg.Dig 4294967296 v) (hl : uu.length ≤ 35184372088832) (hlv : v.length < uu.length) {g : Int} (hg0 : 0 ≤ g) (hg1 : g ≤ 4294967295) :
  ∃ (out : List Int) (c : Int), R FF 140 [.own false 1 (uu.map u), (AV.l 1 (List.map u v)), (AV.i .u64 g)] = some (.back ((AV.b (decide (c = 1)))) [.own false 1 (out.map u)]) ∧ out.length = uu.length ∧ Dg.Dig 4294967296 out ∧ 0 ≤ c ∧ c ≤ 1 ∧ Dg.vl 4294967296 out = Dg.vl 4294967296 uu - g * Dg.vl 4294967296 v + c * 4294967296 ^ uu.length := by
 obtain ⟨o, c, h1, h2, h3, h4, h5, h6⟩ := take_l0 hu hv hl hlv hg0 hg1 uu.length 0 uu 0 0 (by omega) rfl hu (by omega) (by omega) (by omega) (by omega) (by omega) (fun j _ => rfl) (by simp [Dg.vl])
 refine ⟨o, c, ?_, h2, h3, h4, h5, h6⟩
 rw [zy] at h1
 rw [R_go FF F140 c140.eq_1]
 simp only [RB, RL, un, St.none, Nat.reduceEqDiff, Nat.reduceAdd, Nat.reduceMul, Nat.reduceMod, Nat.reduceLeDiff, Nat.reduceLT, Int.reduceLT, Int.reduceLE, Int.reduceEq, Int.reduceToNat, Int.reduceSub, Int.reduceNeg, Int.reduceAdd, ↓reduceIte, reduceCtorEq, pack, pid, parN, lid, chkK, apartV, Heap.none, h1]
theorem give_l0 {uu v : List Int} (hu : Dg.Dig 4294967296 uu) (hv : Dg.Dig 4294967296 v) (hl : uu.length ≤ 35184372088832) :
  ∀ (d i : Nat) (out : List Int) (c : Int), i + d = uu.length → out.length = uu.length → Dg.Dig 4294967296 out → 0 ≤ c → c ≤ 1 → (∀ j, i ≤ j → out.getD j 0 = uu.getD j 0) →
  Dg.vl 4294967296 (out.take i) + c * 4294967296 ^ i = Dg.vl 4294967296 (uu.take i) + Dg.vl 4294967296 (v.take i) →
  ∃ o c', LP FF [(200000, 2), (0, 1), (1, 0), (4, 0), (7, 0), (8, 0)] [(200000, 2), (0, 1)] b141_0 [.own false 1 (out.map u), .sl 200000 1 0 out.length, (AV.l 1 (List.map u v)), (AV.i .u64 c), (AV.i .i64 ((uu.length : Int))), (AV.i .i64 ((i : Int)))] = some (.exit 0, [.own false 1 (o.map u), .sl 200000 1 0 o.length]) ∧
   o.length = uu.length ∧ Dg.Dig 4294967296 o ∧ 0 ≤ c' ∧ c' ≤ 1 ∧ Dg.vl 4294967296 o + c' * 4294967296 ^ uu.length = Dg.vl 4294967296 uu + Dg.vl 4294967296 (v.take uu.length) := by
 intro d
 induction d with
 | zero =>
  intro i out c hi ho hd hc0 hc1 hsame hval
  refine ⟨out, c, ?_, ho, hd, hc0, hc1, ?_⟩
  ·rw [LP_go FF b141_0.eq_1]
   simp only [RB, RL, un, St.none, Nat.reduceEqDiff, Nat.reduceAdd, Nat.reduceMul, Nat.reduceMod, Nat.reduceLeDiff, Nat.reduceLT, Int.reduceLT, Int.reduceLE, Int.reduceEq, Int.reduceToNat, Int.reduceSub, Int.reduceNeg, Int.reduceAdd, ↓reduceIte, reduceCtorEq, pack, pid, parN, lid, chkK, apartV, Heap.none]
   simp (disch := omega) only [if_pos, if_neg, zh, take_set_len, take_set2_len, take_rep_len, take_snoc_len, take_app_len]
  rw [zc (by omega), zc (l := uu) (by omega), show i = uu.length by omega] at hval
  exact hval
 | succ d ih =>
  intro i out c hi ho hd hc0 hc1 hsame hval
  have gu := hu.getD (by decide) i
  have gv := hv.getD (by decide) i
  have hs := hsame i (zo _)
  have e1 : IntKind.u64.wrap (uu.getD i 0 + v.getD i 0) = uu.getD i 0 + v.getD i 0 := u64w (by omega) (by omega)
  have e2 : IntKind.u64.wrap (c + (uu.getD i 0 + v.getD i 0)) = c + (uu.getD i 0 + v.getD i 0) := u64w (by omega) (by omega)
  have e3 := and32 (x := c + (uu.getD i 0 + v.getD i 0)) (by omega) (by omega)
  have e4 := shr32 (x := c + (uu.getD i 0 + v.getD i 0)) (by omega)
  have e5 : IntKind.i64.wrap ((i : Int) + 1) = ((i + 1 : Nat) : Int) := w64succ (by omega)
  have h9 := ih (i + 1) (out.set i ((c + (uu.getD i 0 + v.getD i 0)) % 4294967296)) ((c + (uu.getD i 0 + v.getD i 0)) / 4294967296) (by omega) (by rw [zx]; exact ho) (hd.set _ (by omega) (by omega)) (by omega) (by omega) (by
   intro j hj
   rw [Dg.getD_set _ _ _ _ (by omega), if_neg (by omega)]
   exact hsame j (by omega)) (by
   rw [set_take _ (by omega), vl_snoc, zk, Nat.min_eq_left (by omega), Dg.vl_take_succ, Dg.vl_take_succ, Int.pow_succ]
   have h1 := Int.mul_ediv_add_emod (c + (uu.getD i 0 + v.getD i 0)) 4294967296
   grind)
  rw [zx] at h9
  rw [LP_go FF b141_0.eq_1]
  simp only [RB, RL, un, St.none, Nat.reduceEqDiff, Nat.reduceAdd, Nat.reduceMul, Nat.reduceMod, Nat.reduceLeDiff, Nat.reduceLT, Int.reduceLT, Int.reduceLE, Int.reduceEq, Int.reduceToNat, Int.reduceSub, Int.reduceNeg, Int.reduceAdd, ↓reduceIte, reduceCtorEq, pack, pid, parN, lid, chkK, apartV, Heap.none, limb_c, hs, e1, e2, e3, e4, e5]
  simp (disch := omega) only [if_pos, if_neg, zh, take_set_len, take_set2_len, take_rep_len, take_snoc_len, take_app_len]
  exact h9
theorem give_c {uu v : List Int} (hu : Dg.Dig 4294967296 uu) (hv : Dg.Dig 4294967296 v) (hl : uu.length ≤ 35184372088832) :
  ∃ (out : List Int) (c : Int), R FF 141 [.own false 1 (uu.map u), (AV.l 1 (List.map u v))] = some (.back (.tup []) [.own false 1 (out.map u)]) ∧ out.length = uu.length ∧ Dg.Dig 4294967296 out ∧ 0 ≤ c ∧ c ≤ 1 ∧ Dg.vl 4294967296 out + c * 4294967296 ^ uu.length = Dg.vl 4294967296 uu + Dg.vl 4294967296 (v.take uu.length) := by
 obtain ⟨o, c, h1, h2, h3, h4, h5, h6⟩ := give_l0 hu hv hl uu.length 0 uu 0 (by omega) rfl hu (by omega) (by omega) (fun j _ => rfl) (by simp [Dg.vl])
 refine ⟨o, c, ?_, h2, h3, h4, h5, h6⟩
 rw [zy] at h1
 rw [R_go FF F141 c141.eq_1]
 simp only [RB, RL, un, St.none, Nat.reduceEqDiff, Nat.reduceAdd, Nat.reduceMul, Nat.reduceMod, Nat.reduceLeDiff, Nat.reduceLT, Int.reduceLT, Int.reduceLE, Int.reduceEq, Int.reduceToNat, Int.reduceSub, Int.reduceNeg, Int.reduceAdd, ↓reduceIte, reduceCtorEq, pack, pid, parN, lid, chkK, apartV, Heap.none, h1]
theorem knuth_gt {g U3 P Ul V2 Vl : Int} (hg : 0 ≤ g) (hP : 0 < P) (hUl : Ul < P) (hVl : 0 ≤ Vl) (h : U3 < g * V2) : U3 * P + Ul < g * (V2 * P + Vl) := by
 have h1 : (U3 + 1) * P ≤ g * V2 * P := zq (by omega) (by omega)
 have h2 : 0 ≤ g * Vl := Int.mul_nonneg hg hVl
 grind
theorem knuth_le {g U3 P Ul V2 Vl B : Int} (hg : 1 ≤ g) (hgB : g ≤ B) (hP : 0 < P) (hUl : 0 ≤ Ul) (hVl0 : 0 ≤ Vl) (hVl : Vl < P) (hB : B ≤ V2) (h : g * V2 ≤ U3) : (g - 1) * (V2 * P + Vl) ≤ U3 * P + Ul := by
 have h1 : g * V2 * P ≤ U3 * P := zq h (by omega)
 have h2 : (g - 1) * Vl ≤ (g - 1) * P := Int.mul_le_mul_of_nonneg_left (by omega) (by omega)
 have h3 : g * P ≤ V2 * P := zq (by omega) (by omega)
 grind
theorem vl_three {l : List Int} {p : Nat} (h : l.length = p + 3) : Dg.vl 4294967296 l = (l.getD (p + 2) 0 * 4294967296 * 4294967296 + l.getD (p + 1) 0 * 4294967296 + l.getD p 0) * 4294967296 ^ p + Dg.vl 4294967296 (l.take p) := by
 have h1 : l.take (p + 3) = l := zc (by omega)
 conv => lhs; rw [← h1]
 rw [Dg.vl_take_succ, Dg.vl_take_succ, Dg.vl_take_succ, Int.pow_succ, Int.pow_succ]
 grind
theorem vl_two {l : List Int} {p : Nat} (h : l.length = p + 2) : Dg.vl 4294967296 l = (l.getD (p + 1) 0 * 4294967296 + l.getD p 0) * 4294967296 ^ p + Dg.vl 4294967296 (l.take p) := by
 have h1 : l.take (p + 2) = l := zc (by omega)
 conv => lhs; rw [← h1]
 rw [Dg.vl_take_succ, Dg.vl_take_succ, Int.pow_succ]
 grind
theorem digit_loop {uu v : List Int} (hu : Dg.Dig 4294967296 uu) (hv : Dg.Dig 4294967296 v) {p : Nat} (hul : uu.length = p + 3) (hvl : v.length = p + 2) (hl : uu.length ≤ 35184372088832) (hn : 2147483648 ≤ v.getD (p + 1) 0) {q : Int} (hq0 : 0 ≤ q) (hq1 : q ≤ 4294967295)
  (hq : 0 ≤ Dg.vl 4294967296 uu - q * Dg.vl 4294967296 v) (hq2 : Dg.vl 4294967296 uu - q * Dg.vl 4294967296 v < Dg.vl 4294967296 v) : ∀ (d : Nat) (g s : Int), g.toNat ≤ d → q ≤ g → g * v.getD (p + 1) 0 + s = uu.getD (p + 2) 0 * 4294967296 + uu.getD (p + 1) 0 → 0 ≤ s → s < 4294967296 → g ≤ 4294967297 →
  ∃ g', LP FF [(200000, 2), (0, 1), (1, 0), (5, 0), (7, 0), (8, 0)] [(200000, 2), (0, 1), (1, 0), (7, 0)] b138_0 [.own false 1 (uu.map u), .sl 200000 1 0 uu.length, (AV.l 1 (List.map u v)), (AV.i .i64 (((p + 2 : Nat) : Int))), (AV.i .u64 g), (AV.i .u64 s)] = some (.exit 0, [.own false 1 (uu.map u), .sl 200000 1 0 uu.length, (AV.l 1 (List.map u v)), (AV.i .u64 (g'))]) ∧ 0 ≤ g' ∧ g' ≤ 4294967295 ∧ (g' = q ∨ g' = q + 1) := by
 have gu0 := hu.getD (by decide) p
 have gu1 := hu.getD (by decide) (p + 1)
 have gu2 := hu.getD (by decide) (p + 2)
 have gv0 := hv.getD (by decide) p
 have gv1 := hv.getD (by decide) (p + 1)
 have hU := vl_three hul
 have hV := vl_two hvl
 have l0 := Dg.vl_nonneg (hu.take p) (by decide)
 have l1 := Dg.vl_lt (hu.take p) (by decide)
 have m0 := Dg.vl_nonneg (hv.take p) (by decide)
 have m1 := Dg.vl_lt (hv.take p) (by decide)
 rw [zk, Nat.min_eq_left (by omega)] at l1 m1
 have hP : 0 < (4294967296 : Int) ^ p := Int.pow_pos (by decide)
 have e1 : IntKind.i64.wrap (((p + 2 : Nat) : Int) - 2) = (p : Int) := by rw [w64 (by omega) (by omega)]; omega
 have e2 : IntKind.i64.wrap (((p + 2 : Nat) : Int) - 1) = ((p + 1 : Nat) : Int) := by rw [w64 (by omega) (by omega)]; omega
 intro d
 induction d with
 | zero =>
  intro g s hd hqg hgs hs0 hs1 hg
  have hg0 : g = 0 := by omega
  subst hg0
  have e3 : IntKind.u64.wrap (0 * v.getD p 0) = 0 := by rw [Int.zero_mul]; exact u64w (by omega) (by omega)
  have e4 := shl32 (x := s) hs0 (by omega)
  have e5 := or32 (x := s) (y := uu.getD p 0) hs0 (by omega) (by omega) (by omega)
  refine ⟨0, ?_, by omega, by omega, .inl (by omega)⟩
  rw [LP_go FF b138_0.eq_1]
  simp only [RB, RL, un, St.none, Nat.reduceEqDiff, Nat.reduceAdd, Nat.reduceMul, Nat.reduceMod, Nat.reduceLeDiff, Nat.reduceLT, Int.reduceLT, Int.reduceLE, Int.reduceEq, Int.reduceToNat, Int.reduceSub, Int.reduceNeg, Int.reduceAdd, ↓reduceIte, reduceCtorEq, pack, pid, parN, lid, chkK, apartV, Heap.none, e1, e2, e3, e4, e5]
  simp (disch := omega) only [if_pos, if_neg, zh, take_set_len, take_set2_len, take_rep_len, take_snoc_len, take_app_len]
 | succ d ih =>
  intro g s hd hqg hgs hs0 hs1 hg
  have hg0 : 0 ≤ g := by omega
  have e4 := shl32 (x := s) hs0 (by omega)
  have e5 := or32 (x := s) (y := uu.getD p 0) hs0 (by omega) (by omega) (by omega)
  have hgv : 0 ≤ g * v.getD p 0 ∧ g * v.getD p 0 ≤ 4294967297 * 4294967295 :=
   ⟨Int.mul_nonneg hg0 (by omega), Int.le_trans (zq hg (by omega)) (Int.mul_le_mul_of_nonneg_left (by omega) (by decide))⟩
  have hgv' : g * v.getD p 0 ≤ 18446744073709551615 := Int.le_trans hgv.2 (by decide)
  have e3 : IntKind.u64.wrap (g * v.getD p 0) = g * v.getD p 0 := u64w hgv.1 hgv'
  have e6 : IntKind.u64.wrap (s + v.getD (p + 1) 0) = s + v.getD (p + 1) 0 := u64w (by omega) (by omega)
  rw [LP_go FF b138_0.eq_1]
  simp only [RB, RL, un, St.none, Nat.reduceEqDiff, Nat.reduceAdd, Nat.reduceMul, Nat.reduceMod, Nat.reduceLeDiff, Nat.reduceLT, Int.reduceLT, Int.reduceLE, Int.reduceEq, Int.reduceToNat, Int.reduceSub, Int.reduceNeg, Int.reduceAdd, ↓reduceIte, reduceCtorEq, pack, pid, parN, lid, chkK, apartV, Heap.none, e1, e2, e3, e4, e5, e6]
  have c1 : (p : Int) < (v.length : Int) := by omega
  have c2 : (p : Int) < (uu.length : Int) := by omega
  have c3 : p < uu.length := by omega
  have c4 : ((p + 1 : Nat) : Int) < (v.length : Int) := by omega
  rw [if_pos (fun _ => ⟨zb p, c1⟩), if_pos (fun _ => ⟨zb p, c2⟩), if_pos (fun _ => c3), if_pos (fun _ => ⟨zb _, c4⟩)]
  clear e1 e2 e3 e4 e5 e6 c1 c2 c3 c4
  have hv0 := Dg.vl_nonneg hv (by decide)
  generalize h_u2 : uu.getD (p + 2) 0 = u2 at *
  generalize h_u1 : uu.getD (p + 1) 0 = u1 at *
  generalize h_u0 : uu.getD p 0 = u0 at *
  generalize h_v1 : v.getD (p + 1) 0 = v1 at *
  generalize h_v0 : v.getD p 0 = v0 at *
  generalize h_UL : Dg.vl 4294967296 (uu.take p) = UL at *
  generalize h_VL : Dg.vl 4294967296 (v.take p) = VL at *
  generalize h_P : (4294967296 : Int) ^ p = P at *
  have htop : u2 * 4294967296 + u1 ≤ v1 * 4294967296 + 4294967295 := by
   have hlt : Dg.vl 4294967296 uu < 4294967296 * Dg.vl 4294967296 v := by
    have : (q + 1) * Dg.vl 4294967296 v ≤ 4294967296 * Dg.vl 4294967296 v := zq (by omega) (by
     rw [hV]
     have : 0 ≤ (v1 * 4294967296 + v0) * P := Int.mul_nonneg (by omega) (by omega)
     omega)
    rw [Int.add_mul] at this
    omega
   rw [hU, hV] at hlt
   apply Classical.byContradiction
   intro hc
   have h1 : (v1 + 1) * 4294967296 ≤ u2 * 4294967296 + u1 := by omega
   have h2 : (v1 + 1) * 4294967296 * 4294967296 * P ≤ (u2 * 4294967296 * 4294967296 + u1 * 4294967296 + u0) * P := zq (by omega) (by omega)
   have h3 : (v1 * 4294967296 + v0 + 1) * P ≤ (v1 + 1) * 4294967296 * P := zq (by omega) (by omega)
   grind
  by_cases hgo : 4294967296 ≤ g ∨ s * 4294967296 + u0 < g * v0
  ·rw [if_pos hgo]
   have hlt : q < g := by
    rcases hgo with h | hgt
    ·omega
    ·have h4 : u2 * 4294967296 * 4294967296 + u1 * 4294967296 + u0 < g * (v1 * 4294967296 + v0) := by
      have h2 : g * (v1 * 4294967296 + v0) = g * v1 * 4294967296 + g * v0 := by grind
      rw [h2]
      generalize g * v1 = X at *
      omega
     have h5 := knuth_gt (Ul := UL) (Vl := VL) hg0 hP l1 m0 h4
     rw [← hU, ← hV] at h5
     apply Classical.byContradiction
     intro hc
     have : g * Dg.vl 4294967296 v ≤ q * Dg.vl 4294967296 v := zq (by omega) hv0
     omega
   have hw3 : IntKind.u64.wrap (g - 1) = g - 1 := u64w (by omega) (by omega)
   have hgs2 : (g - 1) * v1 + (s + v1) = u2 * 4294967296 + u1 := by rw [← hgs]; grind
   rw [hw3]
   by_cases hbr : 4294967296 ≤ s + v1
   ·rw [if_pos hbr]
    have hgB : g - 1 ≤ 4294967295 := by
     apply Classical.byContradiction
     intro hc
     have : 4294967296 * v1 ≤ (g - 1) * v1 := zq (by omega) (by omega)
     omega
    refine ⟨g - 1, rfl, by omega, hgB, ?_⟩
    have hle : (g - 1) * (v1 * 4294967296 + v0) ≤ u2 * 4294967296 * 4294967296 + u1 * 4294967296 + u0 := by
     have h1 : (g - 1) * v0 ≤ 4294967295 * 4294967295 := Int.le_trans (zq hgB (by omega)) (Int.mul_le_mul_of_nonneg_left (by omega) (by decide))
     have h2 : (g - 1) * (v1 * 4294967296 + v0) = (g - 1) * v1 * 4294967296 + (g - 1) * v0 := by grind
     rw [h2]
     generalize (g - 1) * v1 = X at *
     generalize (g - 1) * v0 = Y at *
     omega
    rcases Int.lt_or_le 0 (g - 1) with h0 | h0
    ·have h5 := knuth_le (g := g - 1) (U3 := u2 * 4294967296 * 4294967296 + u1 * 4294967296 + u0) (P := P) (Ul := UL) (V2 := v1 * 4294967296 + v0) (Vl := VL) (B := 4294967296) (by omega) (by omega) hP l0 m0 m1 (by omega) hle
     rw [← hU, ← hV] at h5
     rcases Int.lt_or_le (g - 1) (q + 2) with h6 | h6
     ·omega
     ·have : (q + 1) * Dg.vl 4294967296 v ≤ (g - 1 - 1) * Dg.vl 4294967296 v := zq (by omega) hv0
      rw [Int.add_mul] at this
      omega
    ·omega
   ·rw [if_neg hbr]
    exact ih (g - 1) (s + v1) (by omega) (by omega) hgs2 (by omega) (by omega) (by omega)
  ·rw [if_neg hgo]
   have hg5 : g ≤ 4294967295 := by omega
   have hgt : g * v0 ≤ s * 4294967296 + u0 := by
    apply Classical.byContradiction
    intro hc
    exact hgo (.inr (by omega))
   refine ⟨g, rfl, hg0, hg5, ?_⟩
   have hle : g * (v1 * 4294967296 + v0) ≤ u2 * 4294967296 * 4294967296 + u1 * 4294967296 + u0 := by
    have h2 : g * (v1 * 4294967296 + v0) = g * v1 * 4294967296 + g * v0 := by grind
    rw [h2]
    generalize g * v1 = X at *
    omega
   rcases Int.lt_or_le 0 g with h0 | h0
   ·have h5 := knuth_le (g := g) (U3 := u2 * 4294967296 * 4294967296 + u1 * 4294967296 + u0) (P := P) (Ul := UL) (V2 := v1 * 4294967296 + v0) (Vl := VL) (B := 4294967296) (by omega) (by omega) hP l0 m0 m1 (by omega) hle
    rw [← hU, ← hV] at h5
    rcases Int.lt_or_le g (q + 2) with h6 | h6
    ·omega
    ·have : (q + 1) * Dg.vl 4294967296 v ≤ (g - 1) * Dg.vl 4294967296 v := zq (by omega) hv0
     rw [Int.add_mul] at this
     omega
   ·omega
theorem digit_first {uu v : List Int} (hu : Dg.Dig 4294967296 uu) (hv : Dg.Dig 4294967296 v) {p : Nat} (hul : uu.length = p + 3) (hvl : v.length = p + 2) (hn : 2147483648 ≤ v.getD (p + 1) 0) {q : Int} (hq0 : 0 ≤ q) (hq1 : q ≤ 4294967295)
  (hq : 0 ≤ Dg.vl 4294967296 uu - q * Dg.vl 4294967296 v) (hq2 : Dg.vl 4294967296 uu - q * Dg.vl 4294967296 v < Dg.vl 4294967296 v) :
  q ≤ (uu.getD (p + 2) 0 * 4294967296 + uu.getD (p + 1) 0) / v.getD (p + 1) 0 ∧ uu.getD (p + 2) 0 * 4294967296 + uu.getD (p + 1) 0 ≤ v.getD (p + 1) 0 * 4294967296 + 4294967295 := by
 have gu0 := hu.getD (by decide) p
 have gu1 := hu.getD (by decide) (p + 1)
 have gu2 := hu.getD (by decide) (p + 2)
 have gv0 := hv.getD (by decide) p
 have gv1 := hv.getD (by decide) (p + 1)
 have hU := vl_three hul
 have hV := vl_two hvl
 have l0 := Dg.vl_nonneg (hu.take p) (by decide)
 have l1 := Dg.vl_lt (hu.take p) (by decide)
 have m0 := Dg.vl_nonneg (hv.take p) (by decide)
 have m1 := Dg.vl_lt (hv.take p) (by decide)
 rw [zk, Nat.min_eq_left (by omega)] at l1 m1
 have hP : 0 < (4294967296 : Int) ^ p := Int.pow_pos (by decide)
 have hqr := Int.mul_ediv_add_emod (uu.getD (p + 2) 0 * 4294967296 + uu.getD (p + 1) 0) (v.getD (p + 1) 0)
 have r1 := Int.emod_lt_of_pos (uu.getD (p + 2) 0 * 4294967296 + uu.getD (p + 1) 0) (show 0 < v.getD (p + 1) 0 by omega)
 generalize h_u2 : uu.getD (p + 2) 0 = u2 at *
 generalize h_u1 : uu.getD (p + 1) 0 = u1 at *
 generalize h_u0 : uu.getD p 0 = u0 at *
 generalize h_v1 : v.getD (p + 1) 0 = v1 at *
 generalize h_v0 : v.getD p 0 = v0 at *
 generalize h_UL : Dg.vl 4294967296 (uu.take p) = UL at *
 generalize h_VL : Dg.vl 4294967296 (v.take p) = VL at *
 generalize h_P : (4294967296 : Int) ^ p = P at *
 refine ⟨?_, ?_⟩
 rotate_left
 ·skip
  have htop : u2 * 4294967296 + u1 ≤ v1 * 4294967296 + 4294967295 := by
   have hlt : Dg.vl 4294967296 uu < 4294967296 * Dg.vl 4294967296 v := by
    have : (q + 1) * Dg.vl 4294967296 v ≤ 4294967296 * Dg.vl 4294967296 v := zq (by omega) (by
     rw [hV]
     have : 0 ≤ (v1 * 4294967296 + v0) * P := Int.mul_nonneg (by omega) (by omega)
     omega)
    rw [Int.add_mul] at this
    omega
   rw [hU, hV] at hlt
   apply Classical.byContradiction
   intro hc
   have h1 : (v1 + 1) * 4294967296 ≤ u2 * 4294967296 + u1 := by omega
   have h2 : (v1 + 1) * 4294967296 * 4294967296 * P ≤ (u2 * 4294967296 * 4294967296 + u1 * 4294967296 + u0) * P := zq (by omega) (by omega)
   have h3 : (v1 * 4294967296 + v0 + 1) * P ≤ (v1 + 1) * 4294967296 * P := zq (by omega) (by omega)
   grind
  exact htop
 ·apply Classical.byContradiction
  intro hc
  have h1 : ((u2 * 4294967296 + u1) / v1 + 1) * v1 ≤ q * v1 := zq (by omega) (by omega)
  have h2 : u2 * 4294967296 + u1 + 1 ≤ q * v1 := by
   rw [Int.add_mul, Int.mul_comm _ v1] at h1
   omega
  have h3 : u2 * 4294967296 * 4294967296 + u1 * 4294967296 + u0 < q * (v1 * 4294967296 + v0) := by
   have h4 : 0 ≤ q * v0 := Int.mul_nonneg hq0 (by omega)
   have h5 : q * (v1 * 4294967296 + v0) = q * v1 * 4294967296 + q * v0 := by grind
   rw [h5]
   omega
  have h6 := knuth_gt (Ul := UL) (Vl := VL) hq0 hP l1 m0 h3
  rw [← hU, ← hV] at h6
  omega
theorem digit_c {uu v : List Int} (hu : Dg.Dig 4294967296 uu) (hv : Dg.Dig 4294967296 v) {p : Nat} (hul : uu.length = p + 3) (hvl : v.length = p + 2) (hl : uu.length ≤ 35184372088832) (hn : 2147483648 ≤ v.getD (p + 1) 0) {q : Int} (hq0 : 0 ≤ q) (hq1 : q ≤ 4294967295)
  (hq : 0 ≤ Dg.vl 4294967296 uu - q * Dg.vl 4294967296 v) (hq2 : Dg.vl 4294967296 uu - q * Dg.vl 4294967296 v < Dg.vl 4294967296 v) :
  ∃ r : List Int, R FF 138 [.own false 1 (uu.map u), (AV.l 1 (List.map u v))] = some (.back (AV.i .u64 q) [.own false 1 (r.map u)]) ∧ r.length = uu.length ∧ Dg.Dig 4294967296 r ∧ Dg.vl 4294967296 r = Dg.vl 4294967296 uu - q * Dg.vl 4294967296 v := by
 have gu0 := hu.getD (by decide) p
 have gu1 := hu.getD (by decide) (p + 1)
 have gu2 := hu.getD (by decide) (p + 2)
 have gv0 := hv.getD (by decide) p
 have gv1 := hv.getD (by decide) (p + 1)
 have t0 : 0 ≤ uu.getD (p + 2) 0 * 4294967296 + uu.getD (p + 1) 0 := by omega
 have d0 : 0 ≤ (uu.getD (p + 2) 0 * 4294967296 + uu.getD (p + 1) 0) / v.getD (p + 1) 0 := Int.ediv_nonneg t0 (by omega)
 have r0 := Int.emod_nonneg (uu.getD (p + 2) 0 * 4294967296 + uu.getD (p + 1) 0) (show v.getD (p + 1) 0 ≠ 0 by omega)
 have r1 := Int.emod_lt_of_pos (uu.getD (p + 2) 0 * 4294967296 + uu.getD (p + 1) 0) (show 0 < v.getD (p + 1) 0 by omega)
 have hqr := Int.mul_ediv_add_emod (uu.getD (p + 2) 0 * 4294967296 + uu.getD (p + 1) 0) (v.getD (p + 1) 0)
 have hfirst : q ≤ (uu.getD (p + 2) 0 * 4294967296 + uu.getD (p + 1) 0) / v.getD (p + 1) 0 ∧ uu.getD (p + 2) 0 * 4294967296 + uu.getD (p + 1) 0 ≤ v.getD (p + 1) 0 * 4294967296 + 4294967295 := digit_first hu hv hul hvl hn hq0 hq1 hq hq2
 have d1 : (uu.getD (p + 2) 0 * 4294967296 + uu.getD (p + 1) 0) / v.getD (p + 1) 0 ≤ 4294967297 := by
  have : (uu.getD (p + 2) 0 * 4294967296 + uu.getD (p + 1) 0) / v.getD (p + 1) 0 < 4294967298 := by
   apply Int.ediv_lt_of_lt_mul (by omega)
   omega
  omega
 obtain ⟨g, hloop, hg0, hg1, hgq⟩ := digit_loop hu hv hul hvl hl hn hq0 hq1 hq hq2 _ _ _ (zo _) hfirst.1 (by rw [Int.mul_comm]; exact hqr) r0 (by omega) d1
 obtain ⟨o, c, htake, ho, hd, hc0, hc1, hval⟩ := take_c hu hv hl (by omega) hg0 hg1
 have o0 := Dg.vl_nonneg hd (by decide)
 have o1 := Dg.vl_lt hd (by decide)
 rw [ho] at o1
 have v0 := Dg.vl_nonneg hv (by decide)
 have v1 := Dg.vl_lt hv (by decide)
 have v2 : (4294967296 : Int) ^ v.length ≤ 4294967296 ^ uu.length := Dg.pow_mono (by decide) (by omega)
 have e0 : (v.length : Int) = ((p + 2 : Nat) : Int) := by rw [hvl]
 have e2 : IntKind.i64.wrap (((p + 2 : Nat) : Int) - 1) = ((p + 1 : Nat) : Int) := by rw [w64 (by omega) (by omega)]; omega
 have e4 := shl32 (x := uu.getD (p + 2) 0) (by omega) (by omega)
 have e5 := or32 (x := uu.getD (p + 2) 0) (y := uu.getD (p + 1) 0) (by omega) (by omega) (by omega) (by omega)
 have e6 : IntKind.u64.wrap (Int.tdiv (uu.getD (p + 2) 0 * 4294967296 + uu.getD (p + 1) 0) (v.getD (p + 1) 0)) = (uu.getD (p + 2) 0 * 4294967296 + uu.getD (p + 1) 0) / v.getD (p + 1) 0 := by rw [tdiv_pos t0]; exact u64w d0 (by omega)
 have e7 : Int.tmod (uu.getD (p + 2) 0 * 4294967296 + uu.getD (p + 1) 0) (v.getD (p + 1) 0) = (uu.getD (p + 2) 0 * 4294967296 + uu.getD (p + 1) 0) % v.getD (p + 1) 0 := tmod_pos t0
 have c1 : ((p + 1 : Nat) : Int) < ((p + 2 : Nat) : Int) := by omega
 have c2 : ((p + 2 : Nat) : Int) < (uu.length : Int) := by omega
 have c3 : ((p + 1 : Nat) : Int) < (uu.length : Int) := by omega
 have c4 : p + 2 < uu.length := by omega
 have c5 : p + 1 < uu.length := by omega
 have c6 : ¬ v.getD (p + 1) 0 = 0 := by omega
 rw [R_go FF F138 c138.eq_1]
 simp only [RB, RL, un, St.none, Nat.reduceEqDiff, Nat.reduceAdd, Nat.reduceMul, Nat.reduceMod, Nat.reduceLeDiff, Nat.reduceLT, Int.reduceLT, Int.reduceLE, Int.reduceEq, Int.reduceToNat, Int.reduceSub, Int.reduceNeg, Int.reduceAdd, ↓reduceIte, reduceCtorEq, pack, pid, parN, lid, chkK, apartV, Heap.none, e0, e2, e4, e5, e6, e7, hloop, htake]
 rw [if_pos ⟨zb _, c2⟩, if_pos c4, if_pos ⟨zb _, c3⟩, if_pos c5, if_pos ⟨zb _, c1⟩, if_neg c6, if_pos ⟨zb _, c1⟩, if_neg c6]
 have hto : List.take uu.length o = o := by rw [← ho, zh]
 simp only [RB, RL, un, St.none, Nat.reduceEqDiff, Nat.reduceAdd, Nat.reduceMul, Nat.reduceMod, Nat.reduceLeDiff, Nat.reduceLT, Int.reduceLT, Int.reduceLE, Int.reduceEq, Int.reduceToNat, Int.reduceSub, Int.reduceNeg, Int.reduceAdd, ↓reduceIte, reduceCtorEq, pack, pid, parN, lid, chkK, apartV, Heap.none, htake, hto]
 rw [if_pos ho]
 rcases hgq with rfl | rfl
 ·have hc : c = 0 := by
   rcases (show c = 0 ∨ c = 1 by omega) with h | h
   ·exact h
   ·subst h
    omega
  subst hc
  exact ⟨o, by rw [if_neg (by decide)], ho, hd, by omega⟩
 ·have hc : c = 1 := by
   rcases (show c = 0 ∨ c = 1 by omega) with h | h
   ·subst h
    rw [Int.add_mul] at hval
    omega
   ·exact h
  subst hc
  rw [Int.add_mul, Int.one_mul, Int.one_mul] at hval
  obtain ⟨r, c', hgive, h1, h2, h3, h4, h5⟩ := give_c hd hv (by omega)
  have a0 := Dg.vl_nonneg h2 (by decide)
  have a1 := Dg.vl_lt h2 (by decide)
  rw [h1, ho] at a1
  rw [zc (by omega), hval, ho] at h5
  have hc' : c' = 1 := by
   rcases (show c' = 0 ∨ c' = 1 by omega) with h | h
   ·subst h
    omega
   ·exact h
  subst hc'
  have hw : IntKind.u64.wrap (q + 1 - 1) = q := by rw [u64w (by omega) (by omega)]; omega
  have htr : List.take uu.length r = r := by rw [← ho, ← h1, zh]
  refine ⟨r, ?_, h1.trans ho, h2, by omega⟩
  rw [if_pos rfl]
  simp only [RB, RL, un, St.none, Nat.reduceEqDiff, Nat.reduceAdd, Nat.reduceMul, Nat.reduceMod, Nat.reduceLeDiff, Nat.reduceLT, Int.reduceLT, Int.reduceLE, Int.reduceEq, Int.reduceToNat, Int.reduceSub, Int.reduceNeg, Int.reduceAdd, ↓reduceIte, reduceCtorEq, pack, pid, parN, lid, chkK, apartV, Heap.none, hgive, hw, htr]
  rw [if_pos (h1.trans ho), zG (by omega), List.append_nil]
theorem len8_all : ∀ i : Fin 256, i.val = 0 ∨ ((1 ≤ bt len8 (i.val : Int) ∧ bt len8 (i.val : Int) ≤ 8) ∧ 2 ^ ((bt len8 (i.val : Int)).toNat - 1) ≤ i.val ∧ i.val < 2 ^ (bt len8 (i.val : Int)).toNat) := by decide +kernel
theorem len8_c {i : Int} (h0 : 0 < i) (h1 : i < 256) : ∃ m : Nat, bt len8 i = (m : Int) ∧ 1 ≤ m ∧ m ≤ 8 ∧ ((2 ^ (m - 1) : Nat) : Int) ≤ i ∧ i < ((2 ^ m : Nat) : Int) := by
 obtain ⟨n, rfl⟩ := Int.eq_ofNat_of_zero_le (Int.le_of_lt h0)
 have h9 := len8_all ⟨n, by omega⟩
 simp only at h9
 generalize bt len8 (n : Int) = b at *
 rcases h9 with h | ⟨⟨h2, h3⟩, h4, h5⟩
 ·omega
 ·exact ⟨b.toNat, by omega, by omega, by omega, Int.ofNat_le.2 h4, Int.ofNat_lt.2 h5⟩
theorem fd16 {x : Int} (h : 0 ≤ x) : x.fdiv (2 ^ Nat.min 16 IntKind.u32.bits) = x / 65536 := by
 rw [show Nat.min 16 IntKind.u32.bits = 16 by decide, Int.fdiv_eq_ediv_of_nonneg _ (by decide)]; rfl
theorem fd8 {x : Int} (h : 0 ≤ x) : x.fdiv (2 ^ Nat.min 8 IntKind.u32.bits) = x / 256 := by
 rw [show Nat.min 8 IntKind.u32.bits = 8 by decide, Int.fdiv_eq_ediv_of_nonneg _ (by decide)]; rfl
theorem u8w {x : Int} (h0 : 0 ≤ x) (h1 : x ≤ 255) : IntKind.u8.wrap x = x := by
 simp only [IntKind.wrap, IntKind.bits, IntKind.signed]
 simp
 omega
theorem len8_size : (len8.size : Int) = 256 := by decide +kernel
theorem len32_c {x : Int} (h0 : 0 < x) (h1 : x < 4294967296) {y : Int} {k m : Nat} (hy : (16777216 ≤ x ∧ y = x / 16777216 ∧ k = 24) ∨ (65536 ≤ x ∧ x < 16777216 ∧ y = x / 65536 ∧ k = 16) ∨ (256 ≤ x ∧ x < 65536 ∧ y = x / 256 ∧ k = 8) ∨ (x < 256 ∧ y = x ∧ k = 0)) (hm : bt len8 y = (m : Int)) (m8 : m ≤ 8) :
  R FF 139 [.i .u32 x] = some (AV.i .i64 (((k + m : Nat) : Int))) := by
 have w24 : IntKind.i64.wrap (16 + 8) = 24 := w64 (by omega) (by omega)
 have w8 : IntKind.i64.wrap (0 + 8) = 8 := w64 (by omega) (by omega)
 have wm : IntKind.i64.wrap (m : Int) = m := w64 (by omega) (by omega)
 rw [R_go FF F139 c139.eq_1]
 simp only [RB, RL, un, St.none, Nat.reduceEqDiff, Nat.reduceAdd, Nat.reduceMul, Nat.reduceMod, Nat.reduceLeDiff, Nat.reduceLT, Int.reduceLT, Int.reduceLE, Int.reduceEq, Int.reduceToNat, Int.reduceSub, Int.reduceNeg, Int.reduceAdd, ↓reduceIte, reduceCtorEq, pack, pid, parN, lid, chkK, apartV, Heap.none, fd16 (Int.le_of_lt h0), len8_size]
 rcases hy with ⟨c1, rfl, rfl⟩ | ⟨c1, c2, rfl, rfl⟩ | ⟨c1, c2, rfl, rfl⟩ | ⟨c1, hyx, rfl⟩
 ·have a1 : 65536 ≤ x := by omega
  have a2 : 256 ≤ x / 65536 := by omega
  have a3 : x / 65536 / 256 = x / 16777216 := by omega
  simp only [a1, a2, if_true, fd8 (show 0 ≤ x / 65536 by omega), a3, u8w (show 0 ≤ x / 16777216 by omega) (by omega), hm, w24, wm]
  rw [if_pos (by omega), w64 (by omega) (by omega)]
  first | rfl | (congr 2; done) | (congr 2; omega)
 ·have a1 : 65536 ≤ x := by omega
  have a2 : ¬ 256 ≤ x / 65536 := by omega
  simp only [a1, a2, if_true, if_false, u8w (show 0 ≤ x / 65536 by omega) (by omega), hm, wm]
  rw [if_pos (by omega), w64 (by omega) (by omega)]
  first | rfl | (congr 2; done) | (congr 2; omega)
 ·have a1 : ¬ 65536 ≤ x := by omega
  simp only [a1, c1, if_true, if_false, fd8 (show 0 ≤ x by omega), u8w (show 0 ≤ x / 256 by omega) (by omega), hm, w8, wm]
  rw [if_pos (by omega), w64 (by omega) (by omega)]
  first | rfl | (congr 2; done) | (congr 2; omega)
 ·rw [hyx] at hm
  have a1 : ¬ 65536 ≤ x := by omega
  have a2 : ¬ 256 ≤ x := by omega
  simp only [a1, a2, if_true, if_false, u8w (show 0 ≤ x by omega) (by omega), hm, wm]
  rw [if_pos (by omega), w64 (by omega) (by omega)]
  first | rfl | (congr 2; done) | (congr 2; omega)
theorem lz32 {x : Int} (h0 : 0 < x) (h1 : x < 4294967296) : ∃ s : Nat, s ≤ 31 ∧ R FF 137 [.i .u32 x] = some (AV.i .i64 ((s : Int))) ∧ 2147483648 ≤ x * 2 ^ s ∧ x * 2 ^ s < 4294967296 := by
 rcases (show 16777216 ≤ x ∨ (65536 ≤ x ∧ x < 16777216) ∨ (256 ≤ x ∧ x < 65536) ∨ x < 256 by omega) with c | c | c | c
 ·obtain ⟨m, hm, m1, m8, hlo, hhi⟩ := len8_c (i := x / 16777216) (by omega) (by omega)
  refine ⟨8 - m, by omega, ?_, ?_⟩
  ·have h := len32_c h0 h1 (y := x / 16777216) (k := 24) (.inl ⟨c, rfl, rfl⟩) hm m8
   rw [R_go FF F137 c137.eq_1]
   have e : IntKind.i64.wrap (32 - ((24 + m : Nat) : Int)) = ((8 - m : Nat) : Int) := by rw [w64 (by omega) (by omega)]; omega
   simp only [RB, RL, un, St.none, Nat.reduceEqDiff, Nat.reduceAdd, Nat.reduceMul, Nat.reduceMod, Nat.reduceLeDiff, Nat.reduceLT, Int.reduceLT, Int.reduceLE, Int.reduceEq, Int.reduceToNat, Int.reduceSub, Int.reduceNeg, Int.reduceAdd, ↓reduceIte, reduceCtorEq, pack, pid, parN, lid, chkK, apartV, Heap.none, h, e]
  ·rcases (show m = 1 ∨ m = 2 ∨ m = 3 ∨ m = 4 ∨ m = 5 ∨ m = 6 ∨ m = 7 ∨ m = 8 by omega) with rfl | rfl | rfl | rfl | rfl | rfl | rfl | rfl <;> simp only [Nat.reducePow, Nat.reduceSub, Int.reducePow] at * <;> omega
 ·obtain ⟨m, hm, m1, m8, hlo, hhi⟩ := len8_c (i := x / 65536) (by omega) (by omega)
  refine ⟨16 - m, by omega, ?_, ?_⟩
  ·have h := len32_c h0 h1 (y := x / 65536) (k := 16) (.inr (.inl ⟨c.1, c.2, rfl, rfl⟩)) hm m8
   rw [R_go FF F137 c137.eq_1]
   have e : IntKind.i64.wrap (32 - ((16 + m : Nat) : Int)) = ((16 - m : Nat) : Int) := by rw [w64 (by omega) (by omega)]; omega
   simp only [RB, RL, un, St.none, Nat.reduceEqDiff, Nat.reduceAdd, Nat.reduceMul, Nat.reduceMod, Nat.reduceLeDiff, Nat.reduceLT, Int.reduceLT, Int.reduceLE, Int.reduceEq, Int.reduceToNat, Int.reduceSub, Int.reduceNeg, Int.reduceAdd, ↓reduceIte, reduceCtorEq, pack, pid, parN, lid, chkK, apartV, Heap.none, h, e]
  ·rcases (show m = 1 ∨ m = 2 ∨ m = 3 ∨ m = 4 ∨ m = 5 ∨ m = 6 ∨ m = 7 ∨ m = 8 by omega) with rfl | rfl | rfl | rfl | rfl | rfl | rfl | rfl <;> simp only [Nat.reducePow, Nat.reduceSub, Int.reducePow] at * <;> omega
 ·obtain ⟨m, hm, m1, m8, hlo, hhi⟩ := len8_c (i := x / 256) (by omega) (by omega)
  refine ⟨24 - m, by omega, ?_, ?_⟩
  ·have h := len32_c h0 h1 (y := x / 256) (k := 8) (.inr (.inr (.inl ⟨c.1, c.2, rfl, rfl⟩))) hm m8
   rw [R_go FF F137 c137.eq_1]
   have e : IntKind.i64.wrap (32 - ((8 + m : Nat) : Int)) = ((24 - m : Nat) : Int) := by rw [w64 (by omega) (by omega)]; omega
   simp only [RB, RL, un, St.none, Nat.reduceEqDiff, Nat.reduceAdd, Nat.reduceMul, Nat.reduceMod, Nat.reduceLeDiff, Nat.reduceLT, Int.reduceLT, Int.reduceLE, Int.reduceEq, Int.reduceToNat, Int.reduceSub, Int.reduceNeg, Int.reduceAdd, ↓reduceIte, reduceCtorEq, pack, pid, parN, lid, chkK, apartV, Heap.none, h, e]
  ·rcases (show m = 1 ∨ m = 2 ∨ m = 3 ∨ m = 4 ∨ m = 5 ∨ m = 6 ∨ m = 7 ∨ m = 8 by omega) with rfl | rfl | rfl | rfl | rfl | rfl | rfl | rfl <;> simp only [Nat.reducePow, Nat.reduceSub, Int.reducePow] at * <;> omega
 ·obtain ⟨m, hm, m1, m8, hlo, hhi⟩ := len8_c (i := x) (by omega) (by omega)
  refine ⟨32 - m, by omega, ?_, ?_⟩
  ·have h := len32_c h0 h1 (y := x) (k := 0) (.inr (.inr (.inr ⟨c, rfl, rfl⟩))) hm m8
   rw [R_go FF F137 c137.eq_1]
   have e : IntKind.i64.wrap (32 - (m : Int)) = ((32 - m : Nat) : Int) := by rw [w64 (by omega) (by omega)]; omega
   rw [zF] at h
   simp only [RB, RL, un, St.none, Nat.reduceEqDiff, Nat.reduceAdd, Nat.reduceMul, Nat.reduceMod, Nat.reduceLeDiff, Nat.reduceLT, Int.reduceLT, Int.reduceLE, Int.reduceEq, Int.reduceToNat, Int.reduceSub, Int.reduceNeg, Int.reduceAdd, ↓reduceIte, reduceCtorEq, pack, pid, parN, lid, chkK, apartV, Heap.none, h, e]
  ·rcases (show m = 1 ∨ m = 2 ∨ m = 3 ∨ m = 4 ∨ m = 5 ∨ m = 6 ∨ m = 7 ∨ m = 8 by omega) with rfl | rfl | rfl | rfl | rfl | rfl | rfl | rfl <;> simp only [Nat.reducePow, Nat.reduceSub, Int.reducePow] at * <;> omega
theorem vl_all_zero {B : Int} {l : List Int} (h : ∀ j, l.getD j 0 = 0) : Dg.vl B l = 0 := by
 induction l with
 | nil => rfl
 | cons x r ih =>
  have h0 := h 0
  simp at h0
  rw [Dg.vl, h0, ih (fun j => by simpa using h (j + 1))]
  simp
theorem getD_drop (l : List Int) (c j : Nat) : (l.drop c).getD j 0 = l.getD (c + j) 0 := by rw [za, List.getElem?_drop, ← za]
theorem vl_zero_from {B : Int} {l : List Int} {c : Nat} (h : ∀ j, c ≤ j → l.getD j 0 = 0) : Dg.vl B (l.drop c) = 0 := vl_all_zero fun j => by rw [getD_drop]; exact h _ (by omega)
theorem vl_take_zero {B : Int} {l : List Int} {c : Nat} (h : ∀ j, c ≤ j → l.getD j 0 = 0) : Dg.vl B (l.take c) = Dg.vl B l := by
 rw [Dg.vl_take_drop B l c, vl_zero_from h]
 simp
theorem getD_top {n p : Nat} (h : L n = p + 1) : (D n).getD p 0 = ((n / 4294967296 ^ p : Nat) : Int) := by
 have h1 := vl_drop_D n p
 rw [Dg.vl_drop_succ, zG (by show L n ≤ p + 1; omega)] at h1
 simpa [Dg.vl] using h1
theorem long_l0 {v : List Int} (hv : Dg.Dig 4294967296 v) {p m s : Nat} (hvl : v.length = p + 2) (hn : 2147483648 ≤ v.getD (p + 1) 0) (hs : s ≤ 31) (hl : m + p + 2 ≤ 17592186044416) {Q R : Nat} (hR : (R * 2 ^ s : Nat) < Dg.vl 4294967296 v) :
  ∀ (t : Nat) (uu q : List Int), t ≤ m → uu.length = m + p + 2 → q.length = m → Dg.Dig 4294967296 uu → Dg.Dig 4294967296 q → Dg.vl 4294967296 (uu.drop t) < Dg.vl 4294967296 v → (∀ j, t + (p + 2) ≤ j → uu.getD j 0 = 0) →
  Dg.vl 4294967296 (q.drop t) * Dg.vl 4294967296 v * 4294967296 ^ t + Dg.vl 4294967296 uu = (Q : Int) * Dg.vl 4294967296 v + (R * 2 ^ s : Nat) →
  ∃ uf qf, LP FF [(8, 1), (10, 1), (6, 0), (7, 0), (9, 0), (11, 0)] [(6, 0), (8, 0), (10, 0)] b131_0 [.own true 1 (uu.map u), .own true 1 (q.map u), (AV.i .i64 ((s : Int))), (AV.l 1 (List.map u v)), (AV.i .i64 (((p + 2 : Nat) : Int))), (AV.i .i64 ((t : Int) - 1))] = some (.exit 0, [(AV.i .i64 ((s : Int))), (AV.l 1 (List.map u uf)), (AV.l 1 (List.map u qf))]) ∧ Dg.Dig 4294967296 uf ∧ Dg.Dig 4294967296 qf ∧ uf.length = m + p + 2 ∧ qf.length = m ∧ Dg.vl 4294967296 qf = Q ∧ Dg.vl 4294967296 uf = (R * 2 ^ s : Nat) := by
 intro t
 have v0 := Dg.vl_nonneg hv (by decide)
 have v1 := Dg.vl_lt hv (by decide)
 induction t with
 | zero =>
  intro uu q ht hul hql hu hq hlt hz hval
  rw [zz] at hlt
  rw [zz, Int.pow_zero, Int.mul_one] at hval
  have u0 := Dg.vl_nonneg hu (by decide)
  have hQ : Dg.vl 4294967296 q = Q := by
   rcases Int.lt_trichotomy (Dg.vl 4294967296 q) Q with h | h | h
   ·have : (Dg.vl 4294967296 q + 1) * Dg.vl 4294967296 v ≤ Q * Dg.vl 4294967296 v := zq (by omega) v0
    rw [Int.add_mul] at this
    omega
   ·exact h
   ·have : ((Q : Int) + 1) * Dg.vl 4294967296 v ≤ Dg.vl 4294967296 q * Dg.vl 4294967296 v := zq (by omega) v0
    rw [Int.add_mul] at this
    omega
  rw [hQ] at hval
  refine ⟨uu, q, ?_, hu, hq, hul, hql, hQ, by omega⟩
  rw [LP_go FF b131_0.eq_1]
  simp only [RB, RL, un, St.none, Nat.reduceEqDiff, Nat.reduceAdd, Nat.reduceMul, Nat.reduceMod, Nat.reduceLeDiff, Nat.reduceLT, Int.reduceLT, Int.reduceLE, Int.reduceEq, Int.reduceToNat, Int.reduceSub, Int.reduceNeg, Int.reduceAdd, ↓reduceIte, reduceCtorEq, pack, pid, parN, lid, chkK, apartV, Heap.none]
 | succ t ih =>
  intro uu q ht hul hql hu hq hlt hz hval
  -- the window
  have e0 : ((t + 1 : Nat) : Int) - 1 = (t : Int) := by omega
  have hwl : ((uu.drop t).take (p + 3)).length = p + 3 := by rw [zk, List.length_drop]; omega
  have hwd : Dg.Dig 4294967296 ((uu.drop t).take (p + 3)) := (hu.drop _).take _
  have hz' : ∀ j, t + (p + 3) ≤ j → uu.getD j 0 = 0 := fun j hj => hz j (by omega)
  have hwv : Dg.vl 4294967296 ((uu.drop t).take (p + 3)) = Dg.vl 4294967296 (uu.drop t) := vl_take_zero fun j hj => by rw [getD_drop]; exact hz' _ (by omega)
  have hstep := Dg.vl_drop_succ 4294967296 uu t
  have gu := hu.getD (by decide) t
  have d1 := Dg.vl_nonneg (hu.drop (t + 1)) (by decide)
  have hW0 : 0 ≤ Dg.vl 4294967296 (uu.drop t) := Dg.vl_nonneg (hu.drop t) (by decide)
  have hWlt : Dg.vl 4294967296 (uu.drop t) < 4294967296 * Dg.vl 4294967296 v := by omega
  have hvpos : 0 < Dg.vl 4294967296 v := by omega
  have q0 : 0 ≤ Dg.vl 4294967296 (uu.drop t) / Dg.vl 4294967296 v := Int.ediv_nonneg hW0 v0
  have q1 : Dg.vl 4294967296 (uu.drop t) / Dg.vl 4294967296 v < 4294967296 := Int.ediv_lt_of_lt_mul hvpos hWlt
  have r0 := Int.emod_nonneg (Dg.vl 4294967296 (uu.drop t)) (show Dg.vl 4294967296 v ≠ 0 by omega)
  have r1 := Int.emod_lt_of_pos (Dg.vl 4294967296 (uu.drop t)) hvpos
  have hqr := Int.mul_ediv_add_emod (Dg.vl 4294967296 (uu.drop t)) (Dg.vl 4294967296 v)
  generalize hqd : Dg.vl 4294967296 (uu.drop t) / Dg.vl 4294967296 v = qd at *
  have hcomm : qd * Dg.vl 4294967296 v = Dg.vl 4294967296 v * qd := Int.mul_comm _ _
  obtain ⟨r, hr1, hr2, hr3, hr4⟩ := digit_c hwd hv hwl hvl (by omega) hn (q := qd) q0 (by omega) (by rw [hwv]; omega) (by rw [hwv]; omega)
  rw [hwv] at hr4
  have hrl : r.length = p + 3 := by omega
  -- the new row
  have ht1 : (uu.take t).length = t := by rw [zk]; omega
  have hnl : (uu.take t ++ r ++ uu.drop (t + (p + 3))).length = m + p + 2 := by
   rw [zl, zl, ht1, List.length_drop]
   omega
  have hnd : (uu.take t ++ r ++ uu.drop (t + (p + 3))).drop t = r ++ uu.drop (t + (p + 3)) := by
   rw [List.append_assoc, List.drop_append_of_le_length (by omega), zG (by omega), List.nil_append]
  have hrv : Dg.vl 4294967296 (r ++ uu.drop (t + (p + 3))) = Dg.vl 4294967296 r := by
   rw [Dg.vl_append, vl_zero_from hz']
   simp
  have hnv : Dg.vl 4294967296 (uu.take t ++ r ++ uu.drop (t + (p + 3))) = Dg.vl 4294967296 uu - qd * Dg.vl 4294967296 v * 4294967296 ^ t := by
   rw [List.append_assoc, Dg.vl_append, hrv, ht1, hr4, Dg.vl_take_drop 4294967296 uu t]
   grind
  have h9 := ih (uu.take t ++ r ++ uu.drop (t + (p + 3))) (q.set t qd) (by omega) hnl (by rw [zx]; exact hql) (((hu.take t).append hr3).append (hu.drop _)) (hq.set _ q0 q1) ?_ ?_ ?_
  rotate_left
  ·rw [hnd, hrv, hr4]
   omega
  ·intro j hj
   rw [List.append_assoc, za, List.getElem?_append_right (by omega), ht1, ← za]
   by_cases hjt : j = t + (p + 2)
   ·subst hjt
    rw [za, List.getElem?_append_left (by omega), ← za, show t + (p + 2) - t = p + 2 by omega]
    -- the rest is below the divisor, so its top limb is 0
    have g := hr3.getD (by decide) (p + 2)
    have h3 : r.take (p + 3) = r := zc (by omega)
    have h4 := Dg.vl_take_succ 4294967296 r (p + 2)
    rw [h3] at h4
    have h5 := Dg.vl_nonneg (hr3.take (p + 2)) (by decide)
    rw [hvl] at v1
    apply Classical.byContradiction
    intro hc
    have h6 : 1 * 4294967296 ^ (p + 2) ≤ r.getD (p + 2) 0 * 4294967296 ^ (p + 2) := zq (by omega) (Int.le_of_lt (Int.pow_pos (by decide)))
    omega
   ·rw [za, List.getElem?_append_right (by omega), ← za, getD_drop]
    exact hz' _ (by omega)
  ·rw [hnv, Dg.vl_drop_succ, Dg.vl_drop_set _ _ _ _ _ (Nat.lt_succ_self _), Dg.getD_set _ _ _ _ (by omega), if_pos rfl, ← hval, Int.pow_succ]
   grind
  obtain ⟨uf, qf, h10, h11⟩ := h9
  refine ⟨uf, qf, ?_, h11⟩
  have e1 : IntKind.i64.wrap ((t : Int) + ((p + 2 : Nat) : Int)) = ((t + (p + 2) : Nat) : Int) := w64add (by omega)
  have e2 : IntKind.i64.wrap (((t + (p + 2) : Nat) : Int) + 1) = ((t + (p + 2) + 1 : Nat) : Int) := w64succ (by omega)
  have e3 : IntKind.i64.wrap ((t : Int) - 1) = (t : Int) - 1 := w64 (by omega) (by omega)
  have e4 : t + (p + 2) + 1 - t = p + 3 := by omega
  clear hz hz' hwl hwd hwv hstep hqr hcomm hr4 hnd hrv hnv hval hqd r0 r1 v0 v1 d1 gu hW0 hWlt hvpos
  rw [LP_go FF b131_0.eq_1]
  simp only [RB, RL, un, St.none, Nat.reduceEqDiff, Nat.reduceAdd, Nat.reduceMul, Nat.reduceMod, Nat.reduceLeDiff, Nat.reduceLT, Int.reduceLT, Int.reduceLE, Int.reduceEq, Int.reduceToNat, Int.reduceSub, Int.reduceNeg, Int.reduceAdd, ↓reduceIte, reduceCtorEq, pack, pid, parN, lid, chkK, apartV, Heap.none, e0, e1, e2, e3, e4, hr1]
  have hk : List.take uu.length (uu.take t ++ r ++ uu.drop (t + (p + 3))) = uu.take t ++ r ++ uu.drop (t + (p + 3)) := zc (by omega)
  simp (disch := omega) only [if_pos, if_neg, zh, take_set_len, take_set2_len, take_rep_len, take_snoc_len, take_app_len, hk]
  exact h10
theorem long_D {a b : Nat} (hb : 4294967296 ≤ b) (hab : b ≤ a) (hl : L a ≤ 4398046511104) : R FF 131 [(AV.l 1 (List.map u (D a))), (AV.l 1 (List.map u (D b)))] = some (.tup [(AV.l 1 (List.map u (D (a / b)))), (AV.l 1 (List.map u (D (a % b))))]) := by
 obtain ⟨p, hp⟩ : ∃ p, L b = p + 2 := by
  refine ⟨L b - 2, ?_⟩
  have h1 := L_lt b
  have h2 : ¬ L b ≤ 1 := fun h => by
   have h3 : 4294967296 ^ L b ≤ 4294967296 ^ 1 := Nat.pow_le_pow_right (by decide) h
   rw [Nat.pow_one] at h3
   omega
  omega
 obtain ⟨m, hm⟩ : ∃ m, L a + 1 = m + p + 2 := ⟨L a + 1 - (p + 2), by have := L_mono hab; omega⟩
 have hbl := L_lt b
 have hal := L_lt a
 have hT := getD_top hp
 have hT1 := D_get b (p + 1)
 have hT2 : (D b).getD (p + 1) 0 ≠ 0 := by
  have := D_top b (by rw [Ne, D_nil]; omega)
  rwa [show (D b).length - 1 = p + 1 by show L b - 1 = p + 1; omega] at this
 obtain ⟨s, hs, hz, hlo, hhi⟩ := lz32 (x := (D b).getD (p + 1) 0) (by omega) (by omega)
 have hT3 : b / 4294967296 ^ (p + 1) * 2 ^ s < 4294967296 := by
  rw [hT] at hhi
  exact Int.ofNat_lt.1 (by rw [Int.natCast_mul, Int.natCast_pow]; exact hhi)
 have hT4 : 2147483648 ≤ b / 4294967296 ^ (p + 1) * 2 ^ s := by
  rw [hT] at hlo
  exact Int.ofNat_le.1 (by rw [Int.natCast_mul, Int.natCast_pow]; exact hlo)
 have hP : 0 < 4294967296 ^ (p + 1) := Nat.pow_pos (by decide)
 have h2s : 2 ^ s * 2 ^ (32 - s) = 4294967296 := by rw [← Nat.pow_add, show s + (32 - s) = 32 by omega]
 have h2p := Nat.two_pow_pos s
 -- the divisor, shifted: as long, its top bit set
 have hb1 : b * 2 ^ s < 4294967296 ^ (p + 2) := by
  have e1 : b / 4294967296 ^ (p + 1) < 2 ^ (32 - s) := by
   have h3 : b / 4294967296 ^ (p + 1) * 2 ^ s < 2 ^ (32 - s) * 2 ^ s := by rw [Nat.mul_comm (2 ^ (32 - s)), h2s]; exact hT3
   exact Nat.lt_of_mul_lt_mul_right h3
  have e2 : b < 2 ^ (32 - s) * 4294967296 ^ (p + 1) := (Nat.div_lt_iff_lt_mul hP).1 e1
  calc b * 2 ^ s < 2 ^ (32 - s) * 4294967296 ^ (p + 1) * 2 ^ s := Nat.mul_lt_mul_of_pos_right e2 h2p
   _ = (2 ^ s * 2 ^ (32 - s)) * 4294967296 ^ (p + 1) := by rw [Nat.mul_right_comm, Nat.mul_comm (2 ^ (32 - s))]
   _ = 4294967296 ^ (p + 2) := by rw [h2s, Nat.pow_succ _ (p + 1), Nat.mul_comm]
 have hbs : b ≤ b * 2 ^ s := Nat.le_mul_of_pos_right _ h2p
 have hvL : L (b * 2 ^ s) = p + 2 := by
  have := L_mono hbs
  have := L_le hb1
  omega
 have hvT : 2147483648 ≤ b * 2 ^ s / 4294967296 ^ (p + 1) := by
  rw [Nat.le_div_iff_mul_le hP]
  calc 2147483648 * 4294967296 ^ (p + 1) ≤ (b / 4294967296 ^ (p + 1) * 2 ^ s) * 4294967296 ^ (p + 1) := zu _ hT4
   _ = (b / 4294967296 ^ (p + 1) * 4294967296 ^ (p + 1)) * 2 ^ s := Nat.mul_right_comm _ _ _
   _ ≤ b * 2 ^ s := zu _ (Nat.div_mul_le_self _ _)
 have hvB : 2147483648 * 4294967296 ^ (p + 1) ≤ b * 2 ^ s := (Nat.le_div_iff_mul_le hP).1 hvT
 -- the dividend, shifted
 have has : a ≤ a * 2 ^ s := Nat.le_mul_of_pos_right _ h2p
 have h231 : 2 ^ s ≤ 2147483648 := Nat.pow_le_pow_right (by decide) hs
 have ha1 : a * 2 ^ s < 2147483648 * 4294967296 ^ L a := by
  calc a * 2 ^ s < 4294967296 ^ L a * 2 ^ s := Nat.mul_lt_mul_of_pos_right hal h2p
   _ ≤ 4294967296 ^ L a * 2147483648 := Nat.mul_le_mul_left _ h231
   _ = _ := Nat.mul_comm _ _
 have huL : L (a * 2 ^ s) ≤ L a + 1 := L_le (by
  rw [Nat.pow_succ, Nat.mul_comm (4294967296 ^ L a)]
  refine Nat.lt_of_lt_of_le ha1 ?_
  exact zu _ (by decide))
 have huL2 := L_mono has
 have hul : ((D (a * 2 ^ s) ++ [0, 0]).take (L a + 1)).length = m + p + 2 := by
  rw [zk, zl]
  show min (L a + 1) (L (a * 2 ^ s) + 2) = _
  omega
 have hu0 : ∀ j, L a + 1 ≤ j → (D (a * 2 ^ s) ++ [0, 0]).getD j 0 = 0 := fun j hj => by
  rw [za, List.getElem?_append_right (by show L _ ≤ j; omega), ← za]
  exact getD_rep 2 _
 have hDz : Dg.Dig 4294967296 ([0, 0] : List Int) := Dg.Dig.replicate (by decide) 2
 have hud : Dg.Dig 4294967296 ((D (a * 2 ^ s) ++ [0, 0]).take (L a + 1)) := ((D_dig _).append hDz).take _
 have huv : Dg.vl 4294967296 ((D (a * 2 ^ s) ++ [0, 0]).take (L a + 1)) = ((a * 2 ^ s : Nat) : Int) := by
  rw [vl_take_zero hu0, Dg.vl_append, D_vl, show Dg.vl 4294967296 [0, 0] = 0 from rfl, Int.mul_zero, Int.add_zero]
 have hmt : Dg.vl 4294967296 (((D (a * 2 ^ s) ++ [0, 0]).take (L a + 1)).drop m) < ((b * 2 ^ s : Nat) : Int) := by
  have e1 := Dg.vl_take_drop 4294967296 ((D (a * 2 ^ s) ++ [0, 0]).take (L a + 1)) m
  have e2 := Dg.vl_nonneg (hud.take m) (by decide)
  rw [huv] at e1
  have e3 : a * 2 ^ s < b * 2 ^ s * 4294967296 ^ m := by
   refine Nat.lt_of_lt_of_le ha1 ?_
   rw [show L a = p + 1 + m by omega, Nat.pow_add, ← Nat.mul_assoc]
   exact zu _ hvB
  have e4 : ((a * 2 ^ s : Nat) : Int) < ((b * 2 ^ s : Nat) : Int) * 4294967296 ^ m := by
   rw [show (4294967296 : Int) ^ m = ((4294967296 ^ m : Nat) : Int) by rw [Int.natCast_pow]; rfl, ← Int.natCast_mul]
   exact Int.ofNat_lt.2 e3
  apply Classical.byContradiction
  intro hc
  have hPm : (0 : Int) ≤ 4294967296 ^ m := Int.le_of_lt (Int.pow_pos (by decide))
  have e5 := zq (Int.not_lt.1 hc) hPm
  rw [Int.mul_comm (4294967296 ^ m)] at e1
  generalize (4294967296 : Int) ^ m = Z at *
  omega
 have hR : (((a % b) * 2 ^ s : Nat) : Int) < ((b * 2 ^ s : Nat) : Int) := Int.ofNat_lt.2 (Nat.mul_lt_mul_of_pos_right (Nat.mod_lt _ (by omega)) h2p)
 obtain ⟨uf, qf, hmain, huf, hqf, hufl, hqfl, hqfv, hufv⟩ := long_l0 (D_dig (b * 2 ^ s)) (p := p) (m := m) (s := s) hvL (by rw [getD_top hvL]; exact Int.ofNat_le.2 hvT) hs (by omega) (Q := a / b) (R := a % b) (by rw [D_vl]; exact hR) m _ (zj m 0) (zo _) hul zm hud (Dg.Dig.replicate (by decide) m) (by rw [D_vl]; exact hmt)
  (fun j hj => getD_beyond (by rw [hul]; omega)) (by
   rw [zG (by rw [zm]; exact zo _), huv, D_vl, Dg.vl_nil, Int.zero_mul, Int.zero_mul, Int.zero_add, ← Int.natCast_mul, ← Int.natCast_add]
   refine congrArg _ ?_
   rw [← Nat.mul_assoc, ← zE, Nat.mul_comm (a / b), Nat.div_add_mod])
 have hbL : (D b).length = p + 2 := hp
 have haL : (D a).length = m + p + 1 := by show L a = _; omega
 have hvl : (D (b * 2 ^ s)).length = p + 2 := hvL
 have hal' : (D (a * 2 ^ s)).length ≤ m + p + 2 := by show L (a * 2 ^ s) ≤ _; omega
 have hal2 : m + p + 2 ≤ (D (a * 2 ^ s)).length + 2 := by show _ ≤ L (a * 2 ^ s) + 2; omega
 have hLR : L (a % b * 2 ^ s) ≤ 35184372088832 := by
  have h1 : L (a % b * 2 ^ s) ≤ L (b * 2 ^ s) := L_mono (Nat.le_of_lt (Int.ofNat_lt.1 hR))
  omega
 have t1 := trim_c hqf (by omega) hqfv
 have t2 := trim_c huf (by omega) hufv
 have t3 := shr_D hLR (n := s) (by omega)
 rw [Nat.mul_div_cancel _ h2p] at t3
 have s1 := shl_D (m := b) (n := s) (by omega) (by omega) (by omega)
 have s2 := shl_D (m := a) (n := s) (by omega) (by omega) (by omega)
 have e1 : IntKind.i64.wrap (((p + 2 : Nat) : Int) - 1) = ((p + 1 : Nat) : Int) := by rw [w64 (by omega) (by omega)]; omega
 have e2 : IntKind.i64.wrap (((m + p + 1 : Nat) : Int) + 1) = ((m + p + 2 : Nat) : Int) := by rw [w64succ (by omega)]
 have e3 : IntKind.u32.wrap ((D b).getD (p + 1) 0) = (D b).getD (p + 1) 0 := by
  rw [show IntKind.u32.wrap ((D b).getD (p + 1) 0) = (D b).getD (p + 1) 0 % 4294967296 by simp [IntKind.wrap, IntKind.bits, IntKind.signed]]
  omega
 have e4 : IntKind.i64.wrap (((m + p + 2 : Nat) : Int) - ((p + 2 : Nat) : Int)) = (m : Int) := by rw [w64 (by omega) (by omega)]; omega
 have e5 : IntKind.i64.wrap ((m : Int) - 1) = (m : Int) - 1 := w64 (by omega) (by omega)
 clear hb1 hbs hvT hvB has ha1 hR hmt huv hu0 hhi hlo hT3 hT4 hT h2s hal hbl hP hT2
 rw [R_go FF F131 c131.eq_1]
 rw [show L a + 1 = m + p + 2 by omega] at hmain
 have e6 : List.map u (D (a * 2 ^ s)) ++ [u 0, u 0] = List.map u (D (a * 2 ^ s) ++ [0, 0]) := by rw [List.map_append]; rfl
 have hLL : (D (a * 2 ^ s)).length ≤ 17592186044416 := by show L _ ≤ _; omega
 simp only [RB, RL, un, St.none, Nat.reduceEqDiff, Nat.reduceAdd, Nat.reduceMul, Nat.reduceMod, Nat.reduceLeDiff, Nat.reduceLT, Int.reduceLT, Int.reduceLE, Int.reduceEq, Int.reduceToNat, Int.reduceSub, Int.reduceNeg, Int.reduceAdd, ↓reduceIte, reduceCtorEq, pack, pid, parN, lid, chkK, apartV, Heap.none, hbL, haL, e1, e2, e3, hz, s1, s2, hvl, e4, e5, e6]
 clear h231 h2p hT1 huL2 hLR hvL hp hz s1 s2 huL hufv hqfv hud hDz
 rw [if_pos (by omega), if_pos (by omega), if_pos (by omega), if_pos (by omega)]
 have e7 : List.take (p + 2) (D (b * 2 ^ s)) = D (b * 2 ^ s) := by rw [← hvl, zh]
 simp (disch := omega) only [if_pos, if_neg, zh, take_set_len, take_set2_len, take_rep_len, take_snoc_len, take_app_len, e7]
 rw [hmain]
 simp only [RB, RL, un, St.none, Nat.reduceEqDiff, Nat.reduceAdd, Nat.reduceMul, Nat.reduceMod, Nat.reduceLeDiff, Nat.reduceLT, Int.reduceLT, Int.reduceLE, Int.reduceEq, Int.reduceToNat, Int.reduceSub, Int.reduceNeg, Int.reduceAdd, ↓reduceIte, reduceCtorEq, pack, pid, parN, lid, chkK, apartV, Heap.none, t1, t2, t3]
theorem divmod_c {x y : List Int} (hx : U x) (hy : U y) (hla : x.length ≤ 4398046511104) (hlb : y.length ≤ 4398046511104) : R FF 115 [(AV.l 1 (List.map u x)), (AV.l 1 (List.map u y))] = some (if W y = 0 then .tup [.l 1 [], .l 1 [], (AV.i .i64 2)] else .tup [(AV.l 1 (List.map u (D (W x / W y)))), (AV.l 1 (List.map u (D (W x % W y)))), (AV.i .i64 0)]) := by
 have h1 := clean_c hx (by omega)
 have h2 := clean_c hy (by omega)
 have hl := L_W x
 have hl2 := L_W y
 generalize W x = a at *
 generalize W y = b at *
 have hlen : (D b).length = L b := rfl
 by_cases h0 : b = 0
 ·subst h0
  rw [if_pos rfl]
  rw [R_go FF F115 c115.eq_1]
  simp only [RB, RL, un, St.none, Nat.reduceEqDiff, Nat.reduceAdd, Nat.reduceMul, Nat.reduceMod, Nat.reduceLeDiff, Nat.reduceLT, Int.reduceLT, Int.reduceLE, Int.reduceEq, Int.reduceToNat, Int.reduceSub, Int.reduceNeg, Int.reduceAdd, ↓reduceIte, reduceCtorEq, pack, pid, parN, lid, chkK, apartV, Heap.none, h1, h2, D_zero, List.length_nil]
 rw [if_neg h0]
 have hL0 : L b ≠ 0 := fun h => h0 (D_nil.1 (List.eq_nil_of_length_eq_zero h))
 have ho := order_c (m := a) (n := b) (by omega) (by omega)
 have hL1 : ¬ (L b : Int) = 0 := by omega
 by_cases hlt : a < b
 ·have hc : cmp a b < 0 := cmp_lt_iff.2 (by omega)
  rw [R_go FF F115 c115.eq_1]
  simp only [RB, RL, un, St.none, Nat.reduceEqDiff, Nat.reduceAdd, Nat.reduceMul, Nat.reduceMod, Nat.reduceLeDiff, Nat.reduceLT, Int.reduceLT, Int.reduceLE, Int.reduceEq, Int.reduceToNat, Int.reduceSub, Int.reduceNeg, Int.reduceAdd, ↓reduceIte, reduceCtorEq, pack, pid, parN, lid, chkK, apartV, Heap.none, h1, h2, hlen, hL1, ho, hc]
  rw [Nat.div_eq_of_lt hlt, Nat.mod_eq_of_lt hlt, D_zero]
  rfl
 have hc : ¬ cmp a b < 0 := fun h => hlt (by have := cmp_lt_iff.1 h; omega)
 by_cases hs : b < 4294967296
 ·have hb := D_small h0 hs
  have h3 : (L b : Int) = 1 := by show ((D b).length : Int) = 1; rw [hb]; rfl
  have h4 := small_D (m := a) (d := b) (by omega) (by omega) (by omega)
  have h5 := Nat.mod_lt a (show 0 < b by omega)
  have h6 := of_c (x := ((a % b : Nat) : Int)) (by omega) (by omega) (n := a % b) rfl
  rw [R_go FF F115 c115.eq_1]
  have h7 : (D b).getD 0 0 = (b : Int) := by rw [hb]; rfl
  simp only [RB, RL, un, St.none, Nat.reduceEqDiff, Nat.reduceAdd, Nat.reduceMul, Nat.reduceMod, Nat.reduceLeDiff, Nat.reduceLT, Int.reduceLT, Int.reduceLE, Int.reduceEq, Int.reduceToNat, Int.reduceSub, Int.reduceNeg, Int.reduceAdd, ↓reduceIte, reduceCtorEq, pack, pid, parN, lid, chkK, apartV, Heap.none, h1, h2, hlen, h3, ho, hc, h7, h4, h6]
 ·have h3 : ¬ (L b : Int) = 1 := fun h => by
   have := L_lt b
   rw [show L b = 1 by omega, Nat.pow_one] at this
   omega
  have h4 := long_D (a := a) (b := b) (by omega) (by omega) (by omega)
  rw [R_go FF F115 c115.eq_1]
  simp only [RB, RL, un, St.none, Nat.reduceEqDiff, Nat.reduceAdd, Nat.reduceMul, Nat.reduceMod, Nat.reduceLeDiff, Nat.reduceLT, Int.reduceLT, Int.reduceLE, Int.reduceEq, Int.reduceToNat, Int.reduceSub, Int.reduceNeg, Int.reduceAdd, ↓reduceIte, reduceCtorEq, pack, pid, parN, lid, chkK, apartV, Heap.none, h1, h2, hlen, hL1, ho, hc, h3, h4]
theorem divmod_D {a b : Nat} (hl : L a ≤ 4398046511104) (hlb : L b ≤ 4398046511104) : R FF 115 [(AV.l 1 (List.map u (D a))), (AV.l 1 (List.map u (D b)))] = some (if b = 0 then .tup [.l 1 [], .l 1 [], (AV.i .i64 2)] else .tup [(AV.l 1 (List.map u (D (a / b)))), (AV.l 1 (List.map u (D (a % b)))), (AV.i .i64 0)]) := by
 have := divmod_c (D_U a) (D_U b) hl hlb
 rwa [W_D, W_D] at this
theorem odd_part : ∀ n : Nat, n ≠ 0 → ∃ k m, n = 2 ^ k * (2 * m + 1) := by
 intro n
 induction n using Nat.strongRecOn with
 | _ n ih =>
  intro hn
  rcases Nat.mod_two_eq_zero_or_one n with h | h
  ·obtain ⟨k, m, hk⟩ := ih (n / 2) (by omega) (by omega)
   refine ⟨k + 1, m, ?_⟩
   have : n = 2 * (n / 2) := by omega
   rw [this, hk, Nat.pow_succ]
   simp only [Nat.mul_comm, Nat.mul_left_comm]
  ·exact ⟨0, n / 2, by omega⟩
theorem low_and {x k m : Nat} (hx : x = 2 ^ k * (2 * m + 1)) (h : x < 2 ^ 64) : x &&& (2 ^ 64 - x) = 2 ^ k := by
 have hk : k < 64 := by
  rcases Nat.lt_or_ge k 64 with h1 | h1
  ·exact h1
  ·have h2 : 2 ^ 64 ≤ 2 ^ k := Nat.pow_le_pow_right (by decide) h1
   have h3 : 2 ^ k * 1 ≤ 2 ^ k * (2 * m + 1) := Nat.mul_le_mul_left _ (by omega)
   omega
 have e1 : 2 ^ 64 = 2 ^ k * (2 * 2 ^ (63 - k)) := by
  rw [show 2 * 2 ^ (63 - k) = 2 ^ (64 - k) by rw [show 64 - k = (63 - k) + 1 by omega, Nat.pow_succ, Nat.mul_comm], ← Nat.pow_add, show k + (64 - k) = 64 by omega]
 have hm : m < 2 ^ (63 - k) := by
  rw [hx, e1] at h
  have := Nat.lt_of_mul_lt_mul_left h
  omega
 have e2 : 2 ^ 64 - x = 2 ^ k * (2 * (2 ^ (63 - k) - (m + 1)) + 1) := by
  rw [hx, e1, ← Nat.mul_sub]
  congr 1
  omega
 rw [e2, hx]
 apply Nat.eq_of_testBit_eq
 intro i
 rw [Nat.testBit_and, Nat.testBit_two_pow_mul, Nat.testBit_two_pow_mul, Nat.testBit_two_pow]
 rcases Nat.lt_trichotomy i k with h1 | h1 | h1
 ·have : ¬ i ≥ k := by omega
  have h2 : ¬ k = i := by omega
  simp [this, h2]
 ·subst h1
  simp
 ·have h2 : ¬ k = i := by omega
  obtain ⟨j, hj⟩ : ∃ j, i - k = j + 1 := ⟨i - k - 1, by omega⟩
  rw [hj, Nat.testBit_succ, Nat.testBit_succ, show (2 * m + 1) / 2 = m by omega, show (2 * (2 ^ (63 - k) - (m + 1)) + 1) / 2 = 2 ^ (63 - k) - (m + 1) by omega, Nat.testBit_two_pow_sub_succ hm]
  cases Nat.testBit m j <;> simp [h2]
theorem pow64 : (2 : Nat) ^ 64 = 18446744073709551616 := by decide
theorem low_and' {x k m : Nat} (hx : x = 2 ^ k * (2 * m + 1)) (h : x < 18446744073709551616) : x &&& (18446744073709551616 - x) = 2 ^ k := by
 rw [← pow64] at h ⊢
 exact low_and hx h
def dB (k : Nat) : Int := (IntKind.u64.wrap (((2 ^ k : Nat) : Int) * 285870213051353865)).fdiv (2 ^ Nat.min 58 IntKind.u64.bits)
def tabIs (x k : Int) : Bool := match tab0[x.toNat]? with
 | some (.i .u8 n) => n == k
 | _ => false
theorem tabIs_spec {x k : Int} (h : tabIs x k = true) : tab0[x.toNat]? = some (AV.i .u8 k) := by
 unfold tabIs at h
 split at h
 ·rename_i n hn
  rw [hn]
  simp only [beq_iff_eq] at h
  rw [h]
 ·cases h
theorem tab_all : ∀ k : Fin 64, tabIs (dB k.val) (k.val : Int) = true ∧ 0 ≤ dB k.val ∧ dB k.val < 64 := by decide +kernel
theorem tab_at {k : Nat} (hk : k < 64) : tab0[(dB k).toNat]? = some (AV.i .u8 (k : Int)) ∧ 0 ≤ dB k ∧ dB k < 64 := ⟨tabIs_spec (tab_all ⟨k, hk⟩).1, (tab_all ⟨k, hk⟩).2⟩
theorem neg64 {y : Nat} (h : y < 18446744073709551616) (h0 : 0 < y) : IntKind.u64.wrap (0 - (y : Int)) = ((18446744073709551616 - y : Nat) : Int) := by
 rw [u64m]
 omega
theorem tz64 {x : Int} {k m : Nat} (hx : x = ((2 ^ k * (2 * m + 1) : Nat) : Int)) (h : x < 18446744073709551616) : R FF 128 [(AV.i .u64 x)] = some (AV.i .i64 ((k : Int))) ∧ k < 64 := by
 have hlt : 2 ^ k * (2 * m + 1) < 18446744073709551616 := by
  rw [hx] at h
  omega
 have hpos : 0 < 2 ^ k * (2 * m + 1) := Nat.mul_pos (Nat.two_pow_pos k) (by omega)
 have hk : k < 64 := by
  rcases Nat.lt_or_ge k 64 with h1 | h1
  ·exact h1
  ·have h2 : 2 ^ 64 ≤ 2 ^ k := Nat.pow_le_pow_right (by decide) h1
   rw [pow64] at h2
   have h3 : 2 ^ k * 1 ≤ 2 ^ k * (2 * m + 1) := Nat.mul_le_mul_left _ (by omega)
   omega
 have e3 : IntKind.i64.wrap (k : Int) = k := w64 (by omega) (by omega)
 have ha := low_and' (x := 2 ^ k * (2 * m + 1)) rfl hlt
 generalize 2 ^ k * (2 * m + 1) = y at *
 subst hx
 have e1 := neg64 hlt hpos
 have e2 : Go.bits .and .u64 (y : Int) ((18446744073709551616 - y : Nat) : Int) = ((2 ^ k : Nat) : Int) := by
  rw [(bits_nat .u64 64 (by decide) u64_id y (18446744073709551616 - y) (by rw [pow64]; exact hlt) (by rw [pow64]; exact Nat.sub_lt (by decide) hpos)).1, ha]
 have h0 : ¬ (y : Int) = 0 := fun h => by rw [Int.ofNat_eq_zero.1 h] at hpos; exact absurd hpos (by decide)
 obtain ⟨t4, t2, t3⟩ := tab_at hk
 refine ⟨?_, hk⟩
 clear ha hlt hpos
 have t5 : (0 ≤ dB k ∧ dB k < 64) := ⟨t2, t3⟩
 have t6 : ∀ j, ldC false 1 j tab0 = tab0[j]? := fun _ => rfl
 have t7 : (IntKind.u64.wrap (((2 ^ k : Nat) : Int) * 285870213051353865)).fdiv (2 ^ Nat.min 58 IntKind.u64.bits) = dB k := rfl
 rw [R_go FF F128 c128.eq_1]
 simp only [RB, RL, un, St.none, Nat.reduceEqDiff, Nat.reduceAdd, Nat.reduceMul, Nat.reduceMod, Nat.reduceLeDiff, Nat.reduceLT, Int.reduceLT, Int.reduceLE, Int.reduceEq, Int.reduceToNat, Int.reduceSub, Int.reduceNeg, Int.reduceAdd, ↓reduceIte, reduceCtorEq, pack, pid, parN, lid, chkK, apartV, Heap.none, e1, e2, h0, t7, t5, Nat.mul_one, t6, t4, e3]
theorem zeros_l0 {n : Nat} (hn : n ≠ 0) (hl : L n ≤ 4398046511104) : ∀ (d i : Nat), i + d = (D n).length → Dg.vl 4294967296 ((D n).take i) = 0 →
  ∃ z m c : Nat, n = 2 ^ z * (2 * m + 1) ∧ z ≤ 32 * L n ∧ LP FF [(3, 0), (6, 0), (7, 0), (8, 0)] [(2, 0), (3, 0)] b108_0 [(AV.i .i64 (((32 * i : Nat) : Int))), (AV.l 1 (List.map u (D n))), (AV.i .i64 (((D n).length : Int))), (AV.i .i64 ((i : Int)))] = some (.ret, [(AV.i .i64 ((z : Int))), (AV.i .i64 ((c : Int)))]) := by
 intro d
 have hl' : (D n).length ≤ 4398046511104 := hl
 induction d with
 | zero =>
  intro i hi hz
  rw [zc (by omega), D_vl] at hz
  omega
 | succ d ih =>
  intro i hi hz
  have g := D_get n i
  obtain ⟨x, hx⟩ := Int.eq_ofNat_of_zero_le g.1
  have e1 : IntKind.i64.wrap ((i : Int) + 1) = ((i + 1 : Nat) : Int) := w64succ (by omega)
  have e2 : IntKind.i64.wrap (((32 * i : Nat) : Int) + 32) = ((32 * (i + 1) : Nat) : Int) := by rw [w64 (by omega) (by omega)]; omega
  have e3 : IntKind.i64.wrap (32 * (i : Int)) = ((32 * i : Nat) : Int) := by rw [w64 (by omega) (by omega)]; omega
  by_cases h0 : x = 0
  ·subst h0
   obtain ⟨z, m, c, h1, h2, h3⟩ := ih (i + 1) (by omega) (by rw [Dg.vl_take_succ, hz, hx]; simp)
   refine ⟨z, m, c, h1, h2, ?_⟩
   rw [LP_go FF b108_0.eq_1]
   simp only [RB, RL, un, St.none, Nat.reduceEqDiff, Nat.reduceAdd, Nat.reduceMul, Nat.reduceMod, Nat.reduceLeDiff, Nat.reduceLT, Int.reduceLT, Int.reduceLE, Int.reduceEq, Int.reduceToNat, Int.reduceSub, Int.reduceNeg, Int.reduceAdd, ↓reduceIte, reduceCtorEq, pack, pid, parN, lid, chkK, apartV, Heap.none, hx, e1, e2, e3]
   simp (disch := omega) only [if_pos, if_neg, zh, take_set_len, take_set2_len, take_rep_len, take_snoc_len, take_app_len]
   exact h3
  ·obtain ⟨k, m, hk⟩ := odd_part x h0
   have hxlt : x < 4294967296 := by omega
   obtain ⟨t1, t2⟩ := tz64 (x := (x : Int)) (k := k) (m := m) (by rw [hk]) (by omega)
   have hk32 : k < 32 := by
    rcases Nat.lt_or_ge k 32 with h1 | h1
    ·exact h1
    ·have h2 : 2 ^ 32 ≤ 2 ^ k := Nat.pow_le_pow_right (by decide) h1
     have h3 : 2 ^ k * 1 ≤ 2 ^ k * (2 * m + 1) := Nat.mul_le_mul_left _ (by omega)
     rw [← hk] at h3
     have : (2 : Nat) ^ 32 = 4294967296 := by decide
     omega
   -- the number
   have hv := D_vl n
   rw [Dg.vl_take_drop 4294967296 (D n) i, hz, Dg.vl_drop_succ, hx] at hv
   obtain ⟨r, hr⟩ := Int.eq_ofNat_of_zero_le (Dg.vl_nonneg ((D_dig n).drop (i + 1)) (by decide))
   rw [hr] at hv
   have hn2 : n = 4294967296 ^ i * (x + 4294967296 * r) := by
    have : ((n : Nat) : Int) = ((4294967296 ^ i * (x + 4294967296 * r) : Nat) : Int) := by
     rw [← hv]
     simp only [Int.natCast_mul, Int.natCast_pow, Int.natCast_add]
     simp
    exact Int.ofNat.inj this
   have hp : (4294967296 : Nat) = 2 ^ k * (2 * 2 ^ (31 - k)) := by
    rw [show 2 * 2 ^ (31 - k) = 2 ^ (32 - k) by rw [show 32 - k = (31 - k) + 1 by omega, Nat.pow_succ, Nat.mul_comm], ← Nat.pow_add, show k + (32 - k) = 32 by omega]
   refine ⟨32 * i + k, m + 2 ^ (31 - k) * r, 32 * i, ?_, ?_, ?_⟩
   ·rw [hn2, hk, Nat.pow_add, Nat.pow_mul, show (2 : Nat) ^ 32 = 4294967296 by decide, Nat.mul_assoc]
    congr 1
    conv => lhs; rw [hp]
    grind
   ·have : L n = (D n).length := rfl
    omega
   ·have e4 : IntKind.i64.wrap (((32 * i : Nat) : Int) + (k : Int)) = ((32 * i + k : Nat) : Int) := w64add (by omega)
    have e5 : ¬ (x : Int) = 0 := by omega
    clear hv hr hn2 hp hk hz hxlt
    rw [LP_go FF b108_0.eq_1]
    simp only [RB, RL, un, St.none, Nat.reduceEqDiff, Nat.reduceAdd, Nat.reduceMul, Nat.reduceMod, Nat.reduceLeDiff, Nat.reduceLT, Int.reduceLT, Int.reduceLE, Int.reduceEq, Int.reduceToNat, Int.reduceSub, Int.reduceNeg, Int.reduceAdd, ↓reduceIte, reduceCtorEq, pack, pid, parN, lid, chkK, apartV, Heap.none, hx, e1, e2, e3, t1, e4, e5]
    simp (disch := omega) only [if_pos, if_neg, zh, take_set_len, take_set2_len, take_rep_len, take_snoc_len, take_app_len]
theorem zeros_c {n : Nat} (hn : n ≠ 0) (hl : L n ≤ 4398046511104) : ∃ z m : Nat, n = 2 ^ z * (2 * m + 1) ∧ z ≤ 32 * L n ∧ R FF 108 [(AV.l 1 (List.map u (D n)))] = some (AV.i .i64 ((z : Int))) := by
 obtain ⟨z, m, c, h1, h2, h3⟩ := zeros_l0 hn hl (D n).length 0 (by omega) (by simp [Dg.vl])
 refine ⟨z, m, h1, h2, ?_⟩
 rw [Nat.mul_zero, zy] at h3
 rw [R_go FF F108 c108.eq_1]
 simp only [RB, RL, un, St.none, Nat.reduceEqDiff, Nat.reduceAdd, Nat.reduceMul, Nat.reduceMod, Nat.reduceLeDiff, Nat.reduceLT, Int.reduceLT, Int.reduceLE, Int.reduceEq, Int.reduceToNat, Int.reduceSub, Int.reduceNeg, Int.reduceAdd, ↓reduceIte, reduceCtorEq, pack, pid, parN, lid, chkK, apartV, Heap.none, h3]
theorem to_c {x : List Int} (hx : U x) (hl : x.length ≤ 35184372088832) : R FF 127 [(AV.l 1 (List.map u x))] = some (if W x < 18446744073709551616 then .tup [(AV.i .u64 ((W x : Int))), .b true] else .tup [(AV.i .u64 0), .b false]) := by
 have h1 := clean_c hx hl
 generalize W x = n at *
 by_cases h0 : n = 0
 ·subst h0
  rw [R_go FF F127 c127.eq_1]
  simp only [RB, RL, un, St.none, Nat.reduceEqDiff, Nat.reduceAdd, Nat.reduceMul, Nat.reduceMod, Nat.reduceLeDiff, Nat.reduceLT, Int.reduceLT, Int.reduceLE, Int.reduceEq, Int.reduceToNat, Int.reduceSub, Int.reduceNeg, Int.reduceAdd, ↓reduceIte, reduceCtorEq, pack, pid, parN, lid, chkK, apartV, Heap.none, h1, D_zero, List.length_nil]
 by_cases h2 : n < 4294967296
 ·rw [D_small h0 h2] at h1
  rw [if_pos (by omega)]
  rw [R_go FF F127 c127.eq_1]
  simp only [RB, RL, un, St.none, Nat.reduceEqDiff, Nat.reduceAdd, Nat.reduceMul, Nat.reduceMod, Nat.reduceLeDiff, Nat.reduceLT, Int.reduceLT, Int.reduceLE, Int.reduceEq, Int.reduceToNat, Int.reduceSub, Int.reduceNeg, Int.reduceAdd, ↓reduceIte, reduceCtorEq, pack, pid, parN, lid, chkK, apartV, Heap.none, h1]
 by_cases h3 : n < 18446744073709551616
 ·rw [D_two (by omega) h3] at h1
  rw [if_pos h3]
  have e1 := shl32 (x := ((n / 4294967296 : Nat) : Int)) (by omega) (by omega)
  have e2 := or32 (x := ((n / 4294967296 : Nat) : Int)) (y := ((n % 4294967296 : Nat) : Int)) (by omega) (by omega) (by omega) (by omega)
  rw [R_go FF F127 c127.eq_1]
  simp only [RB, RL, un, St.none, Nat.reduceEqDiff, Nat.reduceAdd, Nat.reduceMul, Nat.reduceMod, Nat.reduceLeDiff, Nat.reduceLT, Int.reduceLT, Int.reduceLE, Int.reduceEq, Int.reduceToNat, Int.reduceSub, Int.reduceNeg, Int.reduceAdd, ↓reduceIte, reduceCtorEq, pack, pid, parN, lid, chkK, apartV, Heap.none, h1, e1, e2]
  congr 4
  omega
 ·rw [if_neg h3]
  have h4 := D_more (n := n) (by omega)
  rw [R_go FF F127 c127.eq_1]
  simp only [RB, RL, un, St.none, Nat.reduceEqDiff, Nat.reduceAdd, Nat.reduceMul, Nat.reduceMod, Nat.reduceLeDiff, Nat.reduceLT, Int.reduceLT, Int.reduceLE, Int.reduceEq, Int.reduceToNat, Int.reduceSub, Int.reduceNeg, Int.reduceAdd, ↓reduceIte, reduceCtorEq, pack, pid, parN, lid, chkK, apartV, Heap.none, h1]
  simp (disch := omega) only [if_pos, if_neg, zh, take_set_len, take_set2_len, take_rep_len, take_snoc_len, take_app_len]
theorem to_D {n : Nat} (hl : L n ≤ 35184372088832) : R FF 127 [(AV.l 1 (List.map u (D n)))] = some (if n < 18446744073709551616 then .tup [(AV.i .u64 ((n : Int))), .b true] else .tup [(AV.i .u64 0), .b false]) := by
 have := to_c (D_U n) hl
 rwa [W_D] at this
theorem euclid_l0 : ∀ (n a b : Nat), b ≤ n → a < 18446744073709551616 → b < 18446744073709551616 → LP FF [(5, 0), (7, 0)] [(5, 0)] b107_0 [(AV.i .u64 ((a : Int))), (AV.i .u64 ((b : Int)))] = some (.exit 0, [(AV.i .u64 ((Nat.gcd a b : Int)))]) := by
 intro n
 induction n with
 | zero =>
  intro a b hb ha hb2
  have : b = 0 := by omega
  subst this
  rw [LP_go FF b107_0.eq_1]
  simp only [RB, RL, un, St.none, Nat.reduceEqDiff, Nat.reduceAdd, Nat.reduceMul, Nat.reduceMod, Nat.reduceLeDiff, Nat.reduceLT, Int.reduceLT, Int.reduceLE, Int.reduceEq, Int.reduceToNat, Int.reduceSub, Int.reduceNeg, Int.reduceAdd, ↓reduceIte, reduceCtorEq, pack, pid, parN, lid, chkK, apartV, Heap.none]
  rw [Nat.gcd_zero_right]
 | succ n ih =>
  intro a b hb ha hb2
  by_cases h0 : b = 0
  ·subst h0
   rw [LP_go FF b107_0.eq_1]
   simp only [RB, RL, un, St.none, Nat.reduceEqDiff, Nat.reduceAdd, Nat.reduceMul, Nat.reduceMod, Nat.reduceLeDiff, Nat.reduceLT, Int.reduceLT, Int.reduceLE, Int.reduceEq, Int.reduceToNat, Int.reduceSub, Int.reduceNeg, Int.reduceAdd, ↓reduceIte, reduceCtorEq, pack, pid, parN, lid, chkK, apartV, Heap.none]
   rw [Nat.gcd_zero_right]
  ·have h1 := Nat.mod_lt a (show 0 < b by omega)
   have h2 := ih b (a % b) (by omega) hb2 (by omega)
   have e1 : Int.tmod (a : Int) (b : Int) = ((a % b : Nat) : Int) := by rw [tmod_pos (by omega)]; omega
   have e2 : ¬ (b : Int) = 0 := by omega
   rw [show Nat.gcd b (a % b) = Nat.gcd a b by rw [Nat.gcd_comm b, ← Nat.gcd_rec, Nat.gcd_comm]] at h2
   rw [LP_go FF b107_0.eq_1]
   simp only [RB, RL, un, St.none, Nat.reduceEqDiff, Nat.reduceAdd, Nat.reduceMul, Nat.reduceMod, Nat.reduceLeDiff, Nat.reduceLT, Int.reduceLT, Int.reduceLE, Int.reduceEq, Int.reduceToNat, Int.reduceSub, Int.reduceNeg, Int.reduceAdd, ↓reduceIte, reduceCtorEq, pack, pid, parN, lid, chkK, apartV, Heap.none, e1, e2]
   exact h2
theorem euclid_c {a b : Nat} (ha : a < 18446744073709551616) (hb : b < 18446744073709551616) : R FF 107 [(AV.l 1 (List.map u (D a))), (AV.l 1 (List.map u (D b)))] = some (AV.l 1 (List.map u (D (Nat.gcd a b)))) := by
 have la : L a ≤ 2 := L_le (by omega)
 have lb : L b ≤ 2 := L_le (by omega)
 have h1 := to_D (n := a) (by omega)
 have h2 := to_D (n := b) (by omega)
 rw [if_pos ha] at h1
 rw [if_pos hb] at h2
 have h3 := euclid_l0 b a b (zo _) ha hb
 have h4 : Nat.gcd a b < 18446744073709551616 := by
  rcases Nat.eq_zero_or_pos a with h | h
  ·subst h; rw [Nat.gcd_zero_left]; exact hb
  ·exact Nat.lt_of_le_of_lt (Nat.gcd_le_left b h) ha
 have h5 := of_c (x := ((Nat.gcd a b : Nat) : Int)) (by omega) (by omega) rfl
 rw [R_go FF F107 c107.eq_1]
 simp only [RB, RL, un, St.none, Nat.reduceEqDiff, Nat.reduceAdd, Nat.reduceMul, Nat.reduceMod, Nat.reduceLeDiff, Nat.reduceLT, Int.reduceLT, Int.reduceLE, Int.reduceEq, Int.reduceToNat, Int.reduceSub, Int.reduceNeg, Int.reduceAdd, ↓reduceIte, reduceCtorEq, pack, pid, parN, lid, chkK, apartV, Heap.none, h1, h2, h3, h5]
theorem rest_D {a b : Nat} (hb : b ≠ 0) (hl : L a ≤ 4398046511104) (hlb : L b ≤ 4398046511104) : R FF 112 [(AV.l 1 (List.map u (D a))), (AV.l 1 (List.map u (D b)))] = some (.tup [(AV.l 1 (List.map u (D (a / b)))), (AV.l 1 (List.map u (D (a % b))))]) := by
 have h1 := divmod_D hl hlb
 rw [if_neg hb] at h1
 rw [R_go FF F112 c112.eq_1]
 simp only [RB, RL, un, St.none, Nat.reduceEqDiff, Nat.reduceAdd, Nat.reduceMul, Nat.reduceMod, Nat.reduceLeDiff, Nat.reduceLT, Int.reduceLT, Int.reduceLE, Int.reduceEq, Int.reduceToNat, Int.reduceSub, Int.reduceNeg, Int.reduceAdd, ↓reduceIte, reduceCtorEq, pack, pid, parN, lid, chkK, apartV, Heap.none, h1]
theorem odd_gcd {k m b : Nat} (hb : b % 2 = 1) : Nat.gcd (2 ^ k * m) b = Nat.gcd m b := by
 refine Nat.Coprime.gcd_mul_left_cancel m (Nat.Coprime.pow_left k ?_)
 have h : Nat.gcd 2 b ∣ 2 := Nat.gcd_dvd_left 2 b
 have h2 : Nat.gcd 2 b ∣ b := Nat.gcd_dvd_right 2 b
 have h3 := Nat.le_of_dvd (by decide) h
 have h4 : Nat.gcd 2 b ≠ 0 := Nat.gcd_ne_zero_left (by decide)
 show Nat.gcd 2 b = 1
 rcases (show Nat.gcd 2 b = 1 ∨ Nat.gcd 2 b = 2 by omega) with h5 | h5
 ·exact h5
 ·rw [h5] at h2
  omega
theorem gcd_l0 {x y : Nat} (hx : x ≤ 140737488355328) (hy : y ≤ 140737488355328) : ∀ (n a b : Nat), a + b ≤ n → a % 2 = 1 → b % 2 = 1 → L a ≤ 4398046511104 → L b ≤ 4398046511104 →
  LP FF [(0, 0), (1, 0), (5, 0), (6, 0)] [(4, 0)] b71_0 [(AV.l 1 (List.map u (D a))), (AV.l 1 (List.map u (D b))), (AV.i .i64 ((x : Int))), (AV.i .i64 ((y : Int)))] = some (.ret, [(AV.l 1 (List.map u (D (Nat.gcd a b * 2 ^ min x y))))]) := by
 intro n
 have hmin : (if (y : Int) < (x : Int) then (y : Int) else (x : Int)) = ((min x y : Nat) : Int) := by split <;> omega
 have hm32 : min x y / 32 ≤ 4398046511104 := by omega
 induction n with
 | zero => intro a b h ha; omega
 | succ n ih =>
  intro a b hn ha hb hla hlb
  have go : ∀ a2 s : Nat, a2 ≠ 0 → s % 2 = 1 → a2 + s < a + b → L a2 ≤ 4398046511104 → L s ≤ 4398046511104 → ∃ z m : Nat, R FF 108 [(AV.l 1 (List.map u (D a2)))] = some (AV.i .i64 ((z : Int))) ∧ R FF 109 [(AV.l 1 (List.map u (D a2))), (AV.i .i64 ((z : Int)))] = some (AV.l 1 (List.map u (D (2 * m + 1)))) ∧
    LP FF [(0, 0), (1, 0), (5, 0), (6, 0)] [(4, 0)] b71_0 [(AV.l 1 (List.map u (D (2 * m + 1)))), (AV.l 1 (List.map u (D s))), (AV.i .i64 ((x : Int))), (AV.i .i64 ((y : Int)))] = some (.ret, [(AV.l 1 (List.map u (D (Nat.gcd a2 s * 2 ^ min x y))))]) := by
   intro a2 s h2 hs hlt hL2 hLs
   obtain ⟨z, m, h3, h4, h5⟩ := zeros_c h2 hL2
   have hp := Nat.two_pow_pos z
   have h6 := shr_D (m := a2) (n := z) (by omega) (by omega)
   have h7 : a2 / 2 ^ z = 2 * m + 1 := by rw [h3, Nat.mul_comm, Nat.mul_div_cancel _ hp]
   rw [h7] at h6
   have h8 : 2 * m + 1 ≤ a2 := by rw [← h7]; exact Nat.div_le_self _ _
   have h9 := ih (2 * m + 1) s (by omega) (by omega) hs (zw (L_mono h8) hL2) hLs
   rw [← odd_gcd (k := z) hs, ← h3] at h9
   exact ⟨z, m, h5, h6, h9⟩
  have ho := order_c (m := a) (n := b) (by omega) (by omega)
  have la : (D a).length = L a := rfl
  have lb : (D b).length = L b := rfl
  have w1 : IntKind.i64.wrap ((L b : Int) + 1) = ((L b + 1 : Nat) : Int) := w64succ (by omega)
  have w2 : IntKind.i64.wrap ((L a : Int) + 1) = ((L a + 1 : Nat) : Int) := w64succ (by omega)
  rcases Nat.lt_trichotomy a b with hab | hab | hab
  ·have c1 : cmp (a : Int) b = -1 := cmp_lt (by omega)
   rw [c1] at ho
   by_cases hL : L a + 1 < L b
   ·have hr := rest_D (a := b) (b := a) (by omega) hlb hla
    have c2 : ((L a + 1 : Nat) : Int) < (L b : Int) := by omega
    by_cases hz : b % a = 0
    ·have hs := shl_D (m := a) (n := min x y) (by omega) (by omega) (by omega)
     have hg : Nat.gcd a b = a := Nat.gcd_eq_left (Nat.dvd_of_mod_eq_zero hz)
     rw [hg]
     rw [hz, D_zero] at hr
     rw [LP_go FF b71_0.eq_1]
     simp only [RB, RL, un, St.none, Nat.reduceEqDiff, Nat.reduceAdd, Nat.reduceMul, Nat.reduceMod, Nat.reduceLeDiff, Nat.reduceLT, Int.reduceLT, Int.reduceLE, Int.reduceEq, Int.reduceToNat, Int.reduceSub, Int.reduceNeg, Int.reduceAdd, ↓reduceIte, reduceCtorEq, pack, pid, parN, lid, chkK, apartV, Heap.none, ho, la, lb, w2, c2, hr, List.length_nil, hmin, hs]
    ·obtain ⟨z, m, g1, g2, g3⟩ := go (b % a) a hz ha (by have := Nat.mod_lt b (show 0 < a by omega); omega) (zw (L_mono (Nat.mod_le _ _)) hlb) hla
     have hz' : ¬ (L (b % a) : Int) = 0 := fun h => hz (D_nil.1 (List.eq_nil_of_length_eq_zero (by show L _ = 0; omega)))
     have lr : (D (b % a)).length = L (b % a) := rfl
     rw [← Nat.gcd_rec] at g3
     rw [LP_go FF b71_0.eq_1]
     simp only [RB, RL, un, St.none, Nat.reduceEqDiff, Nat.reduceAdd, Nat.reduceMul, Nat.reduceMod, Nat.reduceLeDiff, Nat.reduceLT, Int.reduceLT, Int.reduceLE, Int.reduceEq, Int.reduceToNat, Int.reduceSub, Int.reduceNeg, Int.reduceAdd, ↓reduceIte, reduceCtorEq, pack, pid, parN, lid, chkK, apartV, Heap.none, ho, la, lb, w2, c2, hr, lr, hz', g1, g2]
     exact g3
   ·have c2 : ¬ ((L a + 1 : Nat) : Int) < (L b : Int) := by omega
    have hm := nminus_c (m := b) (n := a) (by omega) (by omega)
    obtain ⟨z, m, g1, g2, g3⟩ := go (b - a) a (by omega) ha (by omega) (zw (L_mono (by omega)) hlb) hla
    rw [Nat.gcd_sub_self_left (by omega), Nat.gcd_comm] at g3
    rw [LP_go FF b71_0.eq_1]
    simp only [RB, RL, un, St.none, Nat.reduceEqDiff, Nat.reduceAdd, Nat.reduceMul, Nat.reduceMod, Nat.reduceLeDiff, Nat.reduceLT, Int.reduceLT, Int.reduceLE, Int.reduceEq, Int.reduceToNat, Int.reduceSub, Int.reduceNeg, Int.reduceAdd, ↓reduceIte, reduceCtorEq, pack, pid, parN, lid, chkK, apartV, Heap.none, ho, la, lb, w2, c2, hm, g1, g2]
    exact g3
  ·subst hab
   have c1 : cmp (a : Int) a = 0 := cmp_eq rfl
   rw [c1] at ho
   have hs := shl_D (m := a) (n := min x y) (by omega) (by omega) (by omega)
   rw [Nat.gcd_self]
   rw [LP_go FF b71_0.eq_1]
   simp only [RB, RL, un, St.none, Nat.reduceEqDiff, Nat.reduceAdd, Nat.reduceMul, Nat.reduceMod, Nat.reduceLeDiff, Nat.reduceLT, Int.reduceLT, Int.reduceLE, Int.reduceEq, Int.reduceToNat, Int.reduceSub, Int.reduceNeg, Int.reduceAdd, ↓reduceIte, reduceCtorEq, pack, pid, parN, lid, chkK, apartV, Heap.none, ho, hmin, hs]
  ·have c1 : cmp (a : Int) b = 1 := cmp_gt (by omega)
   rw [c1] at ho
   by_cases hL : L b + 1 < L a
   ·have hr := rest_D (a := a) (b := b) (by omega) hla hlb
    have c2 : ((L b + 1 : Nat) : Int) < (L a : Int) := by omega
    by_cases hz : a % b = 0
    ·have hs := shl_D (m := b) (n := min x y) (by omega) (by omega) (by omega)
     have hg : Nat.gcd a b = b := Nat.gcd_eq_right (Nat.dvd_of_mod_eq_zero hz)
     rw [hg]
     rw [hz, D_zero] at hr
     rw [LP_go FF b71_0.eq_1]
     simp only [RB, RL, un, St.none, Nat.reduceEqDiff, Nat.reduceAdd, Nat.reduceMul, Nat.reduceMod, Nat.reduceLeDiff, Nat.reduceLT, Int.reduceLT, Int.reduceLE, Int.reduceEq, Int.reduceToNat, Int.reduceSub, Int.reduceNeg, Int.reduceAdd, ↓reduceIte, reduceCtorEq, pack, pid, parN, lid, chkK, apartV, Heap.none, ho, la, lb, w1, c2, hr, List.length_nil, hmin, hs]
    ·obtain ⟨z, m, g1, g2, g3⟩ := go (a % b) b hz hb (by have := Nat.mod_lt a (show 0 < b by omega); omega) (zw (L_mono (Nat.mod_le _ _)) hla) hlb
     have hz' : ¬ (L (a % b) : Int) = 0 := fun h => hz (D_nil.1 (List.eq_nil_of_length_eq_zero (by show L _ = 0; omega)))
     have lr : (D (a % b)).length = L (a % b) := rfl
     rw [← Nat.gcd_rec, Nat.gcd_comm] at g3
     rw [LP_go FF b71_0.eq_1]
     simp only [RB, RL, un, St.none, Nat.reduceEqDiff, Nat.reduceAdd, Nat.reduceMul, Nat.reduceMod, Nat.reduceLeDiff, Nat.reduceLT, Int.reduceLT, Int.reduceLE, Int.reduceEq, Int.reduceToNat, Int.reduceSub, Int.reduceNeg, Int.reduceAdd, ↓reduceIte, reduceCtorEq, pack, pid, parN, lid, chkK, apartV, Heap.none, ho, la, lb, w1, c2, hr, lr, hz', g1, g2]
     exact g3
   ·have c2 : ¬ ((L b + 1 : Nat) : Int) < (L a : Int) := by omega
    have hm := nminus_c (m := a) (n := b) (by omega) (by omega)
    obtain ⟨z, m, g1, g2, g3⟩ := go (a - b) b (by omega) hb (by omega) (zw (L_mono (by omega)) hla) hlb
    rw [Nat.gcd_sub_self_left (by omega)] at g3
    rw [LP_go FF b71_0.eq_1]
    simp only [RB, RL, un, St.none, Nat.reduceEqDiff, Nat.reduceAdd, Nat.reduceMul, Nat.reduceMod, Nat.reduceLeDiff, Nat.reduceLT, Int.reduceLT, Int.reduceLE, Int.reduceEq, Int.reduceToNat, Int.reduceSub, Int.reduceNeg, Int.reduceAdd, ↓reduceIte, reduceCtorEq, pack, pid, parN, lid, chkK, apartV, Heap.none, ho, la, lb, w1, c2, hm, g1, g2]
    exact g3
theorem gcd_c {x y : List Int} (hx : U x) (hy : U y) (hla : x.length ≤ 2199023255552) (hlb : y.length ≤ 2199023255552) : R FF 71 [(AV.l 1 (List.map u x)), (AV.l 1 (List.map u y))] = some (AV.l 1 (List.map u (D (Nat.gcd (W x) (W y))))) := by
 have h1 := clean_c hx (by omega)
 have h2 := clean_c hy (by omega)
 have hl := L_W x
 have hl2 := L_W y
 generalize W x = a at *
 generalize W y = b at *
 have la : (D a).length = L a := rfl
 have lb : (D b).length = L b := rfl
 by_cases h3 : a = 0
 ·subst h3
  rw [Nat.gcd_zero_left]
  rw [R_go FF F71 c71.eq_1]
  simp only [RB, RL, un, St.none, Nat.reduceEqDiff, Nat.reduceAdd, Nat.reduceMul, Nat.reduceMod, Nat.reduceLeDiff, Nat.reduceLT, Int.reduceLT, Int.reduceLE, Int.reduceEq, Int.reduceToNat, Int.reduceSub, Int.reduceNeg, Int.reduceAdd, ↓reduceIte, reduceCtorEq, pack, pid, parN, lid, chkK, apartV, Heap.none, h1, h2, D_zero, List.length_nil]
 by_cases h4 : b = 0
 ·subst h4
  rw [Nat.gcd_zero_right]
  have c1 : ¬ (L a : Int) = 0 := fun h => h3 (D_nil.1 (List.eq_nil_of_length_eq_zero (by show L _ = 0; omega)))
  rw [R_go FF F71 c71.eq_1]
  simp only [RB, RL, un, St.none, Nat.reduceEqDiff, Nat.reduceAdd, Nat.reduceMul, Nat.reduceMod, Nat.reduceLeDiff, Nat.reduceLT, Int.reduceLT, Int.reduceLE, Int.reduceEq, Int.reduceToNat, Int.reduceSub, Int.reduceNeg, Int.reduceAdd, ↓reduceIte, reduceCtorEq, pack, pid, parN, lid, chkK, apartV, Heap.none, h1, h2, la, c1, D_zero, List.length_nil]
 have c1 : ¬ (L a : Int) = 0 := fun h => h3 (D_nil.1 (List.eq_nil_of_length_eq_zero (by show L _ = 0; omega)))
 have c2 : ¬ (L b : Int) = 0 := fun h => h4 (D_nil.1 (List.eq_nil_of_length_eq_zero (by show L _ = 0; omega)))
 by_cases h5 : L a ≤ 2 ∧ L b ≤ 2
 ·have k1 : (L a : Int) ≤ 2 := by omega
  have k2 : (L b : Int) ≤ 2 := by omega
  have b1 : a < 18446744073709551616 := by
   have := L_lt a
   have h6 : 4294967296 ^ L a ≤ 4294967296 ^ 2 := Nat.pow_le_pow_right (by decide) h5.1
   have h7 : (4294967296 : Nat) ^ 2 = 18446744073709551616 := by decide
   omega
  have b2 : b < 18446744073709551616 := by
   have := L_lt b
   have h6 : 4294967296 ^ L b ≤ 4294967296 ^ 2 := Nat.pow_le_pow_right (by decide) h5.2
   have h7 : (4294967296 : Nat) ^ 2 = 18446744073709551616 := by decide
   omega
  have h6 := euclid_c b1 b2
  rw [R_go FF F71 c71.eq_1]
  simp only [RB, RL, un, St.none, Nat.reduceEqDiff, Nat.reduceAdd, Nat.reduceMul, Nat.reduceMod, Nat.reduceLeDiff, Nat.reduceLT, Int.reduceLT, Int.reduceLE, Int.reduceEq, Int.reduceToNat, Int.reduceSub, Int.reduceNeg, Int.reduceAdd, ↓reduceIte, reduceCtorEq, pack, pid, parN, lid, chkK, apartV, Heap.none, h1, h2, la, lb, c1, c2, k1, k2, h6]
 ·obtain ⟨z, m, g1, g2, g3⟩ := zeros_c h3 (by omega)
  obtain ⟨z', m', g4, g5, g6⟩ := zeros_c h4 (by omega)
  have s1 := shr_D (m := a) (n := z) (by omega) (by omega)
  have s2 := shr_D (m := b) (n := z') (by omega) (by omega)
  rw [show a / 2 ^ z = 2 * m + 1 by rw [g1, Nat.mul_comm, Nat.mul_div_cancel _ (Nat.two_pow_pos z)]] at s1
  rw [show b / 2 ^ z' = 2 * m' + 1 by rw [g4, Nat.mul_comm, Nat.mul_div_cancel _ (Nat.two_pow_pos z')]] at s2
  have le1 : 2 * m + 1 ≤ a := by rw [g1]; exact Nat.le_mul_of_pos_left _ (Nat.two_pow_pos z)
  have le2 : 2 * m' + 1 ≤ b := by rw [g4]; exact Nat.le_mul_of_pos_left _ (Nat.two_pow_pos z')
  have h6 := gcd_l0 (x := z) (y := z') (by omega) (by omega) _ (2 * m + 1) (2 * m' + 1) (zo _) (by omega) (by omega) (zw (L_mono le1) (by omega)) (zw (L_mono le2) (by omega))
  have h7 : Nat.gcd (2 * m + 1) (2 * m' + 1) * 2 ^ min z z' = Nat.gcd a b := by
   have hp : Nat.gcd (2 ^ z) (2 ^ z') = 2 ^ min z z' := by
    rcases Nat.le_total z z' with h | h
    ·rw [Nat.min_eq_left h]; exact Nat.gcd_eq_left (Nat.pow_dvd_pow 2 h)
    ·rw [Nat.min_eq_right h]; exact Nat.gcd_eq_right (Nat.pow_dvd_pow 2 h)
   rcases Nat.le_total z z' with h | h
   ·rw [Nat.min_eq_left h, g1, g4, show z' = z + (z' - z) by omega, Nat.pow_add, Nat.mul_assoc, Nat.gcd_mul_left, Nat.mul_comm (2 ^ z)]
    congr 1
    rw [Nat.gcd_comm (2 * m + 1) (2 ^ (z' - z) * (2 * m' + 1)), odd_gcd (by omega), Nat.gcd_comm]
   ·rw [Nat.min_eq_right h, g1, g4, show z = z' + (z - z') by omega, Nat.pow_add, Nat.mul_assoc, Nat.gcd_mul_left, Nat.mul_comm (2 ^ z')]
    congr 1
    rw [odd_gcd (by omega)]
  rw [h7] at h6
  have k1 : ¬ ((L a : Int) ≤ 2 ∧ (L b : Int) ≤ 2) := by omega
  clear g1 g4 h7 le1 le2
  rcases Classical.not_and_iff_not_or_not.1 k1 with k | k
  ·rw [R_go FF F71 c71.eq_1]
   simp only [RB, RL, un, St.none, Nat.reduceEqDiff, Nat.reduceAdd, Nat.reduceMul, Nat.reduceMod, Nat.reduceLeDiff, Nat.reduceLT, Int.reduceLT, Int.reduceLE, Int.reduceEq, Int.reduceToNat, Int.reduceSub, Int.reduceNeg, Int.reduceAdd, ↓reduceIte, reduceCtorEq, pack, pid, parN, lid, chkK, apartV, Heap.none, h1, h2, la, lb, c1, c2, k, g3, g6, s1, s2, h6]
  ·by_cases k' : (L a : Int) ≤ 2
   ·rw [R_go FF F71 c71.eq_1]
    simp only [RB, RL, un, St.none, Nat.reduceEqDiff, Nat.reduceAdd, Nat.reduceMul, Nat.reduceMod, Nat.reduceLeDiff, Nat.reduceLT, Int.reduceLT, Int.reduceLE, Int.reduceEq, Int.reduceToNat, Int.reduceSub, Int.reduceNeg, Int.reduceAdd, ↓reduceIte, reduceCtorEq, pack, pid, parN, lid, chkK, apartV, Heap.none, h1, h2, la, lb, c1, c2, k, k', g3, g6, s1, s2, h6]
   ·rw [R_go FF F71 c71.eq_1]
    simp only [RB, RL, un, St.none, Nat.reduceEqDiff, Nat.reduceAdd, Nat.reduceMul, Nat.reduceMod, Nat.reduceLeDiff, Nat.reduceLT, Int.reduceLT, Int.reduceLE, Int.reduceEq, Int.reduceToNat, Int.reduceSub, Int.reduceNeg, Int.reduceAdd, ↓reduceIte, reduceCtorEq, pack, pid, parN, lid, chkK, apartV, Heap.none, h1, h2, la, lb, c1, c2, k', g3, g6, s1, s2, h6]
theorem gcd_D {a b : Nat} (hla : L a ≤ 2199023255552) (hlb : L b ≤ 2199023255552) : R FF 71 [(AV.l 1 (List.map u (D a))), (AV.l 1 (List.map u (D b)))] = some (AV.l 1 (List.map u (D (Nat.gcd a b)))) := by
 have := gcd_c (D_U a) (D_U b) hla hlb
 rwa [W_D, W_D] at this
def ng (n : Int) : Bool := decide (n < 0)
def sv (q : Bool) (k : Nat) : Int := if q then -(k : Int) else (k : Int)
def wv (q : Bool) (l : List Int) : Int := sv q (W l)
theorem sv_abs (q : Bool) (k : Nat) : (sv q k).natAbs = k := by unfold sv; cases q <;> simp
theorem sv_ng (q : Bool) (k : Nat) : ng (sv q k) = (q && decide (0 < k)) := by
 unfold sv ng
 cases q
 ·simp
 ·by_cases h : 0 < k
  ·simp [h]
  ·have : k = 0 := by omega
   subst this
   simp
theorem sv_self (n : Int) : sv (ng n) n.natAbs = n := by
 unfold sv ng
 by_cases h : n < 0
 ·simp [h]; omega
 ·simp [h]; omega
theorem wv_ci (n : Int) : wv (ng n) (D n.natAbs) = n := by unfold wv; rw [W_D, sv_self]
theorem ng_true {n : Int} : ng n = true ↔ n < 0 := by unfold ng; simp
theorem ng_false {n : Int} : ng n = false ↔ 0 ≤ n := by unfold ng; simp
theorem wv_L (q : Bool) (l : List Int) : L (wv q l).natAbs ≤ l.length := by unfold wv; rw [sv_abs]; exact L_W l
theorem L_pos {k : Nat} : (0 < (L k : Int)) ↔ 0 < k := by
 have : L k = 0 ↔ k = 0 := by
  show (D k).length = 0 ↔ _
  rw [List.length_eq_zero_iff, D_nil]
 omega
theorem sign_c (q : Bool) (k : Nat) : R FF 92 [.b q, (AV.l 1 (List.map u (D k)))] = some (AV.agg [AV.b (ng (sv q k)), (AV.l 1 (List.map u (D (zD (sv q k)))))]) := by
 have h1 : (D k).length = L k := rfl
 rw [sv_abs, sv_ng]
 cases q
 ·rw [R_go FF F92 c92.eq_1]
  simp only [RB, RL, un, St.none, Nat.reduceEqDiff, Nat.reduceAdd, Nat.reduceMul, Nat.reduceMod, Nat.reduceLeDiff, Nat.reduceLT, Int.reduceLT, Int.reduceLE, Int.reduceEq, Int.reduceToNat, Int.reduceSub, Int.reduceNeg, Int.reduceAdd, ↓reduceIte, reduceCtorEq, pack, pid, parN, lid, chkK, apartV, Heap.none]
 ·have h2 : decide (0 < (L k : Int)) = decide (0 < k) := decide_eq_decide.2 L_pos
  rw [R_go FF F92 c92.eq_1]
  simp only [RB, RL, un, St.none, Nat.reduceEqDiff, Nat.reduceAdd, Nat.reduceMul, Nat.reduceMod, Nat.reduceLeDiff, Nat.reduceLT, Int.reduceLT, Int.reduceLE, Int.reduceEq, Int.reduceToNat, Int.reduceSub, Int.reduceNeg, Int.reduceAdd, ↓reduceIte, reduceCtorEq, pack, pid, parN, lid, chkK, apartV, Heap.none, h1, h2]
theorem wclean_c {q : Bool} {l : List Int} (hu : U l) (hl : l.length ≤ 35184372088832) : R FF 81 [(AV.agg [AV.b q, (AV.l 1 (List.map u l))])] = some (AV.agg [AV.b (ng (wv q l)), (AV.l 1 (List.map u (D (zD (wv q l)))))]) := by
 have h1 := clean_c hu hl
 have h2 := sign_c q (W l)
 rw [R_go FF F81 c81.eq_1]
 simp only [RB, RL, un, St.none, Nat.reduceEqDiff, Nat.reduceAdd, Nat.reduceMul, Nat.reduceMod, Nat.reduceLeDiff, Nat.reduceLT, Int.reduceLT, Int.reduceLE, Int.reduceEq, Int.reduceToNat, Int.reduceSub, Int.reduceNeg, Int.reduceAdd, ↓reduceIte, reduceCtorEq, pack, pid, parN, lid, chkK, apartV, Heap.none, h1, h2]
 rfl
theorem wof_c {x : Int} (h0 : -9223372036854775808 ≤ x) (h1 : x ≤ 9223372036854775807) : R FF 82 [(AV.i .i64 x)] = some (AV.agg [AV.b (ng x), (AV.l 1 (List.map u (D (zD x))))]) := by
 by_cases hx : x < 0
 ·have e1 : IntKind.u64.wrap (0 - IntKind.u64.wrap x) = ((x.natAbs : Nat) : Int) := by rw [u64m, u64m]; omega
  have h2 := of_c (x := ((x.natAbs : Nat) : Int)) (by omega) (by omega) rfl
  have h3 := sign_c true x.natAbs
  rw [show sv true x.natAbs = x by unfold sv; simp; omega] at h3
  rw [R_go FF F82 c82.eq_1]
  simp only [RB, RL, un, St.none, Nat.reduceEqDiff, Nat.reduceAdd, Nat.reduceMul, Nat.reduceMod, Nat.reduceLeDiff, Nat.reduceLT, Int.reduceLT, Int.reduceLE, Int.reduceEq, Int.reduceToNat, Int.reduceSub, Int.reduceNeg, Int.reduceAdd, ↓reduceIte, reduceCtorEq, pack, pid, parN, lid, chkK, apartV, Heap.none, hx, e1, h2, h3]
 ·have e1 : IntKind.u64.wrap x = ((x.natAbs : Nat) : Int) := by rw [u64m]; omega
  have h2 := of_c (x := ((x.natAbs : Nat) : Int)) (by omega) (by omega) rfl
  have h3 := sign_c false x.natAbs
  rw [show sv false x.natAbs = x by unfold sv; simp; omega] at h3
  rw [R_go FF F82 c82.eq_1]
  simp only [RB, RL, un, St.none, Nat.reduceEqDiff, Nat.reduceAdd, Nat.reduceMul, Nat.reduceMod, Nat.reduceLeDiff, Nat.reduceLT, Int.reduceLT, Int.reduceLE, Int.reduceEq, Int.reduceToNat, Int.reduceSub, Int.reduceNeg, Int.reduceAdd, ↓reduceIte, reduceCtorEq, pack, pid, parN, lid, chkK, apartV, Heap.none, hx, e1, h2, h3]
theorem wsign_c {q : Bool} {l : List Int} (hu : U l) (hl : l.length ≤ 35184372088832) : R FF 83 [(AV.agg [AV.b q, (AV.l 1 (List.map u l))])] = some (AV.i .i64 (cmp (wv q l) 0)) := by
 have h1 := wclean_c (q := q) hu hl
 generalize wv q l = n at *
 have h2 : (D n.natAbs).length = L n.natAbs := rfl
 rcases Int.lt_trichotomy n 0 with h | h | h
 ·rw [ng_true.2 h] at h1
  rw [cmp_lt h]
  rw [R_go FF F83 c83.eq_1]
  simp only [RB, RL, un, St.none, Nat.reduceEqDiff, Nat.reduceAdd, Nat.reduceMul, Nat.reduceMod, Nat.reduceLeDiff, Nat.reduceLT, Int.reduceLT, Int.reduceLE, Int.reduceEq, Int.reduceToNat, Int.reduceSub, Int.reduceNeg, Int.reduceAdd, ↓reduceIte, reduceCtorEq, pack, pid, parN, lid, chkK, apartV, Heap.none, h1]
 ·subst h
  rw [ng_false.2 (Int.le_refl _)] at h1
  rw [R_go FF F83 c83.eq_1]
  simp only [RB, RL, un, St.none, Nat.reduceEqDiff, Nat.reduceAdd, Nat.reduceMul, Nat.reduceMod, Nat.reduceLeDiff, Nat.reduceLT, Int.reduceLT, Int.reduceLE, Int.reduceEq, Int.reduceToNat, Int.reduceSub, Int.reduceNeg, Int.reduceAdd, ↓reduceIte, reduceCtorEq, pack, pid, parN, lid, chkK, apartV, Heap.none, h1, Int.natAbs_zero, D_zero, List.length_nil]
  rfl
 ·rw [ng_false.2 (by omega)] at h1
  rw [cmp_gt h]
  have h3 := L_pos (k := n.natAbs)
  have h4 : ¬ (L n.natAbs : Int) = 0 := by omega
  rw [R_go FF F83 c83.eq_1]
  simp only [RB, RL, un, St.none, Nat.reduceEqDiff, Nat.reduceAdd, Nat.reduceMul, Nat.reduceMod, Nat.reduceLeDiff, Nat.reduceLT, Int.reduceLT, Int.reduceLE, Int.reduceEq, Int.reduceToNat, Int.reduceSub, Int.reduceNeg, Int.reduceAdd, ↓reduceIte, reduceCtorEq, pack, pid, parN, lid, chkK, apartV, Heap.none, h1, h2, h4]
theorem wneg_c {q : Bool} {l : List Int} (hu : U l) (hl : l.length ≤ 35184372088832) : R FF 86 [(AV.agg [AV.b q, (AV.l 1 (List.map u l))])] = some (AV.agg [AV.b (ng (-(wv q l))), (AV.l 1 (List.map u (D (zD (-(wv q l))))))]) := by
 have h1 := wclean_c (q := q) hu hl
 generalize wv q l = n at *
 have h2 := sign_c (!(ng n)) n.natAbs
 rw [show sv (!(ng n)) n.natAbs = -n by unfold sv ng; by_cases h : n < 0 <;> simp [h] <;> omega] at h2
 rw [R_go FF F86 c86.eq_1]
 simp only [RB, RL, un, St.none, Nat.reduceEqDiff, Nat.reduceAdd, Nat.reduceMul, Nat.reduceMod, Nat.reduceLeDiff, Nat.reduceLT, Int.reduceLT, Int.reduceLE, Int.reduceEq, Int.reduceToNat, Int.reduceSub, Int.reduceNeg, Int.reduceAdd, ↓reduceIte, reduceCtorEq, pack, pid, parN, lid, chkK, apartV, Heap.none, h1, h2]
theorem wcmp_c {q r : Bool} {l m : List Int} (hu : U l) (hl : l.length ≤ 35184372088832) (hv : U m) (hm : m.length ≤ 35184372088832) : R FF 64 [(AV.agg [AV.b q, (AV.l 1 (List.map u l))]), (AV.agg [AV.b r, (AV.l 1 (List.map u m))])] = some (AV.i .i64 (cmp (wv q l) (wv r m))) := by
 have h1 := wclean_c (q := q) hu hl
 have h2 := wclean_c (q := r) hv hm
 have l1 := wv_L q l
 have l2 := wv_L r m
 generalize wv q l = a at *
 generalize wv r m = b at *
 have la : (D a.natAbs).length = L a.natAbs := rfl
 have lb : (D b.natAbs).length = L b.natAbs := rfl
 have c1 := cmp_c (D_U a.natAbs) (D_U b.natAbs) (by omega) (by omega)
 have c2 := cmp_c (D_U b.natAbs) (D_U a.natAbs) (by omega) (by omega)
 rw [W_D, W_D] at c1 c2
 cases ha : ng a <;> cases hb : ng b <;> rw [ha] at h1 <;> rw [hb] at h2 <;> (first | rw [ng_true] at ha | rw [ng_false] at ha) <;> (first | rw [ng_true] at hb | rw [ng_false] at hb)
 ·rw [show ((a.natAbs : Nat) : Int) = a by omega, show ((b.natAbs : Nat) : Int) = b by omega] at c1
  rw [R_go FF F64 c64.eq_1]
  simp only [RB, RL, un, St.none, Nat.reduceEqDiff, Nat.reduceAdd, Nat.reduceMul, Nat.reduceMod, Nat.reduceLeDiff, Nat.reduceLT, Int.reduceLT, Int.reduceLE, Int.reduceEq, Int.reduceToNat, Int.reduceSub, Int.reduceNeg, Int.reduceAdd, ↓reduceIte, reduceCtorEq, pack, pid, parN, lid, chkK, apartV, Heap.none, h1, h2, c1]
 ·rw [cmp_gt (by omega)]
  rw [R_go FF F64 c64.eq_1]
  simp only [RB, RL, un, St.none, Nat.reduceEqDiff, Nat.reduceAdd, Nat.reduceMul, Nat.reduceMod, Nat.reduceLeDiff, Nat.reduceLT, Int.reduceLT, Int.reduceLE, Int.reduceEq, Int.reduceToNat, Int.reduceSub, Int.reduceNeg, Int.reduceAdd, ↓reduceIte, reduceCtorEq, pack, pid, parN, lid, chkK, apartV, Heap.none, h1, h2]
 ·rw [cmp_lt (by omega)]
  rw [R_go FF F64 c64.eq_1]
  simp only [RB, RL, un, St.none, Nat.reduceEqDiff, Nat.reduceAdd, Nat.reduceMul, Nat.reduceMod, Nat.reduceLeDiff, Nat.reduceLT, Int.reduceLT, Int.reduceLE, Int.reduceEq, Int.reduceToNat, Int.reduceSub, Int.reduceNeg, Int.reduceAdd, ↓reduceIte, reduceCtorEq, pack, pid, parN, lid, chkK, apartV, Heap.none, h1, h2]
 ·have e : cmp ((b.natAbs : Nat) : Int) ((a.natAbs : Nat) : Int) = cmp a b := by unfold cmp; split <;> split <;> (try split) <;> (try split) <;> omega
  rw [e] at c2
  rw [R_go FF F64 c64.eq_1]
  simp only [RB, RL, un, St.none, Nat.reduceEqDiff, Nat.reduceAdd, Nat.reduceMul, Nat.reduceMod, Nat.reduceLeDiff, Nat.reduceLT, Int.reduceLT, Int.reduceLE, Int.reduceEq, Int.reduceToNat, Int.reduceSub, Int.reduceNeg, Int.reduceAdd, ↓reduceIte, reduceCtorEq, pack, pid, parN, lid, chkK, apartV, Heap.none, h1, h2, c2]
theorem sv_add {q : Bool} {a b : Int} (ha : ng a = q) (hb : ng b = q) : sv q (a.natAbs + b.natAbs) = a + b := by
 cases q
 ·rw [ng_false] at ha hb; unfold sv; simp; omega
 ·rw [ng_true] at ha hb; unfold sv; simp; omega
theorem wadd_c {q r : Bool} {l m : List Int} (hu : U l) (hl : l.length ≤ 17592186044416) (hv : U m) (hm : m.length ≤ 17592186044416) : R FF 76 [(AV.agg [AV.b q, (AV.l 1 (List.map u l))]), (AV.agg [AV.b r, (AV.l 1 (List.map u m))])] = some (AV.agg [AV.b (ng (wv q l + wv r m)), (AV.l 1 (List.map u (D (zD (wv q l + wv r m)))))]) := by
 have h1 := wclean_c (q := q) hu (by omega)
 have h2 := wclean_c (q := r) hv (by omega)
 have l1 := wv_L q l
 have l2 := wv_L r m
 generalize wv q l = a at *
 generalize wv r m = b at *
 have s1 := add_D (m := a.natAbs) (n := b.natAbs) (by omega) (by omega)
 have c1 := cmp_c (D_U a.natAbs) (D_U b.natAbs) (show L a.natAbs ≤ _ by omega) (show L b.natAbs ≤ _ by omega)
 rw [W_D, W_D] at c1
 cases ha : ng a <;> cases hb : ng b <;> rw [ha] at h1 <;> rw [hb] at h2
 ·have g1 := sign_c false (a.natAbs + b.natAbs)
  rw [sv_add ha hb] at g1
  rw [R_go FF F76 c76.eq_1]
  simp only [RB, RL, un, St.none, Nat.reduceEqDiff, Nat.reduceAdd, Nat.reduceMul, Nat.reduceMod, Nat.reduceLeDiff, Nat.reduceLT, Int.reduceLT, Int.reduceLE, Int.reduceEq, Int.reduceToNat, Int.reduceSub, Int.reduceNeg, Int.reduceAdd, ↓reduceIte, reduceCtorEq, pack, pid, parN, lid, chkK, apartV, Heap.none, h1, h2, s1, g1]
 ·rw [ng_false] at ha
  rw [ng_true] at hb
  by_cases hlt : a.natAbs < b.natAbs
  ·have hc : cmp ((a.natAbs : Nat) : Int) ((b.natAbs : Nat) : Int) < 0 := cmp_lt_iff.2 (by omega)
   have d1 := sub_ge (D_U b.natAbs) (D_U a.natAbs) (show L b.natAbs ≤ _ by omega) (show L a.natAbs ≤ _ by omega) (by rw [W_D, W_D]; omega)
   rw [W_D, W_D] at d1
   have g1 := sign_c true (b.natAbs - a.natAbs)
   rw [show sv true (b.natAbs - a.natAbs) = a + b by unfold sv; simp; omega] at g1
   rw [R_go FF F76 c76.eq_1]
   simp only [RB, RL, un, St.none, Nat.reduceEqDiff, Nat.reduceAdd, Nat.reduceMul, Nat.reduceMod, Nat.reduceLeDiff, Nat.reduceLT, Int.reduceLT, Int.reduceLE, Int.reduceEq, Int.reduceToNat, Int.reduceSub, Int.reduceNeg, Int.reduceAdd, ↓reduceIte, reduceCtorEq, pack, pid, parN, lid, chkK, apartV, Heap.none, h1, h2, c1, hc, d1, g1]
  ·have hc : ¬ cmp ((a.natAbs : Nat) : Int) ((b.natAbs : Nat) : Int) < 0 := fun h => by have := cmp_lt_iff.1 h; omega
   have d1 := sub_ge (D_U a.natAbs) (D_U b.natAbs) (show L a.natAbs ≤ _ by omega) (show L b.natAbs ≤ _ by omega) (by rw [W_D, W_D]; omega)
   rw [W_D, W_D] at d1
   have g1 := sign_c false (a.natAbs - b.natAbs)
   rw [show sv false (a.natAbs - b.natAbs) = a + b by unfold sv; simp; omega] at g1
   rw [R_go FF F76 c76.eq_1]
   simp only [RB, RL, un, St.none, Nat.reduceEqDiff, Nat.reduceAdd, Nat.reduceMul, Nat.reduceMod, Nat.reduceLeDiff, Nat.reduceLT, Int.reduceLT, Int.reduceLE, Int.reduceEq, Int.reduceToNat, Int.reduceSub, Int.reduceNeg, Int.reduceAdd, ↓reduceIte, reduceCtorEq, pack, pid, parN, lid, chkK, apartV, Heap.none, h1, h2, c1, hc, d1, g1]
 ·rw [ng_true] at ha
  rw [ng_false] at hb
  by_cases hlt : a.natAbs < b.natAbs
  ·have hc : cmp ((a.natAbs : Nat) : Int) ((b.natAbs : Nat) : Int) < 0 := cmp_lt_iff.2 (by omega)
   have d1 := sub_ge (D_U b.natAbs) (D_U a.natAbs) (show L b.natAbs ≤ _ by omega) (show L a.natAbs ≤ _ by omega) (by rw [W_D, W_D]; omega)
   rw [W_D, W_D] at d1
   have g1 := sign_c false (b.natAbs - a.natAbs)
   rw [show sv false (b.natAbs - a.natAbs) = a + b by unfold sv; simp; omega] at g1
   rw [R_go FF F76 c76.eq_1]
   simp only [RB, RL, un, St.none, Nat.reduceEqDiff, Nat.reduceAdd, Nat.reduceMul, Nat.reduceMod, Nat.reduceLeDiff, Nat.reduceLT, Int.reduceLT, Int.reduceLE, Int.reduceEq, Int.reduceToNat, Int.reduceSub, Int.reduceNeg, Int.reduceAdd, ↓reduceIte, reduceCtorEq, pack, pid, parN, lid, chkK, apartV, Heap.none, h1, h2, c1, hc, d1, g1]
  ·have hc : ¬ cmp ((a.natAbs : Nat) : Int) ((b.natAbs : Nat) : Int) < 0 := fun h => by have := cmp_lt_iff.1 h; omega
   have d1 := sub_ge (D_U a.natAbs) (D_U b.natAbs) (show L a.natAbs ≤ _ by omega) (show L b.natAbs ≤ _ by omega) (by rw [W_D, W_D]; omega)
   rw [W_D, W_D] at d1
   have g1 := sign_c true (a.natAbs - b.natAbs)
   rw [show sv true (a.natAbs - b.natAbs) = a + b by unfold sv; simp; omega] at g1
   rw [R_go FF F76 c76.eq_1]
   simp only [RB, RL, un, St.none, Nat.reduceEqDiff, Nat.reduceAdd, Nat.reduceMul, Nat.reduceMod, Nat.reduceLeDiff, Nat.reduceLT, Int.reduceLT, Int.reduceLE, Int.reduceEq, Int.reduceToNat, Int.reduceSub, Int.reduceNeg, Int.reduceAdd, ↓reduceIte, reduceCtorEq, pack, pid, parN, lid, chkK, apartV, Heap.none, h1, h2, c1, hc, d1, g1]
 ·have g1 := sign_c true (a.natAbs + b.natAbs)
  rw [sv_add ha hb] at g1
  rw [R_go FF F76 c76.eq_1]
  simp only [RB, RL, un, St.none, Nat.reduceEqDiff, Nat.reduceAdd, Nat.reduceMul, Nat.reduceMod, Nat.reduceLeDiff, Nat.reduceLT, Int.reduceLT, Int.reduceLE, Int.reduceEq, Int.reduceToNat, Int.reduceSub, Int.reduceNeg, Int.reduceAdd, ↓reduceIte, reduceCtorEq, pack, pid, parN, lid, chkK, apartV, Heap.none, h1, h2, s1, g1]
theorem wadd_D {a b : Int} (ha : L a.natAbs ≤ 17592186044416) (hb : L b.natAbs ≤ 17592186044416) : R FF 76 [(AV.agg [AV.b (ng a), (AV.l 1 (List.map u (D (zD a))))]), (AV.agg [AV.b (ng b), (AV.l 1 (List.map u (D (zD b))))])] = some (AV.agg [AV.b (ng (a + b)), (AV.l 1 (List.map u (D (zD (a + b)))))]) := by
 have := wadd_c (q := ng a) (r := ng b) (D_U a.natAbs) ha (D_U b.natAbs) hb
 rwa [wv_ci, wv_ci] at this
theorem sv_xor_mul (a b : Int) : sv (ng a != ng b) (a.natAbs * b.natAbs) = a * b := by
 rw [← Int.natAbs_mul]
 have h := sv_self (a * b)
 cases ha : ng a <;> cases hb : ng b <;> (first | rw [ng_true] at ha | rw [ng_false] at ha) <;> (first | rw [ng_true] at hb | rw [ng_false] at hb) <;> unfold sv <;> simp
 ·have := Int.mul_nonneg ha hb
  omega
 ·have := Int.mul_nonneg ha (show 0 ≤ -b by omega)
  rw [Int.mul_neg] at this
  omega
 ·have := Int.mul_nonneg (show 0 ≤ -a by omega) hb
  rw [Int.neg_mul] at this
  omega
 ·have := Int.mul_nonneg (show 0 ≤ -a by omega) (show 0 ≤ -b by omega)
  rw [Int.neg_mul_neg] at this
  omega
theorem wmul_c {q r : Bool} {l m : List Int} (hu : U l) (hl : l.length ≤ 17592186044416) (hv : U m) (hm : m.length ≤ 17592186044416) : R FF 65 [(AV.agg [AV.b q, (AV.l 1 (List.map u l))]), (AV.agg [AV.b r, (AV.l 1 (List.map u m))])] = some (AV.agg [AV.b (ng (wv q l * wv r m)), (AV.l 1 (List.map u (D (zD (wv q l * wv r m)))))]) := by
 have h1 := wclean_c (q := q) hu (by omega)
 have h2 := wclean_c (q := r) hv (by omega)
 have l1 := wv_L q l
 have l2 := wv_L r m
 generalize wv q l = a at *
 generalize wv r m = b at *
 have s1 := mul_D (m := a.natAbs) (n := b.natAbs) (by omega)
 have g1 := sign_c (ng a != ng b) (a.natAbs * b.natAbs)
 rw [sv_xor_mul] at g1
 cases ha : ng a <;> cases hb : ng b <;> rw [ha] at h1 g1 <;> rw [hb] at h2 g1 <;> simp only [bne, boolq, Bool.not_true, Bool.not_false] at g1
 all_goals
  rw [R_go FF F65 c65.eq_1]
  simp only [RB, RL, un, St.none, Nat.reduceEqDiff, Nat.reduceAdd, Nat.reduceMul, Nat.reduceMod, Nat.reduceLeDiff, Nat.reduceLT, Int.reduceLT, Int.reduceLE, Int.reduceEq, Int.reduceToNat, Int.reduceSub, Int.reduceNeg, Int.reduceAdd, ↓reduceIte, reduceCtorEq, pack, pid, parN, lid, chkK, apartV, Heap.none, h1, h2, s1, g1]
theorem take_U {l : List Int} (h : U l) (n : Nat) : U (l.take n) := fun x hx => h x (List.mem_of_mem_take hx)
def rgt (q : Bool) (l : List Int) : Bool := decide (l = D (W l)) && (decide (0 < (l.length : Int)) || !q)
theorem getD_mem' {α : Type} {l : List α} {k : Nat} (d : α) (h : k < l.length) : l.getD k d ∈ l := by
 rw [za, ze h]
 exact List.getElem_mem _
def qv (q : Bool) (l d : List Int) : Rat := mkRat (wv q l) (W d)
theorem mk_num {n : Int} {d : Nat} (hd : d ≠ 0) : (mkRat n d).num.natAbs = n.natAbs / Nat.gcd n.natAbs d ∧ ng (mkRat n d).num = ng n ∧ (mkRat n d).den = d / Nat.gcd n.natAbs d := by
 rw [Rat.num_mkRat, Rat.den_mkRat, if_neg hd, if_neg hd, Nat.gcd_comm d]
 have hg : 0 < Nat.gcd n.natAbs d := Nat.gcd_pos_of_pos_right _ (Nat.pos_of_ne_zero hd)
 obtain ⟨m, hm⟩ := Int.ofNat_dvd_left.2 (Nat.gcd_dvd_left n.natAbs d)
 generalize Nat.gcd n.natAbs d = g at *
 subst hm
 have g0 : (g : Int) ≠ 0 := by omega
 rw [Int.mul_ediv_cancel_left _ g0, Int.natAbs_mul, Int.natAbs_natCast, Nat.mul_div_cancel_left _ hg]
 refine ⟨rfl, ?_, rfl⟩
 unfold ng
 rw [decide_eq_decide]
 constructor
 ·intro h; exact Int.mul_neg_of_pos_of_neg (by omega) h
 ·intro h
  rcases Int.lt_or_le m 0 with k | k
  ·exact k
  ·have := Int.mul_nonneg (show (0 : Int) ≤ g by omega) k; omega
theorem form_c {n : Int} {d : Nat} (hd : d ≠ 0) (hn : L n.natAbs ≤ 100000000000) (hl : L d ≤ 100000000000) : R FF 75 [(AV.agg [AV.b (ng n), (AV.l 1 (List.map u (D (zD n))))]), (AV.l 1 (List.map u (D d)))] = some (AV.agg [AV.b (ng (zC (mkRat n d))), (AV.l 1 (List.map u (D (zD (zC (mkRat n d)))))), (AV.l 1 (List.map u (D (Rat.den (mkRat n d)))))]) := by
 obtain ⟨k1, k2, k3⟩ := mk_num (n := n) hd
 rw [k1, k2, k3]
 have o1 := of_c (x := 1) (by omega) (by omega) (n := 1) rfl
 by_cases h0 : n = 0
 ·subst h0
  rw [ng_false.2 (Int.le_refl _), Int.natAbs_zero, Nat.zero_div, Nat.gcd_zero_left, Nat.div_self (Nat.pos_of_ne_zero hd), D_zero]
  rw [R_go FF F75 c75.eq_1]
  simp only [RB, RL, un, St.none, Nat.reduceEqDiff, Nat.reduceAdd, Nat.reduceMul, Nat.reduceMod, Nat.reduceLeDiff, Nat.reduceLT, Int.reduceLT, Int.reduceLE, Int.reduceEq, Int.reduceToNat, Int.reduceSub, Int.reduceNeg, Int.reduceAdd, ↓reduceIte, reduceCtorEq, pack, pid, parN, lid, chkK, apartV, Heap.none, o1]
 ·have g1 := gcd_D (a := n.natAbs) (b := d) (by omega) (by omega)
  have hg : 0 < Nat.gcd n.natAbs d := Nat.gcd_pos_of_pos_right _ (Nat.pos_of_ne_zero hd)
  have c1 : ¬ (((D n.natAbs).length : Nat) : Int) = 0 := by have := (L_pos (k := n.natAbs)).2 (by omega); show ¬ (L n.natAbs : Int) = 0; omega
  have hgl : L (Nat.gcd n.natAbs d) ≤ 100000000000 := zw (L_mono (Nat.gcd_le_right _ (Nat.pos_of_ne_zero hd))) hl
  have d1 := divmod_c (D_U n.natAbs) (D_U (Nat.gcd n.natAbs d)) (show L _ ≤ _ by omega) (show L _ ≤ _ by omega)
  have d2 := divmod_c (D_U d) (D_U (Nat.gcd n.natAbs d)) (show L _ ≤ _ by omega) (show L _ ≤ _ by omega)
  rw [W_D, W_D, if_neg (by omega)] at d1 d2
  generalize Nat.gcd n.natAbs d = g at *
  by_cases h1 : g = 1
  ·subst h1
   have e1 : D 1 = [1] := by decide +kernel
   rw [Nat.div_one, Nat.div_one]
   rw [e1] at g1
   rw [R_go FF F75 c75.eq_1]
   simp only [RB, RL, un, St.none, Nat.reduceEqDiff, Nat.reduceAdd, Nat.reduceMul, Nat.reduceMod, Nat.reduceLeDiff, Nat.reduceLT, Int.reduceLT, Int.reduceLE, Int.reduceEq, Int.reduceToNat, Int.reduceSub, Int.reduceNeg, Int.reduceAdd, ↓reduceIte, reduceCtorEq, pack, pid, parN, lid, chkK, apartV, Heap.none, c1, g1]
  ·by_cases h2 : ((L g : Nat) : Int) = 1
   ·obtain ⟨x, hx⟩ := List.length_eq_one_iff.1 (show (D g).length = 1 from by have : (D g).length = L g := rfl; omega)
    have e1 : x = (g : Int) := by
     have h3 := D_vl g
     rw [hx] at h3
     simpa [Dg.vl] using h3
    have c2 : ¬ x = 1 := by omega
    rw [hx] at g1 d1 d2
    simp only [List.map_cons, List.map_nil] at g1 d1 d2
    rw [R_go FF F75 c75.eq_1]
    simp only [RB, RL, un, St.none, Nat.reduceEqDiff, Nat.reduceAdd, Nat.reduceMul, Nat.reduceMod, Nat.reduceLeDiff, Nat.reduceLT, Int.reduceLT, Int.reduceLE, Int.reduceEq, Int.reduceToNat, Int.reduceSub, Int.reduceNeg, Int.reduceAdd, ↓reduceIte, reduceCtorEq, pack, pid, parN, lid, chkK, apartV, Heap.none, c1, g1, c2, d1, d2]
   ·have c2 : ¬ (((D g).length : Nat) : Int) = 1 := h2
    rw [R_go FF F75 c75.eq_1]
    simp only [RB, RL, un, St.none, Nat.reduceEqDiff, Nat.reduceAdd, Nat.reduceMul, Nat.reduceMod, Nat.reduceLeDiff, Nat.reduceLT, Int.reduceLT, Int.reduceLE, Int.reduceEq, Int.reduceToNat, Int.reduceSub, Int.reduceNeg, Int.reduceAdd, ↓reduceIte, reduceCtorEq, pack, pid, parN, lid, chkK, apartV, Heap.none, c1, g1, c2, d1, d2]
def sq (x : Rat) : Nat := max (L x.num.natAbs) (L x.den)
theorem sq_num (x : Rat) : L x.num.natAbs ≤ sq x := Nat.le_max_left _ _
theorem sq_den (x : Rat) : L x.den ≤ sq x := Nat.le_max_right _ _
theorem sq_mk {n : Int} {d : Nat} (hd : d ≠ 0) : sq (mkRat n d) ≤ max (L n.natAbs) (L d) := by
 obtain ⟨k1, _, k3⟩ := mk_num (n := n) hd
 unfold sq
 rw [k1, k3]
 have h1 := L_mono (Nat.div_le_self n.natAbs (Nat.gcd n.natAbs d))
 have h2 := L_mono (Nat.div_le_self d (Nat.gcd n.natAbs d))
 omega
theorem qv_cq (x : Rat) : qv (ng x.num) (D x.num.natAbs) (D x.den) = x := by unfold qv; rw [wv_ci, W_D, Rat.mkRat_self]
theorem qv_sq {q : Bool} {l d : List Int} {k : Nat} (h1 : l.length ≤ k) (h2 : d.length ≤ k) (hk : 1 ≤ k) : sq (qv q l d) ≤ k := by
 unfold qv
 by_cases h0 : W d = 0
 ·rw [h0, Rat.mkRat_zero]
  have a1 : L (0 : Rat).num.natAbs ≤ 0 := L_le (n := 0) (k := 0) (by decide)
  have a2 : L (0 : Rat).den ≤ 1 := L_le (n := 1) (k := 1) (by decide)
  unfold sq
  omega
 ·have := sq_mk (n := wv q l) h0
  have := wv_L q l
  have := L_W d
  omega
theorem sq_add (x y : Rat) : sq (x + y) ≤ sq x + sq y + 1 := by
 rw [Rat.add_def']
 have h := sq_mk (n := x.num * y.den + y.num * x.den) (d := x.den * y.den) (Nat.mul_ne_zero x.den_nz y.den_nz)
 have a1 := L_mul x.den y.den
 have a2 := L_mono (Int.natAbs_add_le (x.num * y.den) (y.num * x.den))
 have a3 := L_add (x.num * y.den).natAbs (y.num * x.den).natAbs
 rw [Int.natAbs_mul, Int.natAbs_mul, Int.natAbs_natCast, Int.natAbs_natCast] at a2 a3
 have a4 := L_mul x.num.natAbs y.den
 have a5 := L_mul y.num.natAbs x.den
 have := sq_num x
 have := sq_num y
 have := sq_den x
 have := sq_den y
 omega
theorem sq_neg (x : Rat) : sq (-x) = sq x := by unfold sq; rw [Rat.neg_num, Rat.neg_den, Int.natAbs_neg]
theorem qzero_c : R FF 54 [] = some (AV.agg [AV.b (ng (zC ((0 : Rat)))), (AV.l 1 (List.map u (D (zD (zC ((0 : Rat))))))), (AV.l 1 (List.map u (D (Rat.den ((0 : Rat))))))]) := by
 have o1 := of_c (x := 1) (by omega) (by omega) (n := 1) rfl
 show R FF 54 [] = some (.agg [.b (ng 0), (AV.l 1 (List.map u (D 0))), (AV.l 1 (List.map u (D 1)))])
 rw [ng_false.2 (Int.le_refl _), D_zero]
 rw [R_go FF F54 c54.eq_1]
 simp only [RB, RL, un, St.none, Nat.reduceEqDiff, Nat.reduceAdd, Nat.reduceMul, Nat.reduceMod, Nat.reduceLeDiff, Nat.reduceLT, Int.reduceLT, Int.reduceLE, Int.reduceEq, Int.reduceToNat, Int.reduceSub, Int.reduceNeg, Int.reduceAdd, ↓reduceIte, reduceCtorEq, pack, pid, parN, lid, chkK, apartV, Heap.none, o1]
theorem qof_c {n : Int} (h0 : -9223372036854775808 ≤ n) (h1 : n ≤ 9223372036854775807) : R FF 68 [(AV.i .i64 n)] = some (AV.agg [AV.b (ng (zC ((n : Rat)))), (AV.l 1 (List.map u (D (zD (zC ((n : Rat))))))), (AV.l 1 (List.map u (D (Rat.den ((n : Rat))))))]) := by
 have o1 := of_c (x := 1) (by omega) (by omega) (n := 1) rfl
 have o2 := wof_c h0 h1
 rw [Rat.num_intCast, Rat.den_intCast]
 rw [R_go FF F68 c68.eq_1]
 simp only [RB, RL, un, St.none, Nat.reduceEqDiff, Nat.reduceAdd, Nat.reduceMul, Nat.reduceMod, Nat.reduceLeDiff, Nat.reduceLT, Int.reduceLT, Int.reduceLE, Int.reduceEq, Int.reduceToNat, Int.reduceSub, Int.reduceNeg, Int.reduceAdd, ↓reduceIte, reduceCtorEq, pack, pid, parN, lid, chkK, apartV, Heap.none, o1, o2]
theorem qclean_c {q : Bool} {l d : List Int} (hu : U l) (hl : l.length ≤ 100000000000) (hv : U d) (hd : d.length ≤ 100000000000) : R FF 63 [(AV.agg [AV.b q, (AV.l 1 (List.map u l)), (AV.l 1 (List.map u d))])] = some (AV.agg [AV.b (ng (zC (qv q l d))), (AV.l 1 (List.map u (D (zD (zC (qv q l d)))))), (AV.l 1 (List.map u (D (Rat.den (qv q l d)))))]) := by
 have c1 := clean_c hv (by omega)
 have c2 := wclean_c (q := q) hu (by omega)
 unfold qv
 have l1 := wv_L q l
 have l2 := L_W d
 by_cases h0 : W d = 0
 ·have z1 := qzero_c
  rw [h0] at c1
  rw [h0, Rat.mkRat_zero]
  rw [D_zero] at c1
  rw [R_go FF F63 c63.eq_1]
  simp only [RB, RL, un, St.none, Nat.reduceEqDiff, Nat.reduceAdd, Nat.reduceMul, Nat.reduceMod, Nat.reduceLeDiff, Nat.reduceLT, Int.reduceLT, Int.reduceLE, Int.reduceEq, Int.reduceToNat, Int.reduceSub, Int.reduceNeg, Int.reduceAdd, ↓reduceIte, reduceCtorEq, pack, pid, parN, lid, chkK, apartV, Heap.none, c1, z1]
 ·have f1 := form_c (n := wv q l) h0 (by omega) (by omega)
  have c3 : ¬ (((D (W d)).length : Nat) : Int) = 0 := by have := (L_pos (k := W d)).2 (Nat.pos_of_ne_zero h0); show ¬ (L (W d) : Int) = 0; omega
  rw [R_go FF F63 c63.eq_1]
  simp only [RB, RL, un, St.none, Nat.reduceEqDiff, Nat.reduceAdd, Nat.reduceMul, Nat.reduceMod, Nat.reduceLeDiff, Nat.reduceLT, Int.reduceLT, Int.reduceLE, Int.reduceEq, Int.reduceToNat, Int.reduceSub, Int.reduceNeg, Int.reduceAdd, ↓reduceIte, reduceCtorEq, pack, pid, parN, lid, chkK, apartV, Heap.none, c1, c2, c3, f1]
theorem qden_c {q : Bool} {l d : List Int} : R FF 66 [(AV.agg [AV.b q, (AV.l 1 (List.map u l)), (AV.l 1 (List.map u d))])] = some (AV.agg [AV.b false, (AV.l 1 (List.map u d))]) := by
 rw [R_go FF F66 c66.eq_1]
 simp only [RB, RL, un, St.none, Nat.reduceEqDiff, Nat.reduceAdd, Nat.reduceMul, Nat.reduceMod, Nat.reduceLeDiff, Nat.reduceLT, Int.reduceLT, Int.reduceLE, Int.reduceEq, Int.reduceToNat, Int.reduceSub, Int.reduceNeg, Int.reduceAdd, ↓reduceIte, reduceCtorEq, pack, pid, parN, lid, chkK, apartV, Heap.none]
def qcmp (x y : Rat) : Int := cmp (x.num * y.den) (y.num * x.den)
theorem qcmp_lt {x y : Rat} : qcmp x y < 0 ↔ x < y := by unfold qcmp; rw [cmp_lt_iff, Rat.lt_iff]
theorem qcmp_gt {x y : Rat} : 0 < qcmp x y ↔ y < x := by unfold qcmp; rw [cmp_gt_iff, Rat.lt_iff]
theorem qcmp_le {x y : Rat} : qcmp x y ≤ 0 ↔ x ≤ y := by unfold qcmp; rw [cmp_le_iff, Rat.le_iff]
theorem qcmp_ge {x y : Rat} : 0 ≤ qcmp x y ↔ y ≤ x := by have := qcmp_lt (x := x) (y := y); have := Rat.not_lt (a := x) (b := y); grind
theorem qcmp_eq {x y : Rat} : qcmp x y = 0 ↔ x = y := by
 have h1 := qcmp_le (x := x) (y := y)
 have h2 := qcmp_ge (x := x) (y := y)
 constructor
 ·intro h; exact Rat.le_antisymm (h1.1 (by omega)) (h2.1 (by omega))
 ·intro h
  have a1 := h1.2 (by rw [h]; exact Rat.le_refl)
  have a2 := h2.2 (by rw [h]; exact Rat.le_refl)
  omega
theorem den_ci (d : Nat) : wv false (D d) = (d : Int) := by unfold wv sv; rw [W_D]; rfl
theorem qcmp_c {q r : Bool} {l d m e : List Int} (hu : U l) (hl : l.length ≤ 100000000000) (hv : U d) (hd : d.length ≤ 100000000000) (hu2 : U m) (hl2 : m.length ≤ 100000000000) (hv2 : U e) (hd2 : e.length ≤ 100000000000) :
  R FF 14 [(AV.agg [AV.b q, (AV.l 1 (List.map u l)), (AV.l 1 (List.map u d))]), (AV.agg [AV.b r, (AV.l 1 (List.map u m)), (AV.l 1 (List.map u e))])] = some (AV.i .i64 (qcmp (qv q l d) (qv r m e))) := by
 have c1 := qclean_c (q := q) hu hl hv hd
 have c2 := qclean_c (q := r) hu2 hl2 hv2 hd2
 have s1 := qv_sq (q := q) (l := l) (d := d) (k := 100000000000) hl hd (by omega)
 have s2 := qv_sq (q := r) (l := m) (d := e) (k := 100000000000) hl2 hd2 (by omega)
 generalize qv q l d = x at *
 generalize qv r m e = y at *
 have e1 := qden_c (q := ng x.num) (l := D x.num.natAbs) (d := D x.den)
 have e2 := qden_c (q := ng y.num) (l := D y.num.natAbs) (d := D y.den)
 have n1 := sq_num x
 have n2 := sq_num y
 have n3 := sq_den x
 have n4 := sq_den y
 have m1 := wmul_c (q := ng x.num) (r := false) (D_U x.num.natAbs) (show L _ ≤ _ by omega) (D_U y.den) (show L _ ≤ _ by omega)
 have m2 := wmul_c (q := ng y.num) (r := false) (D_U y.num.natAbs) (show L _ ≤ _ by omega) (D_U x.den) (show L _ ≤ _ by omega)
 rw [wv_ci, den_ci] at m1 m2
 have b1 : L (x.num * y.den).natAbs ≤ 200000000000 := by rw [Int.natAbs_mul, Int.natAbs_natCast]; have := L_mul x.num.natAbs y.den; omega
 have b2 : L (y.num * x.den).natAbs ≤ 200000000000 := by rw [Int.natAbs_mul, Int.natAbs_natCast]; have := L_mul y.num.natAbs x.den; omega
 have k1 := wcmp_c (q := ng (x.num * y.den)) (r := ng (y.num * x.den)) (D_U (x.num * y.den).natAbs) (show L _ ≤ _ by omega) (D_U (y.num * x.den).natAbs) (show L _ ≤ _ by omega)
 rw [wv_ci, wv_ci] at k1
 unfold qcmp
 rw [R_go FF F14 c14.eq_1]
 simp only [RB, RL, un, St.none, Nat.reduceEqDiff, Nat.reduceAdd, Nat.reduceMul, Nat.reduceMod, Nat.reduceLeDiff, Nat.reduceLT, Int.reduceLT, Int.reduceLE, Int.reduceEq, Int.reduceToNat, Int.reduceSub, Int.reduceNeg, Int.reduceAdd, ↓reduceIte, reduceCtorEq, pack, pid, parN, lid, chkK, apartV, Heap.none, c1, c2, e1, e2, m1, m2, k1]
def Sm (l d : List Int) (k : Nat) : Prop := (U l ∧ l.length ≤ k) ∧ U d ∧ d.length ≤ k
theorem Sm.take {l d : List Int} {k : Nat} (h : Sm l d k) (n : Nat) : Sm (l.take n) (d.take n) n := ⟨⟨take_U h.1.1 n, List.length_take_le _ _⟩, take_U h.2.1 n, List.length_take_le _ _⟩
theorem Sm.mono {l d : List Int} {k m : Nat} (h : Sm l d k) (hm : k ≤ m) : Sm l d m := ⟨⟨h.1.1, zw h.1.2 hm⟩, h.2.1, zw h.2.2 hm⟩
theorem sm_cq {x : Rat} {k : Nat} (h : sq x ≤ k) : Sm (D x.num.natAbs) (D x.den) k := ⟨⟨D_U _, zw (sq_num x) h⟩, D_U _, zw (sq_den x) h⟩
theorem Sm.sq {q : Bool} {l d : List Int} {k : Nat} (h : Sm l d k) (hk : 1 ≤ k) : sq (qv q l d) ≤ k := qv_sq h.1.2 h.2.2 hk
theorem qclean_s {q : Bool} {l d : List Int} {k : Nat} (h : Sm l d k) (hk : k ≤ 100000000000) : R FF 63 [(AV.agg [AV.b q, (AV.l 1 (List.map u l)), (AV.l 1 (List.map u d))])] = some (AV.agg [AV.b (ng (zC (qv q l d))), (AV.l 1 (List.map u (D (zD (zC (qv q l d)))))), (AV.l 1 (List.map u (D (Rat.den (qv q l d)))))]) := qclean_c h.1.1 (zw h.1.2 hk) h.2.1 (zw h.2.2 hk)
theorem qcmp_s {q r : Bool} {l d m e : List Int} {k j : Nat} (h : Sm l d k) (h2 : Sm m e j) (hk : k ≤ 100000000000) (hj : j ≤ 100000000000) : R FF 14 [(AV.agg [AV.b q, (AV.l 1 (List.map u l)), (AV.l 1 (List.map u d))]), (AV.agg [AV.b r, (AV.l 1 (List.map u m)), (AV.l 1 (List.map u e))])] = some (AV.i .i64 (qcmp (qv q l d) (qv r m e))) :=
 qcmp_c h.1.1 (zw h.1.2 hk) h.2.1 (zw h.2.2 hk) h2.1.1 (zw h2.1.2 hj) h2.2.1 (zw h2.2.2 hj)
theorem number09_c {q : Bool} {l d : List Int} (hl : l.length ≤ maxL) (hd : d.length ≤ maxL) : R FF 74 [(AV.agg [AV.b q, (AV.l 1 (List.map u l)), (AV.l 1 (List.map u d))])] = some (AV.agg [AV.b q, (AV.l 1 (List.map u (((l.take 3))))), (AV.l 1 (List.map u (((d.take 3)))))]) := by
 have e3 : (3 : Int).toNat = 3 := rfl
 by_cases c1 : 3 < (l.length : Int)
 ·have c3 : (3 : Int) ≤ (l.length : Int) := by omega
  by_cases c2 : 3 < (d.length : Int)
  ·have c4 : (3 : Int) ≤ (d.length : Int) := by omega
   rw [R_go FF F74 c74.eq_1]
   simp only [RB, RL, un, St.none, Nat.reduceEqDiff, Nat.reduceAdd, Nat.reduceMul, Nat.reduceMod, Nat.reduceLeDiff, Nat.reduceLT, Int.reduceLT, Int.reduceLE, Int.reduceEq, Int.reduceToNat, Int.reduceSub, Int.reduceNeg, Int.reduceAdd, ↓reduceIte, reduceCtorEq, pack, pid, parN, lid, chkK, apartV, Heap.none, c1, c2, c3, c4]
  ·have t2 : d.take 3 = d := zc (by omega)
   rw [t2]
   rw [R_go FF F74 c74.eq_1]
   simp only [RB, RL, un, St.none, Nat.reduceEqDiff, Nat.reduceAdd, Nat.reduceMul, Nat.reduceMod, Nat.reduceLeDiff, Nat.reduceLT, Int.reduceLT, Int.reduceLE, Int.reduceEq, Int.reduceToNat, Int.reduceSub, Int.reduceNeg, Int.reduceAdd, ↓reduceIte, reduceCtorEq, pack, pid, parN, lid, chkK, apartV, Heap.none, c1, c2, c3]
 ·have t1 : l.take 3 = l := zc (by omega)
  rw [t1]
  by_cases c2 : 3 < (d.length : Int)
  ·have c4 : (3 : Int) ≤ (d.length : Int) := by omega
   rw [R_go FF F74 c74.eq_1]
   simp only [RB, RL, un, St.none, Nat.reduceEqDiff, Nat.reduceAdd, Nat.reduceMul, Nat.reduceMod, Nat.reduceLeDiff, Nat.reduceLT, Int.reduceLT, Int.reduceLE, Int.reduceEq, Int.reduceToNat, Int.reduceSub, Int.reduceNeg, Int.reduceAdd, ↓reduceIte, reduceCtorEq, pack, pid, parN, lid, chkK, apartV, Heap.none, c1, c2, c4]
  ·have t2 : d.take 3 = d := zc (by omega)
   rw [t2]
   rw [R_go FF F74 c74.eq_1]
   simp only [RB, RL, un, St.none, Nat.reduceEqDiff, Nat.reduceAdd, Nat.reduceMul, Nat.reduceMod, Nat.reduceLeDiff, Nat.reduceLT, Int.reduceLT, Int.reduceLE, Int.reduceEq, Int.reduceToNat, Int.reduceSub, Int.reduceNeg, Int.reduceAdd, ↓reduceIte, reduceCtorEq, pack, pid, parN, lid, chkK, apartV, Heap.none, c1, c2]
def t3 (c : RC) : RC := (c.1, c.2.1, c.2.2.1.take 3, c.2.2.2.take 3)
theorem few09_l0 {l : List RC} {n : Nat} (hn : n ≤ 100000000000) (hu : ∀ x ∈ l, OkC x) (hl : l.length ≤ maxL) : ∀ (d i : Nat), i + d = min l.length n →
  LP FF [(5, 1), (0, 0), (1, 0), (6, 0)] [(5, 0)] b29_0 [.own true 4 (((l.take i).map t3).map eC), .l 4 (l.map eC), (AV.i .i64 ((n : Int))), (AV.i .i64 ((i : Int)))] = some (.exit 0, [.l 4 (((l.take n).map t3).map eC)]) := by
 intro d
 induction d with
 | zero =>
  intro i hi
  have h2 : l.take i = l.take n := by
   rw [show i = min l.length n by omega]
   rcases Nat.le_total l.length n with h | h
   ·rw [Nat.min_eq_left h, zc (zo _), zc h]
   ·rw [Nat.min_eq_right h]
  rw [h2, show i = min l.length n by omega]
  by_cases c1 : ((min l.length n : Nat) : Int) < (l.length : Int)
  ·have c2 : ¬ ((min l.length n : Nat) : Int) < (n : Int) := by omega
   rw [LP_go FF b29_0.eq_1]
   simp only [RB, RL, un, St.none, Nat.reduceEqDiff, Nat.reduceAdd, Nat.reduceMul, Nat.reduceMod, Nat.reduceLeDiff, Nat.reduceLT, Int.reduceLT, Int.reduceLE, Int.reduceEq, Int.reduceToNat, Int.reduceSub, Int.reduceNeg, Int.reduceAdd, ↓reduceIte, reduceCtorEq, pack, pid, parN, lid, chkK, apartV, Heap.none, c1, c2]
  ·rw [LP_go FF b29_0.eq_1]
   simp only [RB, RL, un, St.none, Nat.reduceEqDiff, Nat.reduceAdd, Nat.reduceMul, Nat.reduceMod, Nat.reduceLeDiff, Nat.reduceLT, Int.reduceLT, Int.reduceLE, Int.reduceEq, Int.reduceToNat, Int.reduceSub, Int.reduceNeg, Int.reduceAdd, ↓reduceIte, reduceCtorEq, pack, pid, parN, lid, chkK, apartV, Heap.none, c1]
 | succ d ih =>
  intro i hi
  have hlt : i < l.length := by omega
  have h9 := ih (i + 1) (by omega)
  have hx := hu _ (getD_mem' (false, false, [], []) hlt)
  have f1 := number09_c (q := (l.getD i (false, false, [], [])).2.1) hx.1.2 hx.2.2
  have ht : (l.take (i + 1)).map t3 = (l.take i).map t3 ++ [t3 (l.getD i (false, false, [], []))] := by
   rw [List.take_add_one, ze hlt, List.map_append, za, ze hlt]
   rfl
  rw [ht] at h9
  have hlen : (List.map t3 (List.take i l)).length = i := by rw [zi, zk]; omega
  have c1 : (i : Int) < (l.length : Int) := by omega
  have c2 : (i : Int) < (n : Int) := by omega
  have e2 : IntKind.i64.wrap ((i : Int) + 1) = ((i + 1 : Nat) : Int) := w64succ (by omega)
  have b2 : (i + 1) * 64 ≤ 140737488355328 := by omega
  have m2 : List.take (i + 1) (List.map t3 (List.take i l) ++ [t3 (l.getD i (false, false, [], []))]) = List.map t3 (List.take i l) ++ [t3 (l.getD i (false, false, [], []))] := zc (by rw [zl, hlen]; simp)
  have m3 : List.take i (List.map t3 (List.take i l)) = List.map t3 (List.take i l) := zc (by omega)
  have m1 : List.map eC (List.map t3 (List.take i l)) ++ [[AV.b (l.getD i (false, false, [], [])).1, AV.b (l.getD i (false, false, [], [])).2.1, AV.l 1 (List.map u ((l.getD i (false, false, [], [])).2.2.1.take 3)), AV.l 1 (List.map u ((l.getD i (false, false, [], [])).2.2.2.take 3))]] = List.map eC (List.map t3 (List.take i l) ++ [t3 (l.getD i (false, false, [], []))]) := by rw [List.map_append]; rfl
  rw [LP_go FF b29_0.eq_1]
  simp only [RB, RL, un, St.none, Nat.reduceEqDiff, Nat.reduceAdd, Nat.reduceMul, Nat.reduceMod, Nat.reduceLeDiff, Nat.reduceLT, Int.reduceLT, Int.reduceLE, Int.reduceEq, Int.reduceToNat, Int.reduceSub, Int.reduceNeg, Int.reduceAdd, ↓reduceIte, reduceCtorEq, pack, pid, parN, lid, chkK, apartV, Heap.none, c1, c2, eC_rules, eC_row, zb, f1, e2, hlen, b2, m3, m1, m2]
  exact h9
theorem few09_c {l : List RC} {n : Nat} (hn : n ≤ 100000000000) (hu : ∀ x ∈ l, OkC x) (hl : l.length ≤ maxL) : R FF 29 [.l 4 (l.map eC), (AV.i .i64 ((n : Int)))] = some (.l 4 (((l.take n).map t3).map eC)) := by
 have h1 := few09_l0 hn hu hl (min l.length n) 0 (by omega)
 rw [List.take_zero, zy] at h1
 simp only [List.map_nil] at h1
 rw [R_go FF F29 c29.eq_1]
 simp only [RB, RL, un, St.none, Nat.reduceEqDiff, Nat.reduceAdd, Nat.reduceMul, Nat.reduceMod, Nat.reduceLeDiff, Nat.reduceLT, Int.reduceLT, Int.reduceLE, Int.reduceEq, Int.reduceToNat, Int.reduceSub, Int.reduceNeg, Int.reduceAdd, ↓reduceIte, reduceCtorEq, pack, pid, parN, lid, chkK, apartV, Heap.none, h1]
def inS (hl hh : Bool) (lo hi : Rat) (ms m : Bool) (v : Rat) : Bool := if m then ms else (!(hl && decide (v < lo))) && (!hh || decide (v < hi))
def vQ (x : RQt) : Rat := qv x.1 x.2.1 x.2.2
def SmQ (x : RQt) (k : Nat) : Prop := Sm x.2.1 x.2.2 k
def SmS (s : RS) (k : Nat) : Prop := SmQ s.2.2.1 k ∧ SmQ s.2.2.2.1 k
def inV (s : RS) (c : RC) : Bool := inS s.1 s.2.1 (vQ s.2.2.1) (vQ s.2.2.2.1) s.2.2.2.2 c.1 (vQ c.2)
def cQ (h : Bool) (x : Rat) : RQt := if h then (ng x.num, D x.num.natAbs, D x.den) else (false, [], [])
theorem vQ_cQ (x : Rat) : vQ (cQ true x) = x := qv_cq x
theorem SmQ_cQ {h : Bool} {x : Rat} {k : Nat} (hx : sq x ≤ k) : SmQ (cQ h x) k := by
 unfold cQ
 cases h
 ·exact ⟨⟨fun _ h => (List.not_mem_nil h).elim, Nat.zero_le _⟩, fun _ h => (List.not_mem_nil h).elim, Nat.zero_le _⟩
 ·exact sm_cq hx
theorem vQ_sq {x : RQt} {k : Nat} (h : SmQ x k) (hk : 1 ≤ k) : sq (vQ x) ≤ k := Sm.sq h hk
def cS (s : RS) : RS := (s.1, s.2.1, cQ s.1 (vQ s.2.2.1), cQ s.2.1 (vQ s.2.2.2.1), s.2.2.2.2)
theorem cS_sm {s : RS} {k : Nat} (h : SmS s k) (hk : 1 ≤ k) : SmS (cS s) k := ⟨SmQ_cQ (vQ_sq h.1 hk), SmQ_cQ (vQ_sq h.2 hk)⟩
theorem inV_cS (s : RS) (c : RC) : inV (cS s) c = inV s c := by
 obtain ⟨hl, hh, x, y, ms⟩ := s
 unfold inV cS inS
 cases hl <;> cases hh <;> simp [vQ_cQ]
theorem bclean_c {s : RS} {k : Nat} (hk : k ≤ 100000000000) (h : SmS s k) : R FF 21 [.agg (eS s)] = some (.agg (eS (cS s))) := by
 obtain ⟨hl, hh, ⟨q1, l1, d1⟩, ⟨q2, l2, d2⟩, ms⟩ := s
 have f1 := qclean_s (q := q1) (l := l1) (d := d1) h.1 hk
 have f2 := qclean_s (q := q2) (l := l2) (d := d2) h.2 hk
 simp only [eS, cS, vQ, cQ]
 cases hl <;> cases hh <;> simp only [if_true, zA, if_false] <;>
 (rw [R_go FF F21 c21.eq_1]
  simp only [RB, RL, un, St.none, Nat.reduceEqDiff, Nat.reduceAdd, Nat.reduceMul, Nat.reduceMod, Nat.reduceLeDiff, Nat.reduceLT, Int.reduceLT, Int.reduceLE, Int.reduceEq, Int.reduceToNat, Int.reduceSub, Int.reduceNeg, Int.reduceAdd, ↓reduceIte, reduceCtorEq, pack, pid, parN, lid, chkK, apartV, Heap.none, f1, f2])
def belV (s : RS) (x : RQt) (mi : Bool) : RS :=
 if !s.2.1 || decide (vQ x < vQ s.2.2.2.1) then (s.1, true, cQ s.1 (vQ s.2.2.1), cQ true (vQ x), s.2.2.2.2 && mi) else (s.1, s.2.1, cQ s.1 (vQ s.2.2.1), cQ s.2.1 (vQ s.2.2.2.1), s.2.2.2.2 && mi)
def abvV (s : RS) (x : RQt) (mi : Bool) : RS :=
 if !s.1 || decide (vQ s.2.2.1 < vQ x) then (true, s.2.1, cQ true (vQ x), cQ s.2.1 (vQ s.2.2.2.1), s.2.2.2.2 && mi) else (s.1, s.2.1, cQ s.1 (vQ s.2.2.1), cQ s.2.1 (vQ s.2.2.2.1), s.2.2.2.2 && mi)
theorem below_c {s : RS} {x : RQt} {mi : Bool} {k : Nat} (hk : k ≤ 100000000000) (h1k : 1 ≤ k) (h : SmS s k) (hx : SmQ x k) : R FF 19 [.agg (eS s), .agg (eQ x), .b mi] = some (.agg (eS (belV s x mi))) := by
 have f1 := bclean_c hk h
 have g1 := cS_sm h h1k
 obtain ⟨hl, hh, y, z, ms⟩ := s
 obtain ⟨q, l, d⟩ := x
 have f2 := qclean_s (q := q) (l := l) (d := d) hx hk
 have f3 := qcmp_s (q := q) (l := l) (d := d) (r := (cQ hh (vQ z)).1) hx g1.2 hk hk
 change R FF 14 [(AV.agg [AV.b q, (AV.l 1 (List.map u l)), (AV.l 1 (List.map u d))]), (AV.agg [AV.b ((cQ hh (vQ z)).1), (AV.l 1 (List.map u (((cQ hh (vQ z)).2.1)))), (AV.l 1 (List.map u (((cQ hh (vQ z)).2.2))))])] = some (AV.i .i64 (qcmp (vQ (q, l, d)) (vQ (cQ hh (vQ z))))) at f3
 change R FF 63 [(AV.agg [AV.b q, (AV.l 1 (List.map u l)), (AV.l 1 (List.map u d))])] = some (AV.agg [AV.b (ng (zC (vQ (q, l, d)))), (AV.l 1 (List.map u (D (zD (zC (vQ (q, l, d))))))), (AV.l 1 (List.map u (D (Rat.den (vQ (q, l, d))))))]) at f2
 simp only [eS, cS] at f1
 simp only [eS, eQ, belV]
 generalize vQ (q, l, d) = v at *
 cases hh
 ·simp only [Bool.not_false, Bool.true_or, if_true]
  rw [show cQ true v = (ng v.num, D v.num.natAbs, D v.den) from rfl]
  cases ms <;>
  (rw [R_go FF F19 c19.eq_1]
   simp only [RB, RL, un, St.none, Nat.reduceEqDiff, Nat.reduceAdd, Nat.reduceMul, Nat.reduceMod, Nat.reduceLeDiff, Nat.reduceLT, Int.reduceLT, Int.reduceLE, Int.reduceEq, Int.reduceToNat, Int.reduceSub, Int.reduceNeg, Int.reduceAdd, ↓reduceIte, reduceCtorEq, pack, pid, parN, lid, chkK, apartV, Heap.none, f1, f2, Bool.true_and, Bool.false_and])
 ·rw [vQ_cQ] at f3
  have e1 := qcmp_lt (x := v) (y := vQ z)
  simp only [Bool.not_true, Bool.false_or]
  rw [show cQ true v = (ng v.num, D v.num.natAbs, D v.den) from rfl]
  by_cases a1 : v < vQ z <;> simp only [a1, iff_true, iff_false] at e1 <;> simp only [a1, decide_true, decide_false, if_true, zA, if_false] <;> cases ms <;>
  (rw [R_go FF F19 c19.eq_1]
   simp only [RB, RL, un, St.none, Nat.reduceEqDiff, Nat.reduceAdd, Nat.reduceMul, Nat.reduceMod, Nat.reduceLeDiff, Nat.reduceLT, Int.reduceLT, Int.reduceLE, Int.reduceEq, Int.reduceToNat, Int.reduceSub, Int.reduceNeg, Int.reduceAdd, ↓reduceIte, reduceCtorEq, pack, pid, parN, lid, chkK, apartV, Heap.none, f1, f2, f3, e1, Bool.true_and, Bool.false_and])
theorem above_c {s : RS} {x : RQt} {mi : Bool} {k : Nat} (hk : k ≤ 100000000000) (h1k : 1 ≤ k) (h : SmS s k) (hx : SmQ x k) : R FF 20 [.agg (eS s), .agg (eQ x), .b mi] = some (.agg (eS (abvV s x mi))) := by
 have f1 := bclean_c hk h
 have g1 := cS_sm h h1k
 obtain ⟨hl, hh, y, z, ms⟩ := s
 obtain ⟨q, l, d⟩ := x
 have f2 := qclean_s (q := q) (l := l) (d := d) hx hk
 have f3 := qcmp_s (q := q) (l := l) (d := d) (r := (cQ hl (vQ y)).1) hx g1.1 hk hk
 change R FF 14 [(AV.agg [AV.b q, (AV.l 1 (List.map u l)), (AV.l 1 (List.map u d))]), (AV.agg [AV.b ((cQ hl (vQ y)).1), (AV.l 1 (List.map u (((cQ hl (vQ y)).2.1)))), (AV.l 1 (List.map u (((cQ hl (vQ y)).2.2))))])] = some (AV.i .i64 (qcmp (vQ (q, l, d)) (vQ (cQ hl (vQ y))))) at f3
 change R FF 63 [(AV.agg [AV.b q, (AV.l 1 (List.map u l)), (AV.l 1 (List.map u d))])] = some (AV.agg [AV.b (ng (zC (vQ (q, l, d)))), (AV.l 1 (List.map u (D (zD (zC (vQ (q, l, d))))))), (AV.l 1 (List.map u (D (Rat.den (vQ (q, l, d))))))]) at f2
 simp only [eS, cS] at f1
 simp only [eS, eQ, abvV]
 generalize vQ (q, l, d) = v at *
 cases hl
 ·simp only [Bool.not_false, Bool.true_or, if_true]
  rw [show cQ true v = (ng v.num, D v.num.natAbs, D v.den) from rfl]
  cases ms <;>
  (rw [R_go FF F20 c20.eq_1]
   simp only [RB, RL, un, St.none, Nat.reduceEqDiff, Nat.reduceAdd, Nat.reduceMul, Nat.reduceMod, Nat.reduceLeDiff, Nat.reduceLT, Int.reduceLT, Int.reduceLE, Int.reduceEq, Int.reduceToNat, Int.reduceSub, Int.reduceNeg, Int.reduceAdd, ↓reduceIte, reduceCtorEq, pack, pid, parN, lid, chkK, apartV, Heap.none, f1, f2, Bool.true_and, Bool.false_and])
 ·rw [vQ_cQ] at f3
  have e1 := qcmp_gt (x := v) (y := vQ y)
  simp only [Bool.not_true, Bool.false_or]
  rw [show cQ true v = (ng v.num, D v.num.natAbs, D v.den) from rfl]
  by_cases a1 : vQ y < v <;> simp only [a1, iff_true, iff_false] at e1 <;> simp only [a1, decide_true, decide_false, if_true, zA, if_false] <;> cases ms <;>
  (rw [R_go FF F20 c20.eq_1]
   simp only [RB, RL, un, St.none, Nat.reduceEqDiff, Nat.reduceAdd, Nat.reduceMul, Nat.reduceMod, Nat.reduceLeDiff, Nat.reduceLT, Int.reduceLT, Int.reduceLE, Int.reduceEq, Int.reduceToNat, Int.reduceSub, Int.reduceNeg, Int.reduceAdd, ↓reduceIte, reduceCtorEq, pack, pid, parN, lid, chkK, apartV, Heap.none, f1, f2, f3, e1, Bool.true_and, Bool.false_and])
theorem bel_sm {s : RS} {x : RQt} {mi : Bool} {k : Nat} (h : SmS s k) (hx : SmQ x k) (hk : 1 ≤ k) : SmS (belV s x mi) k := by
 unfold belV
 split
 ·exact ⟨SmQ_cQ (vQ_sq h.1 hk), SmQ_cQ (vQ_sq hx hk)⟩
 ·exact ⟨SmQ_cQ (vQ_sq h.1 hk), SmQ_cQ (vQ_sq h.2 hk)⟩
theorem abv_sm {s : RS} {x : RQt} {mi : Bool} {k : Nat} (h : SmS s k) (hx : SmQ x k) (hk : 1 ≤ k) : SmS (abvV s x mi) k := by
 unfold abvV
 split
 ·exact ⟨SmQ_cQ (vQ_sq hx hk), SmQ_cQ (vQ_sq h.2 hk)⟩
 ·exact ⟨SmQ_cQ (vQ_sq h.1 hk), SmQ_cQ (vQ_sq h.2 hk)⟩
theorem bel_in (s : RS) (x : RQt) (mi : Bool) (c : RC) : inV (belV s x mi) c = (inV s c && ((!c.1 && decide (vQ c.2 < vQ x)) || (c.1 && mi))) := by
 obtain ⟨hl, hh, y, z, ms⟩ := s
 obtain ⟨m, w⟩ := c
 unfold inV belV inS
 simp only
 generalize vQ x = a
 generalize vQ w = v
 cases m <;> cases hl <;> cases hh <;> simp only [Bool.not_false, Bool.not_true, Bool.true_or, Bool.false_or, if_true, vQ_cQ, Bool.true_and, Bool.false_and, Bool.and_true, Bool.and_false, Bool.or_false, Bool.or_true, zA, if_false] <;> split <;> simp_all [vQ_cQ] <;> grind
theorem abv_in (s : RS) (x : RQt) (mi : Bool) (c : RC) : inV (abvV s x mi) c = (inV s c && ((!c.1 && !decide (vQ c.2 < vQ x)) || (c.1 && mi))) := by
 obtain ⟨hl, hh, y, z, ms⟩ := s
 obtain ⟨m, w⟩ := c
 unfold inV abvV inS
 simp only
 generalize vQ x = a
 generalize vQ w = v
 cases m <;> cases hl <;> cases hh <;> simp only [Bool.not_false, Bool.not_true, Bool.true_or, Bool.false_or, if_true, vQ_cQ, Bool.true_and, Bool.false_and, Bool.and_true, Bool.and_false, Bool.or_false, Bool.or_true, zA, if_false] <;> (try split) <;> (try simp_all [vQ_cQ]) <;> (first | rfl | grind | (try rw [Bool.and_comm]; try rfl; try grind))
def fw (w : Nat) (r : List RC) : List RC := (r.take w).map t3
abbrev I64 (n : Int) : Prop := -9223372036854775808 ≤ n ∧ n ≤ 9223372036854775807
structure RNd where
 leaf : Bool
 ft : Int
 cut : RQt
 lft : Int
 rgt : Int
 miss : Bool
 val : RQt
 cov : RQt
 deriving Inhabited
def eNd (x : RNd) : List AV := [.b x.leaf, .i .i64 x.ft, .b x.cut.1, .l 1 (x.cut.2.1.map u), .l 1 (x.cut.2.2.map u), .i .i64 x.lft, .i .i64 x.rgt, .b x.miss, .b x.val.1, .l 1 (x.val.2.1.map u), .l 1 (x.val.2.2.map u), .b x.cov.1, .l 1 (x.cov.2.1.map u), .l 1 (x.cov.2.2.map u)]
def OkNd (x : RNd) : Prop := I64 x.ft ∧ OkQ x.cut ∧ I64 x.lft ∧ I64 x.rgt ∧ OkQ x.val ∧ OkQ x.cov
abbrev dNd : RNd := ⟨false, 0, dQ, 0, 0, false, dQ, dQ⟩
theorem eNd_rules : (∀ x, (eNd x).length = 14) ∧ (∀ h x, (eNd x).map (tellC h) = eNd x) ∧ (∀ h x, (eNd x).map (tell0 h) = eNd x) ∧ (∀ h x, (eNd x).flatMap (refC h) = []) ∧ (∀ x, (eNd x).flatMap ref0 = []) ∧
  (∀ x, ldC true 14 0 (eNd x) = some (.agg (eNd x))) ∧ (∀ x, ldC false 1 0 (eNd x) = some (.b x.leaf)) ∧ (∀ x, ldC false 1 1 (eNd x) = some (.i .i64 x.ft)) ∧ (∀ x, ldC true 3 2 (eNd x) = some (.agg [.b x.cut.1, .l 1 (x.cut.2.1.map u), .l 1 (x.cut.2.2.map u)])) ∧
  (∀ x, ldC false 1 5 (eNd x) = some (.i .i64 x.lft)) ∧ (∀ x, ldC false 1 6 (eNd x) = some (.i .i64 x.rgt)) ∧ (∀ x, ldC false 1 7 (eNd x) = some (.b x.miss)) ∧ (∀ x, ldC true 3 8 (eNd x) = some (.agg [.b x.val.1, .l 1 (x.val.2.1.map u), .l 1 (x.val.2.2.map u)])) ∧ (∀ x, ldC true 3 11 (eNd x) = some (.agg [.b x.cov.1, .l 1 (x.cov.2.1.map u), .l 1 (x.cov.2.2.map u)])) := by
 refine ⟨?_, ?_, ?_, ?_, ?_, ?_, ?_, ?_, ?_, ?_, ?_, ?_, ?_, ?_⟩ <;> intros <;> rfl
theorem eNd_row : type_of% (row_rules eNd dNd 14 (fun _ => rfl) (fun _ _ => rfl)) := row_rules eNd dNd 14 (fun _ => rfl) (fun _ _ => rfl)
def eTr (t : List RNd) : List AV := [.l 14 (t.map eNd)]
theorem eTr_rules : (∀ x, (eTr x).length = 1) ∧ (∀ h x, (eTr x).map (tellC h) = eTr x) ∧ (∀ h x, (eTr x).map (tell0 h) = eTr x) ∧ (∀ h x, (eTr x).flatMap (refC h) = []) ∧ (∀ x, (eTr x).flatMap ref0 = []) ∧
  (∀ x, ldC false 1 0 (eTr x) = some (.l 14 (x.map eNd))) := by
 refine ⟨?_, ?_, ?_, ?_, ?_, ?_⟩ <;> intros <;> rfl
theorem eTr_row : type_of% (row_rules eTr [] 1 (fun _ => rfl) (fun _ _ => rfl)) := row_rules eTr [] 1 (fun _ => rfl) (fun _ _ => rfl)
abbrev RM := Int × List (List RNd)
def eM (x : RM) : List AV := [.i .i64 x.1, .l 1 (x.2.map eTr)]
def OkM (x : RM) : Prop := I64 x.1 ∧ x.2.length ≤ maxL ∧ ∀ t ∈ x.2, t.length ≤ maxL ∧ ∀ a ∈ t, OkNd a
def kNd : List CK := [.bool, .int .i64, .bool, kN, kN, .int .i64, .int .i64, .bool, .bool, kN, kN, .bool, kN, kN]
theorem open_Nd {acs : List AV} (h : Fits kNd acs) : ∃ x, acs = eNd x ∧ OkNd x := by
 obtain ⟨a, r, rfl, h1, h⟩ := h.cons
 obtain ⟨b, r, rfl, h2, h⟩ := h.cons
 obtain ⟨v1, v2, rfl, h3, h⟩ := Fits.split (k1 := kQ) (k2 := [.int .i64, .int .i64, .bool, .bool, kN, kN, .bool, kN, kN]) h
 obtain ⟨c, r, rfl, h4, h⟩ := h.cons
 obtain ⟨d, r, rfl, h5, h⟩ := h.cons
 obtain ⟨e, r, rfl, h6, h⟩ := h.cons
 obtain ⟨v3, v4, rfl, h7, h8⟩ := Fits.split (k1 := kQ) (k2 := kQ) h
 obtain ⟨q, rfl⟩ := h1.inv_bool
 obtain ⟨f, rfl, o1⟩ := open_int h2
 obtain ⟨x, rfl, o2⟩ := open_Q h3
 obtain ⟨m, rfl, o3⟩ := open_int h4
 obtain ⟨n, rfl, o4⟩ := open_int h5
 obtain ⟨p, rfl⟩ := h6.inv_bool
 obtain ⟨y, rfl, o5⟩ := open_Q h7
 obtain ⟨z, rfl, o6⟩ := open_Q h8
 exact ⟨⟨q, f, x, m, n, p, y, z⟩, rfl, o1, o2, o3, o4, o5, o6⟩
theorem open_LNd {x : AV} (h : Fit (.sl kNd) x) : ∃ l : List RNd, x = .l 14 (l.map eNd) ∧ l.length ≤ maxL ∧ ∀ a ∈ l, OkNd a := open_list h eNd OkNd fun acs ha => open_Nd ha
def kM : List CK := [.int .i64, .sl [.sl kNd]]
theorem open_M {acs : List AV} (h : Fits kM acs) : ∃ x, acs = eM x ∧ OkM x := by
 obtain ⟨a, r, rfl, h1, h⟩ := h.cons
 obtain ⟨b, rfl, h2⟩ := h.one
 obtain ⟨n, rfl, o1⟩ := open_int h1
 obtain ⟨l, rfl, o2, o3⟩ := open_list h2 eTr (fun a => a.length ≤ maxL ∧ ∀ c ∈ a, OkNd c) fun acs ha => by
  obtain ⟨y, rfl, hy⟩ := ha.one
  obtain ⟨l, rfl, h1, h2⟩ := open_LNd hy
  exact ⟨l, rfl, h1, h2⟩
 exact ⟨(n, l), rfl, o1, o2, o3⟩
theorem qadd_c {q r : Bool} {l d m e : List Int} (hu : U l) (hl : l.length ≤ 40000000000) (hv : U d) (hd : d.length ≤ 40000000000) (hu2 : U m) (hl2 : m.length ≤ 40000000000) (hv2 : U e) (hd2 : e.length ≤ 40000000000) :
  R FF 31 [(AV.agg [AV.b q, (AV.l 1 (List.map u l)), (AV.l 1 (List.map u d))]), (AV.agg [AV.b r, (AV.l 1 (List.map u m)), (AV.l 1 (List.map u e))])] = some (AV.agg [AV.b (ng (zC (qv q l d + qv r m e))), (AV.l 1 (List.map u (D (zD (zC (qv q l d + qv r m e)))))), (AV.l 1 (List.map u (D (Rat.den (qv q l d + qv r m e)))))]) := by
 have k1 := qclean_c (q := q) hu (by omega) hv (by omega)
 have k2 := qclean_c (q := r) hu2 (by omega) hv2 (by omega)
 have s1 := qv_sq (q := q) (l := l) (d := d) (k := 40000000000) hl hd (by omega)
 have s2 := qv_sq (q := r) (l := m) (d := e) (k := 40000000000) hl2 hd2 (by omega)
 generalize qv q l d = x at *
 generalize qv r m e = y at *
 have e1 := qden_c (q := ng x.num) (l := D x.num.natAbs) (d := D x.den)
 have e2 := qden_c (q := ng y.num) (l := D y.num.natAbs) (d := D y.den)
 have n1 := sq_num x
 have n2 := sq_num y
 have n3 := sq_den x
 have n4 := sq_den y
 have m1 := wmul_c (q := ng x.num) (r := false) (D_U x.num.natAbs) (show L _ ≤ _ by omega) (D_U y.den) (show L _ ≤ _ by omega)
 have m2 := wmul_c (q := ng y.num) (r := false) (D_U y.num.natAbs) (show L _ ≤ _ by omega) (D_U x.den) (show L _ ≤ _ by omega)
 rw [wv_ci, den_ci] at m1 m2
 have b1 : L (x.num * y.den).natAbs ≤ 80000000000 := by rw [Int.natAbs_mul, Int.natAbs_natCast]; have := L_mul x.num.natAbs y.den; omega
 have b2 : L (y.num * x.den).natAbs ≤ 80000000000 := by rw [Int.natAbs_mul, Int.natAbs_natCast]; have := L_mul y.num.natAbs x.den; omega
 have a1 := wadd_D (a := x.num * y.den) (b := y.num * x.den) (by omega) (by omega)
 have b3 : L (x.num * y.den + y.num * x.den).natAbs ≤ 80000000001 := by
  have h1 := L_mono (Int.natAbs_add_le (x.num * y.den) (y.num * x.den))
  have h2 := L_add (x.num * y.den).natAbs (y.num * x.den).natAbs
  omega
 have m3 := mul_D (m := x.den) (n := y.den) (by omega)
 have b4 := L_mul x.den y.den
 have f1 := form_c (n := x.num * y.den + y.num * x.den) (d := x.den * y.den) (Nat.mul_ne_zero x.den_nz y.den_nz) (by omega) (by omega)
 rw [← Rat.add_def'] at f1
 rw [R_go FF F31 c31.eq_1]
 simp only [RB, RL, un, St.none, Nat.reduceEqDiff, Nat.reduceAdd, Nat.reduceMul, Nat.reduceMod, Nat.reduceLeDiff, Nat.reduceLT, Int.reduceLT, Int.reduceLE, Int.reduceEq, Int.reduceToNat, Int.reduceSub, Int.reduceNeg, Int.reduceAdd, ↓reduceIte, reduceCtorEq, pack, pid, parN, lid, chkK, apartV, Heap.none, k1, k2, e1, e2, m1, m2, a1, m3, f1]
theorem qneg_c {q : Bool} {l d : List Int} (hu : U l) (hl : l.length ≤ 100000000000) (hv : U d) (hd : d.length ≤ 100000000000) : R FF 96 [(AV.agg [AV.b q, (AV.l 1 (List.map u l)), (AV.l 1 (List.map u d))])] = some (AV.agg [AV.b (ng (zC (-qv q l d))), (AV.l 1 (List.map u (D (zD (zC (-qv q l d)))))), (AV.l 1 (List.map u (D (Rat.den (-qv q l d)))))]) := by
 have k1 := qclean_c (q := q) hu hl hv hd
 have s1 := qv_sq (q := q) (l := l) (d := d) (k := 100000000000) hl hd (by omega)
 generalize qv q l d = x at *
 have n1 := sq_num x
 have m1 := wneg_c (q := ng x.num) (D_U x.num.natAbs) (show L _ ≤ _ by omega)
 rw [wv_ci] at m1
 rw [Rat.neg_num, Rat.neg_den]
 rw [R_go FF F96 c96.eq_1]
 simp only [RB, RL, un, St.none, Nat.reduceEqDiff, Nat.reduceAdd, Nat.reduceMul, Nat.reduceMod, Nat.reduceLeDiff, Nat.reduceLT, Int.reduceLT, Int.reduceLE, Int.reduceEq, Int.reduceToNat, Int.reduceSub, Int.reduceNeg, Int.reduceAdd, ↓reduceIte, reduceCtorEq, pack, pid, parN, lid, chkK, apartV, Heap.none, k1, m1]
theorem qsub_c {q r : Bool} {l d m e : List Int} (hu : U l) (hl : l.length ≤ 40000000000) (hv : U d) (hd : d.length ≤ 40000000000) (hu2 : U m) (hl2 : m.length ≤ 40000000000) (hv2 : U e) (hd2 : e.length ≤ 40000000000) :
  R FF 55 [(AV.agg [AV.b q, (AV.l 1 (List.map u l)), (AV.l 1 (List.map u d))]), (AV.agg [AV.b r, (AV.l 1 (List.map u m)), (AV.l 1 (List.map u e))])] = some (AV.agg [AV.b (ng (zC (qv q l d - qv r m e))), (AV.l 1 (List.map u (D (zD (zC (qv q l d - qv r m e)))))), (AV.l 1 (List.map u (D (Rat.den (qv q l d - qv r m e)))))]) := by
 have k1 := qneg_c (q := r) hu2 (by omega) hv2 (by omega)
 have s2 := qv_sq (q := r) (l := m) (d := e) (k := 40000000000) hl2 hd2 (by omega)
 rw [← sq_neg] at s2
 rw [Rat.sub_eq_add_neg]
 generalize -qv r m e = y at *
 have n2 := sq_num y
 have n4 := sq_den y
 have k2 := qadd_c (q := q) (r := ng y.num) hu hl hv hd (D_U y.num.natAbs) (show L _ ≤ _ by omega) (D_U y.den) (show L _ ≤ _ by omega)
 rw [qv_cq] at k2
 rw [R_go FF F55 c55.eq_1]
 simp only [RB, RL, un, St.none, Nat.reduceEqDiff, Nat.reduceAdd, Nat.reduceMul, Nat.reduceMod, Nat.reduceLeDiff, Nat.reduceLT, Int.reduceLT, Int.reduceLE, Int.reduceEq, Int.reduceToNat, Int.reduceSub, Int.reduceNeg, Int.reduceAdd, ↓reduceIte, reduceCtorEq, pack, pid, parN, lid, chkK, apartV, Heap.none, k1, k2]
theorem qone_c : R FF 56 [] = some (AV.agg [AV.b (ng (zC ((1 : Rat)))), (AV.l 1 (List.map u (D (zD (zC ((1 : Rat))))))), (AV.l 1 (List.map u (D (Rat.den ((1 : Rat))))))]) := by
 have o1 := qof_c (n := 1) (by omega) (by omega)
 rw [show ((1 : Int) : Rat) = 1 from rfl] at o1
 rw [R_go FF F56 c56.eq_1]
 simp only [RB, RL, un, St.none, Nat.reduceEqDiff, Nat.reduceAdd, Nat.reduceMul, Nat.reduceMod, Nat.reduceLeDiff, Nat.reduceLT, Int.reduceLT, Int.reduceLE, Int.reduceEq, Int.reduceToNat, Int.reduceSub, Int.reduceNeg, Int.reduceAdd, ↓reduceIte, reduceCtorEq, pack, pid, parN, lid, chkK, apartV, Heap.none, o1]
theorem qsame_c {q r : Bool} {l d m e : List Int} (hu : U l) (hl : l.length ≤ 100000000000) (hv : U d) (hd : d.length ≤ 100000000000) (hu2 : U m) (hl2 : m.length ≤ 100000000000) (hv2 : U e) (hd2 : e.length ≤ 100000000000) :
  R FF 57 [(AV.agg [AV.b q, (AV.l 1 (List.map u l)), (AV.l 1 (List.map u d))]), (AV.agg [AV.b r, (AV.l 1 (List.map u m)), (AV.l 1 (List.map u e))])] = some (.b (decide (qv q l d = qv r m e))) := by
 have k1 := qcmp_c (q := q) (r := r) hu hl hv hd hu2 hl2 hv2 hd2
 have e1 := qcmp_eq (x := qv q l d) (y := qv r m e)
 rw [show decide (qv q l d = qv r m e) = decide (qcmp (qv q l d) (qv r m e) = 0) from decide_eq_decide.2 e1.symm]
 rw [R_go FF F57 c57.eq_1]
 simp only [RB, RL, un, St.none, Nat.reduceEqDiff, Nat.reduceAdd, Nat.reduceMul, Nat.reduceMod, Nat.reduceLeDiff, Nat.reduceLT, Int.reduceLT, Int.reduceLE, Int.reduceEq, Int.reduceToNat, Int.reduceSub, Int.reduceNeg, Int.reduceAdd, ↓reduceIte, reduceCtorEq, pack, pid, parN, lid, chkK, apartV, Heap.none, k1]
def numV (s : RS) : Bool := !s.1 || !s.2.1 || decide (vQ s.2.2.1 < vQ s.2.2.2.1)
theorem numbers_c {s : RS} {k : Nat} (hk : k ≤ 100000000000) (h1 : SmS s k) : R FF 69 [.agg (eS s)] = some (.b (numV s)) := by
 obtain ⟨hl, hh, ⟨q1, l1, d1⟩, ⟨q2, l2, d2⟩, ms⟩ := s
 have k1 : R FF 14 [(AV.agg [AV.b q1, (AV.l 1 (List.map u l1)), (AV.l 1 (List.map u d1))]), (AV.agg [AV.b q2, (AV.l 1 (List.map u l2)), (AV.l 1 (List.map u d2))])] = some (AV.i .i64 (qcmp (vQ (q1, l1, d1)) (vQ (q2, l2, d2)))) := qcmp_s (q := q1) (r := q2) h1.1 h1.2 hk hk
 simp only [eS, numV]
 have e1 := qcmp_lt (x := vQ (q1, l1, d1)) (y := vQ (q2, l2, d2))
 generalize vQ (q1, l1, d1) = lo at *
 generalize vQ (q2, l2, d2) = hi at *
 cases hl <;> cases hh <;> by_cases a1 : lo < hi <;> simp only [a1, iff_true, iff_false] at e1 <;>
 (rw [R_go FF F69 c69.eq_1]
  simp only [RB, RL, un, St.none, Nat.reduceEqDiff, Nat.reduceAdd, Nat.reduceMul, Nat.reduceMod, Nat.reduceLeDiff, Nat.reduceLT, Int.reduceLT, Int.reduceLE, Int.reduceEq, Int.reduceToNat, Int.reduceSub, Int.reduceNeg, Int.reduceAdd, ↓reduceIte, reduceCtorEq, pack, pid, parN, lid, chkK, apartV, Heap.none, k1, e1, a1])
def empV (s : RS) : Bool := !s.2.2.2.2 && !numV s
theorem empty_c {s : RS} {k : Nat} (hk : k ≤ 100000000000) (h1 : SmS s k) : R FF 23 [.agg (eS s)] = some (.b (empV s)) := by
 have n1 := numbers_c hk h1
 unfold empV
 obtain ⟨hl, hh, ⟨q1, l1, d1⟩, ⟨q2, l2, d2⟩, ms⟩ := s
 simp only [eS] at n1 ⊢
 cases ms <;> cases hn : numV (hl, hh, (q1, l1, d1), (q2, l2, d2), _) <;> rw [hn] at n1 <;>
 (rw [R_go FF F23 c23.eq_1]
  simp only [RB, RL, un, St.none, Nat.reduceEqDiff, Nat.reduceAdd, Nat.reduceMul, Nat.reduceMod, Nat.reduceLeDiff, Nat.reduceLT, Int.reduceLT, Int.reduceLE, Int.reduceEq, Int.reduceToNat, Int.reduceSub, Int.reduceNeg, Int.reduceAdd, ↓reduceIte, reduceCtorEq, pack, pid, parN, lid, chkK, apartV, Heap.none, n1])
def none9 (m : Bool) : RS := (false, false, (false, [], []), (false, [], []), m)
theorem every_c : R FF 25 [] = some (.agg (eS (none9 true))) := (R_some FF).2 ⟨60, by kernel_rfl⟩
theorem none9_sm (m : Bool) {k : Nat} : SmS (none9 m) k := ⟨⟨⟨fun _ h => (List.not_mem_nil h).elim, Nat.zero_le _⟩, fun _ h => (List.not_mem_nil h).elim, Nat.zero_le _⟩, ⟨fun _ h => (List.not_mem_nil h).elim, Nat.zero_le _⟩, fun _ h => (List.not_mem_nil h).elim, Nat.zero_le _⟩
theorem in_num {s : RS} {c : RC} (h : inV s c = true) : empV s = false := by
 obtain ⟨hl, hh, x, y, ms⟩ := s
 obtain ⟨m, w⟩ := c
 unfold inV inS at h
 unfold empV numV
 simp only at h ⊢
 generalize vQ x = lo at *
 generalize vQ y = hi at *
 generalize vQ w = v at *
 cases m <;> cases hl <;> cases hh <;> cases ms <;> simp_all <;> grind
theorem qsub_s {q r : Bool} {l d m e : List Int} {k j : Nat} (h : Sm l d k) (h2 : Sm m e j) (hk : k ≤ 40000000000) (hj : j ≤ 40000000000) : R FF 55 [(AV.agg [AV.b q, (AV.l 1 (List.map u l)), (AV.l 1 (List.map u d))]), (AV.agg [AV.b r, (AV.l 1 (List.map u m)), (AV.l 1 (List.map u e))])] = some (AV.agg [AV.b (ng (zC (qv q l d - qv r m e))), (AV.l 1 (List.map u (D (zD (zC (qv q l d - qv r m e)))))), (AV.l 1 (List.map u (D (Rat.den (qv q l d - qv r m e)))))]) :=
 qsub_c h.1.1 (zw h.1.2 hk) h.2.1 (zw h.2.2 hk) h2.1.1 (zw h2.1.2 hj) h2.2.1 (zw h2.2.2 hj)
theorem qadd_s {q r : Bool} {l d m e : List Int} {k j : Nat} (h : Sm l d k) (h2 : Sm m e j) (hk : k ≤ 40000000000) (hj : j ≤ 40000000000) : R FF 31 [(AV.agg [AV.b q, (AV.l 1 (List.map u l)), (AV.l 1 (List.map u d))]), (AV.agg [AV.b r, (AV.l 1 (List.map u m)), (AV.l 1 (List.map u e))])] = some (AV.agg [AV.b (ng (zC (qv q l d + qv r m e))), (AV.l 1 (List.map u (D (zD (zC (qv q l d + qv r m e)))))), (AV.l 1 (List.map u (D (Rat.den (qv q l d + qv r m e)))))]) :=
 qadd_c h.1.1 (zw h.1.2 hk) h.2.1 (zw h.2.2 hk) h2.1.1 (zw h2.1.2 hj) h2.2.1 (zw h2.2.2 hj)
theorem qsame_s {q r : Bool} {l d m e : List Int} {k j : Nat} (h : Sm l d k) (h2 : Sm m e j) (hk : k ≤ 100000000000) (hj : j ≤ 100000000000) : R FF 57 [(AV.agg [AV.b q, (AV.l 1 (List.map u l)), (AV.l 1 (List.map u d))]), (AV.agg [AV.b r, (AV.l 1 (List.map u m)), (AV.l 1 (List.map u e))])] = some (.b (decide (qv q l d = qv r m e))) :=
 qsame_c h.1.1 (zw h.1.2 hk) h.2.1 (zw h.2.2 hk) h2.1.1 (zw h2.1.2 hj) h2.2.1 (zw h2.2.2 hj)
theorem sq_one : sq 1 ≤ 1 := by
 have h1 : L (1 : Rat).num.natAbs ≤ 1 := L_le (n := 1) (k := 1) (by decide)
 have h2 : L (1 : Rat).den ≤ 1 := L_le (n := 1) (k := 1) (by decide)
 unfold sq
 omega
theorem sq_zero : sq 0 ≤ 1 := by
 have h1 : L (0 : Rat).num.natAbs ≤ 0 := L_le (n := 0) (k := 0) (by decide)
 have h2 : L (0 : Rat).den ≤ 1 := L_le (n := 1) (k := 1) (by decide)
 unfold sq
 omega
theorem sq_sub (x y : Rat) : sq (x - y) ≤ sq x + sq y + 1 := by rw [Rat.sub_eq_add_neg, ← sq_neg y]; exact sq_add x (-y)
def someN (s : RS) : Rat := if s.1 then vQ s.2.2.1 else if s.2.1 then vQ s.2.2.2.1 - 1 else 0
def someV (s : RS) : RC := if numV s then (false, cQ true (someN s)) else (true, false, [], [])
theorem someN_sq {s : RS} {k : Nat} (h : SmS s k) (hk : 1 ≤ k) : sq (someN s) ≤ k + 2 := by
 unfold someN
 have h1 := vQ_sq h.1 hk
 have h2 := vQ_sq h.2 hk
 have h3 := sq_sub (vQ s.2.2.2.1) 1
 have h4 := sq_one
 have h5 := sq_zero
 split
 ·omega
 ·split <;> omega
theorem some_c {s : RS} {k : Nat} (hk : k ≤ 40000000000) (h1k : 1 ≤ k) (h : SmS s k) (he : empV s = false) : R FF 53 [.agg (eS s)] = some (.tup [.agg (eC (someV s)), .b true]) := by
 have em := empty_c (k := k) (by omega) h
 have nm := numbers_c (k := k) (by omega) h
 rw [he] at em
 have c1 : R FF 63 [(AV.agg [AV.b s.2.2.1.1, (AV.l 1 (List.map u s.2.2.1.2.1)), (AV.l 1 (List.map u s.2.2.1.2.2))])] = some (AV.agg [AV.b (ng (zC (vQ s.2.2.1))), (AV.l 1 (List.map u (D (zD (zC (vQ s.2.2.1)))))), (AV.l 1 (List.map u (D (Rat.den (vQ s.2.2.1)))))]) := qclean_s h.1 (by omega)
 have o1 := qone_c
 have z1 := qzero_c
 have b1 : R FF 55 [(AV.agg [AV.b s.2.2.2.1.1, (AV.l 1 (List.map u s.2.2.2.1.2.1)), (AV.l 1 (List.map u s.2.2.2.1.2.2))]), (AV.agg [AV.b (ng (zC ((1 : Rat)))), (AV.l 1 (List.map u (D (zD (zC ((1 : Rat))))))), (AV.l 1 (List.map u (D (Rat.den ((1 : Rat))))))])] = some (AV.agg [AV.b (ng (zC (vQ s.2.2.2.1 - qv (ng (1 : Rat).num) (D (1 : Rat).num.natAbs) (D (1 : Rat).den)))), (AV.l 1 (List.map u (D (zD (zC (vQ s.2.2.2.1 - qv (ng (1 : Rat).num) (D (1 : Rat).num.natAbs) (D (1 : Rat).den))))))), (AV.l 1 (List.map u (D (Rat.den (vQ s.2.2.2.1 - qv (ng (1 : Rat).num) (D (1 : Rat).num.natAbs) (D (1 : Rat).den))))))]) := qsub_s h.2 (sm_cq (k := 1) sq_one) hk (by omega)
 rw [qv_cq] at b1
 have hc : ∀ v : Rat, cQ true v = (ng v.num, D v.num.natAbs, D v.den) := fun _ => rfl
 unfold someV someN
 generalize numV s = n at *
 obtain ⟨hl, hh, x, y, ms⟩ := s
 simp only [eS] at em nm c1 b1 ⊢
 cases n
 ·simp only [zA, if_false, eC, List.map_nil]
  rw [R_go FF F53 c53.eq_1]
  simp only [RB, RL, un, St.none, Nat.reduceEqDiff, Nat.reduceAdd, Nat.reduceMul, Nat.reduceMod, Nat.reduceLeDiff, Nat.reduceLT, Int.reduceLT, Int.reduceLE, Int.reduceEq, Int.reduceToNat, Int.reduceSub, Int.reduceNeg, Int.reduceAdd, ↓reduceIte, reduceCtorEq, pack, pid, parN, lid, chkK, apartV, Heap.none, em, nm]
 ·simp only [if_true, eC]
  cases hl
  ·cases hh
   ·simp only [zA, if_false, hc]
    rw [R_go FF F53 c53.eq_1]
    simp only [RB, RL, un, St.none, Nat.reduceEqDiff, Nat.reduceAdd, Nat.reduceMul, Nat.reduceMod, Nat.reduceLeDiff, Nat.reduceLT, Int.reduceLT, Int.reduceLE, Int.reduceEq, Int.reduceToNat, Int.reduceSub, Int.reduceNeg, Int.reduceAdd, ↓reduceIte, reduceCtorEq, pack, pid, parN, lid, chkK, apartV, Heap.none, em, nm, z1]
   ·simp only [zA, if_false, if_true, hc]
    rw [R_go FF F53 c53.eq_1]
    simp only [RB, RL, un, St.none, Nat.reduceEqDiff, Nat.reduceAdd, Nat.reduceMul, Nat.reduceMod, Nat.reduceLeDiff, Nat.reduceLT, Int.reduceLT, Int.reduceLE, Int.reduceEq, Int.reduceToNat, Int.reduceSub, Int.reduceNeg, Int.reduceAdd, ↓reduceIte, reduceCtorEq, pack, pid, parN, lid, chkK, apartV, Heap.none, em, nm, b1, o1]
  ·simp only [if_true, hc]
   rw [R_go FF F53 c53.eq_1]
   simp only [RB, RL, un, St.none, Nat.reduceEqDiff, Nat.reduceAdd, Nat.reduceMul, Nat.reduceMod, Nat.reduceLeDiff, Nat.reduceLT, Int.reduceLT, Int.reduceLE, Int.reduceEq, Int.reduceToNat, Int.reduceSub, Int.reduceNeg, Int.reduceAdd, ↓reduceIte, reduceCtorEq, pack, pid, parN, lid, chkK, apartV, Heap.none, em, nm, c1]
theorem some_none {s : RS} {k : Nat} (hk : k ≤ 40000000000) (h : SmS s k) (he : empV s = true) : R FF 53 [.agg (eS s)] = some (.tup [.agg [.b false, .b false, .l 1 [], .l 1 []], .b false]) := by
 have em := empty_c (k := k) (by omega) h
 rw [he] at em
 simp only [eS] at em ⊢
 rw [R_go FF F53 c53.eq_1]
 simp only [RB, RL, un, St.none, Nat.reduceEqDiff, Nat.reduceAdd, Nat.reduceMul, Nat.reduceMod, Nat.reduceLeDiff, Nat.reduceLT, Int.reduceLT, Int.reduceLE, Int.reduceEq, Int.reduceToNat, Int.reduceSub, Int.reduceNeg, Int.reduceAdd, ↓reduceIte, reduceCtorEq, pack, pid, parN, lid, chkK, apartV, Heap.none, em]
theorem in_some {s : RS} (he : empV s = false) : inV s (someV s) = true := by
 obtain ⟨hl, hh, x, y, ms⟩ := s
 unfold someV
 unfold empV at he
 cases hn : numV (hl, hh, x, y, ms)
 ·rw [hn] at he
  simp only [Bool.not_false, Bool.and_true] at he
  simp only [zA, if_false]
  unfold inV inS
  simp only [if_true]
  cases ms
  ·cases he
  ·rfl
 ·simp only [if_true]
  unfold inV inS someN
  unfold numV at hn
  simp only [vQ_cQ, zA, if_false] at hn ⊢
  generalize vQ x = lo at *
  generalize vQ y = hi at *
  cases hl <;> cases hh <;> simp_all <;> grind
theorem someV_sm {s : RS} {k : Nat} (h : SmS s k) (hk : 1 ≤ k) : SmQ (someV s).2 (k + 2) := by
 unfold someV
 split
 ·exact SmQ_cQ (someN_sq h hk)
 ·exact ⟨⟨fun _ h => (List.not_mem_nil h).elim, Nat.zero_le _⟩, fun _ h => (List.not_mem_nil h).elim, Nat.zero_le _⟩
theorem qsign_c {q : Bool} {l d : List Int} {k : Nat} (hk : k ≤ 100000000000) (h : Sm l d k) : R FF 162 [(AV.agg [AV.b q, (AV.l 1 (List.map u l)), (AV.l 1 (List.map u d))])] = some (AV.i .i64 (cmp (qv q l d).num 0)) := by
 have k1 := qclean_s (q := q) h hk
 have s1 := qv_sq (q := q) (l := l) (d := d) (k := 100000000000) (zw h.1.2 hk) (zw h.2.2 hk) (by omega)
 generalize qv q l d = x at *
 have n1 := sq_num x
 have m1 := wsign_c (q := ng x.num) (D_U x.num.natAbs) (show L _ ≤ _ by omega)
 rw [wv_ci] at m1
 rw [R_go FF F162 c162.eq_1]
 simp only [RB, RL, un, St.none, Nat.reduceEqDiff, Nat.reduceAdd, Nat.reduceMul, Nat.reduceMod, Nat.reduceLeDiff, Nat.reduceLT, Int.reduceLT, Int.reduceLE, Int.reduceEq, Int.reduceToNat, Int.reduceSub, Int.reduceNeg, Int.reduceAdd, ↓reduceIte, reduceCtorEq, pack, pid, parN, lid, chkK, apartV, Heap.none, k1, m1]
def rQ (x : Rat) : RQt := (ng x.num, D x.num.natAbs, D x.den)
theorem vQ_rQ (x : Rat) : vQ (rQ x) = x := qv_cq x
def eO : Option RQt → List AV
 | none => [.b false, .ns 1, .ns 1]
 | some x => eQ x
theorem eO_put (l : List (Option RQt)) (e : Nat) (x : RQt) : putC 3 (l.map eO) e 0 (eQ x) = (l.set e (some x)).map eO := putC_map eO 3 l e (some x) rfl
def nf (f : Nat → Rat) (n : Nat) : List RQt := (List.range n).map fun i => rQ (f i)
abbrev Fn := Nat → Rat
def sh (f : Fn) : Fn := fun i => f (i + 1)
def cv (f g : Fn) : Nat → Nat → Rat
 | 0, _ => 0
 | n + 1, j => cv f g n j + (if n ≤ j then f n * g (j - n) else 0)
def Dg (f : Fn) (n : Nat) : Prop := ∀ i, n ≤ i → f i = 0
def co (l : List Rat) (i : Nat) : Rat := l.getD i 0
def Ca (l : List Rat) : Prop := l.length = 0 ∨ co l (l.length - 1) ≠ 0
def SzF (f : Fn) (k : Nat) : Prop := ∃ e : Int, e ≠ 0 ∧ L e.natAbs ≤ k ∧ ∀ i, ∃ n : Int, L n.natAbs ≤ k ∧ f i * (e : Rat) = (n : Rat)
theorem eO_at : (∀ (ap : Bool) e (l : List (Option RQt)), Row.at e (.sl ap 3 (l.map eO)) = if e < l.length then some (eO (l.getD e none)) else none) ∧ (∀ x, eO (some x) = eQ x) := ⟨fun ap e l => at_map eO none ap 3 e l, fun _ => rfl⟩
structure ChZ (p q : List Rat) (n K : Nat) : Prop where
 cp : Ca p
 cq : Ca q
 lt : q.length < p.length
 ln : q.length ≤ n
 lp : p.length ≤ n + 1
 z : ∃ k, SzF (co p) k ∧ SzF (co q) k ∧ (k + 1) * 2 ^ (p.length + q.length) ≤ K
theorem nJ (ls : List Nat) (y : AV) (g : Heap) (xs : List AV) : nestJ ls (some (y, g)) xs = (nestL ls g xs).map fun q => (y :: q.1, q.2) := rfl
theorem nK (h : Heap) (q z o n : Nat) (ap : Bool) (z' : Nat) (es : List (List AV)) : nestK h q z o n (some (.sl ap z' es)) = some (.own (ap && decide (o = 0)) z ((es.drop o).take n), h.put q .dead) := rfl
theorem any_drop {α : Type} {p : α → Bool} {l : List α} {i : Nat} (d : α) (h : i < l.length) : (l.drop i).any p = (p (l.getD i d) || (l.drop (i + 1)).any p) := by
 rw [List.drop_eq_getElem_cons h, List.any_cons, za, ze h]; rfl
def eX (i : Nat) : List AV := [.i .i64 (i : Int)]
theorem eX_rules : (∀ x, (eX x).length = 1) ∧ (∀ h x, (eX x).map (tellC h) = eX x) ∧ (∀ h x, (eX x).map (tell0 h) = eX x) ∧ (∀ h x, (eX x).flatMap (refC h) = []) ∧ (∀ x, (eX x).flatMap ref0 = []) ∧
  (∀ x, ldC false 1 0 (eX x) = some (.i .i64 (x : Int))) := by
 refine ⟨?_, ?_, ?_, ?_, ?_, ?_⟩ <;> intros <;> rfl
theorem eX_row : type_of% (row_rules eX 0 1 (fun _ => rfl) (fun _ _ => rfl)) := row_rules eX 0 1 (fun _ => rfl) (fun _ _ => rfl)
def sR : List Rat → Rat
 | [] => 0
 | x :: l => x + sR l
theorem sR_snoc (l : List Rat) (x : Rat) : sR (l ++ [x]) = sR l + x := by
 induction l with
 | nil => show x + 0 = 0 + x; grind
 | cons y l ih => show y + sR (l ++ [x]) = y + sR l + x; rw [ih]; grind
def AllQ (l : List Rat) (k : Nat) : Prop := ∀ x ∈ l, sq x ≤ k
theorem sR_sq {k : Nat} : ∀ {l : List Rat}, AllQ l k → sq (sR l) ≤ l.length * (k + 1) + 1
 | [], _ => zw sq_zero (by omega)
 | x :: l, h => by
  have h1 := sR_sq (l := l) (fun y hy => h y (zn _ hy))
  have h2 := sq_add x (sR l)
  have h3 := h x (zp ..)
  show sq (x + sR l) ≤ _
  rw [zr, zE, Nat.one_mul]
  omega
theorem qadd_v {s : Rat} {x : RQt} {k j : Nat} (hs : sq s ≤ k) (hx : SmQ x j) (hk : k ≤ 40000000000) (hj : j ≤ 40000000000) : R FF 31 [(AV.agg [AV.b (ng (zC s)), (AV.l 1 (List.map u (D (zD (zC s))))), (AV.l 1 (List.map u (D (Rat.den s))))]), (AV.agg [AV.b x.1, (AV.l 1 (List.map u x.2.1)), (AV.l 1 (List.map u x.2.2))])] = some (AV.agg [AV.b (ng (zC (s + vQ x))), (AV.l 1 (List.map u (D (zD (zC (s + vQ x)))))), (AV.l 1 (List.map u (D (Rat.den (s + vQ x)))))]) := by
 have h := qadd_s (q := ng s.num) (r := x.1) (sm_cq hs) hx hk hj
 rwa [qv_cq] at h
theorem qadd_cc {s t : Rat} {k j : Nat} (hs : sq s ≤ k) (ht : sq t ≤ j) (hk : k ≤ 40000000000) (hj : j ≤ 40000000000) : R FF 31 [(AV.agg [AV.b (ng (zC s)), (AV.l 1 (List.map u (D (zD (zC s))))), (AV.l 1 (List.map u (D (Rat.den s))))]), (AV.agg [AV.b (ng (zC t)), (AV.l 1 (List.map u (D (zD (zC t))))), (AV.l 1 (List.map u (D (Rat.den t))))])] = some (AV.agg [AV.b (ng (zC (s + t))), (AV.l 1 (List.map u (D (zD (zC (s + t)))))), (AV.l 1 (List.map u (D (Rat.den (s + t)))))]) := by
 have h := qadd_s (q := ng s.num) (r := ng t.num) (sm_cq hs) (sm_cq ht) hk hj
 rwa [qv_cq, qv_cq] at h
theorem len_mul {a b c n : Nat} (h : n ≤ a) (hb : b ≤ c) : n * b ≤ a * c := Nat.mul_le_mul h hb
def bdR (len : Nat) (f : Int) (n : RNd) : Bool := !n.leaf && (decide (n.ft < 0) || decide (f ≤ n.ft) || decide (n.lft < 1) || decide ((len : Int) ≤ n.lft) || decide (n.rgt < 1) || decide ((len : Int) ≤ n.rgt))
def fstI (p : RNd → Bool) (t : List RNd) (i : Nat) : Nat := i + (t.drop i).findIdx p
theorem fstI_step {p : RNd → Bool} {t : List RNd} {i : Nat} (h : i < t.length) : fstI p t i = if p (t.getD i dNd) then i else fstI p t (i + 1) := by
 unfold fstI
 rw [List.drop_eq_getElem_cons h, List.findIdx_cons, za, ze h, Option.getD_some]
 cases p t[i]
 ·show i + (_ + 1) = _; rw [if_neg (by decide)]; omega
 ·rfl
theorem ranges_l0 {t : List RNd} {f : Int} (ht : t.length ≤ 100000) : ∀ (d i : Nat), i + d = t.length →
  LP FF [(0, 0), (1, 0), (8, 0), (9, 0), (10, 0)] [(4, 0), (5, 0)] b249_0 [.l 14 (t.map eNd), (AV.i .i64 f), .l 14 (t.map eNd), (AV.i .i64 ((t.length : Int))), (AV.i .i64 ((i : Int)))] = if (t.drop i).any (bdR t.length f) then some (.ret, [(AV.i .i64 ((fstI (bdR t.length f) t i : Int))), (AV.i .i64 8)]) else some (.exit 0, [.junk, .junk]) := by
 intro d
 induction d with
 | zero =>
  intro i hi
  have c1 : ¬ (i : Int) < (t.length : Int) := by omega
  rw [zG (by omega), List.any_nil, if_neg (by decide)]
  rw [LP_go FF b249_0.eq_1]
  simp only [RB, RL, un, St.none, Nat.reduceEqDiff, Nat.reduceAdd, Nat.reduceMul, Nat.reduceMod, Nat.reduceLeDiff, Nat.reduceLT, Int.reduceLT, Int.reduceLE, Int.reduceEq, Int.reduceToNat, Int.reduceSub, Int.reduceNeg, Int.reduceAdd, ↓reduceIte, reduceCtorEq, pack, pid, parN, lid, chkK, apartV, Heap.none, c1]
 | succ d ih =>
  intro i hi
  have hlt : i < t.length := by omega
  have h9 := ih (i + 1) (by omega)
  have c1 : (i : Int) < (t.length : Int) := by omega
  have e2 : IntKind.i64.wrap ((i : Int) + 1) = ((i + 1 : Nat) : Int) := w64succ (by omega)
  rw [any_drop dNd hlt, fstI_step hlt]
  obtain ⟨x, hx⟩ : ∃ x, x = t.getD i dNd := ⟨_, rfl⟩
  rw [← hx]
  have hx' := hx.symm
  have hb : bdR t.length f x = (!x.leaf && (decide (x.ft < 0) || decide (f ≤ x.ft) || decide (x.lft < 1) || decide ((t.length : Int) ≤ x.lft) || decide (x.rgt < 1) || decide ((t.length : Int) ≤ x.rgt))) := rfl
  obtain ⟨xl, xf, xc, xa, xb, xm, xv, xw⟩ := x
  simp only at hb
  cases xl with
  | true =>
   rw [show bdR t.length f ⟨true, xf, xc, xa, xb, xm, xv, xw⟩ = false from rfl, Bool.false_or, if_neg (show ¬ false = true by decide)]
   rw [LP_go FF b249_0.eq_1]
   simp only [RB, RL, un, St.none, Nat.reduceEqDiff, Nat.reduceAdd, Nat.reduceMul, Nat.reduceMod, Nat.reduceLeDiff, Nat.reduceLT, Int.reduceLT, Int.reduceLE, Int.reduceEq, Int.reduceToNat, Int.reduceSub, Int.reduceNeg, Int.reduceAdd, ↓reduceIte, reduceCtorEq, pack, pid, parN, lid, chkK, apartV, Heap.none, c1, hx', eNd_rules, eNd_row, eNd, zb, e2, n64]
   exact h9
  | false =>
   by_cases b1 : xf < 0
   ·rw [show bdR t.length f ⟨false, xf, xc, xa, xb, xm, xv, xw⟩ = true by rw [hb]; simp [b1], Bool.true_or, if_pos rfl, if_pos rfl]
    rw [LP_go FF b249_0.eq_1]
    simp only [RB, RL, un, St.none, Nat.reduceEqDiff, Nat.reduceAdd, Nat.reduceMul, Nat.reduceMod, Nat.reduceLeDiff, Nat.reduceLT, Int.reduceLT, Int.reduceLE, Int.reduceEq, Int.reduceToNat, Int.reduceSub, Int.reduceNeg, Int.reduceAdd, ↓reduceIte, reduceCtorEq, pack, pid, parN, lid, chkK, apartV, Heap.none, c1, hx', eNd_rules, eNd_row, eNd, zb, e2, n64, b1]
   by_cases b2 : f ≤ xf
   ·rw [show bdR t.length f ⟨false, xf, xc, xa, xb, xm, xv, xw⟩ = true by rw [hb]; simp [b1, b2], Bool.true_or, if_pos rfl, if_pos rfl]
    rw [LP_go FF b249_0.eq_1]
    simp only [RB, RL, un, St.none, Nat.reduceEqDiff, Nat.reduceAdd, Nat.reduceMul, Nat.reduceMod, Nat.reduceLeDiff, Nat.reduceLT, Int.reduceLT, Int.reduceLE, Int.reduceEq, Int.reduceToNat, Int.reduceSub, Int.reduceNeg, Int.reduceAdd, ↓reduceIte, reduceCtorEq, pack, pid, parN, lid, chkK, apartV, Heap.none, c1, hx', eNd_rules, eNd_row, eNd, zb, e2, n64, b1, b2]
   by_cases b3 : xa < 1
   ·rw [show bdR t.length f ⟨false, xf, xc, xa, xb, xm, xv, xw⟩ = true by rw [hb]; simp [b1, b2, b3], Bool.true_or, if_pos rfl, if_pos rfl]
    rw [LP_go FF b249_0.eq_1]
    simp only [RB, RL, un, St.none, Nat.reduceEqDiff, Nat.reduceAdd, Nat.reduceMul, Nat.reduceMod, Nat.reduceLeDiff, Nat.reduceLT, Int.reduceLT, Int.reduceLE, Int.reduceEq, Int.reduceToNat, Int.reduceSub, Int.reduceNeg, Int.reduceAdd, ↓reduceIte, reduceCtorEq, pack, pid, parN, lid, chkK, apartV, Heap.none, c1, hx', eNd_rules, eNd_row, eNd, zb, e2, n64, b1, b2, b3]
   by_cases b4 : (t.length : Int) ≤ xa
   ·rw [show bdR t.length f ⟨false, xf, xc, xa, xb, xm, xv, xw⟩ = true by rw [hb]; simp [b1, b2, b3, b4], Bool.true_or, if_pos rfl, if_pos rfl]
    rw [LP_go FF b249_0.eq_1]
    simp only [RB, RL, un, St.none, Nat.reduceEqDiff, Nat.reduceAdd, Nat.reduceMul, Nat.reduceMod, Nat.reduceLeDiff, Nat.reduceLT, Int.reduceLT, Int.reduceLE, Int.reduceEq, Int.reduceToNat, Int.reduceSub, Int.reduceNeg, Int.reduceAdd, ↓reduceIte, reduceCtorEq, pack, pid, parN, lid, chkK, apartV, Heap.none, c1, hx', eNd_rules, eNd_row, eNd, zb, e2, n64, b1, b2, b3, b4]
   by_cases b5 : xb < 1
   ·rw [show bdR t.length f ⟨false, xf, xc, xa, xb, xm, xv, xw⟩ = true by rw [hb]; simp [b1, b2, b3, b4, b5], Bool.true_or, if_pos rfl, if_pos rfl]
    rw [LP_go FF b249_0.eq_1]
    simp only [RB, RL, un, St.none, Nat.reduceEqDiff, Nat.reduceAdd, Nat.reduceMul, Nat.reduceMod, Nat.reduceLeDiff, Nat.reduceLT, Int.reduceLT, Int.reduceLE, Int.reduceEq, Int.reduceToNat, Int.reduceSub, Int.reduceNeg, Int.reduceAdd, ↓reduceIte, reduceCtorEq, pack, pid, parN, lid, chkK, apartV, Heap.none, c1, hx', eNd_rules, eNd_row, eNd, zb, e2, n64, b1, b2, b3, b4, b5]
   by_cases b6 : (t.length : Int) ≤ xb
   ·rw [show bdR t.length f ⟨false, xf, xc, xa, xb, xm, xv, xw⟩ = true by rw [hb]; simp [b1, b2, b3, b4, b5, b6], Bool.true_or, if_pos rfl, if_pos rfl]
    rw [LP_go FF b249_0.eq_1]
    simp only [RB, RL, un, St.none, Nat.reduceEqDiff, Nat.reduceAdd, Nat.reduceMul, Nat.reduceMod, Nat.reduceLeDiff, Nat.reduceLT, Int.reduceLT, Int.reduceLE, Int.reduceEq, Int.reduceToNat, Int.reduceSub, Int.reduceNeg, Int.reduceAdd, ↓reduceIte, reduceCtorEq, pack, pid, parN, lid, chkK, apartV, Heap.none, c1, hx', eNd_rules, eNd_row, eNd, zb, e2, n64, b1, b2, b3, b4, b5, b6]
   ·rw [show bdR t.length f ⟨false, xf, xc, xa, xb, xm, xv, xw⟩ = false by rw [hb]; simp [b1, b2, b3, b4, b5, b6], Bool.false_or, if_neg (show ¬ false = true by decide)]
    rw [LP_go FF b249_0.eq_1]
    simp only [RB, RL, un, St.none, Nat.reduceEqDiff, Nat.reduceAdd, Nat.reduceMul, Nat.reduceMod, Nat.reduceLeDiff, Nat.reduceLT, Int.reduceLT, Int.reduceLE, Int.reduceEq, Int.reduceToNat, Int.reduceSub, Int.reduceNeg, Int.reduceAdd, ↓reduceIte, reduceCtorEq, pack, pid, parN, lid, chkK, apartV, Heap.none, c1, hx', eNd_rules, eNd_row, eNd, zb, e2, n64, b1, b2, b3, b4, b5, b6]
    exact h9
theorem ranges_c {t : List RNd} {f : Int} (ht : t.length ≤ 100000) : ∃ i : Int, R FF 249 [.l 14 (t.map eNd), (AV.i .i64 f)] = some (.tup [(AV.i .i64 ((if t.any (bdR t.length f) then i else 0))), (AV.i .i64 ((if t.any (bdR t.length f) then 8 else 0)))]) := by
 refine ⟨(fstI (bdR t.length f) t 0 : Int), ?_⟩
 have l0 := ranges_l0 (f := f) ht t.length 0 (by omega)
 rw [zy, zz] at l0
 by_cases h : t.any (bdR t.length f) = true
 ·rw [if_pos h] at l0
  rw [if_pos h, if_pos h]
  rw [R_go FF F249 c249.eq_1]
  simp only [RB, RL, un, St.none, Nat.reduceEqDiff, Nat.reduceAdd, Nat.reduceMul, Nat.reduceMod, Nat.reduceLeDiff, Nat.reduceLT, Int.reduceLT, Int.reduceLE, Int.reduceEq, Int.reduceToNat, Int.reduceSub, Int.reduceNeg, Int.reduceAdd, ↓reduceIte, reduceCtorEq, pack, pid, parN, lid, chkK, apartV, Heap.none, l0]
 ·rw [if_neg h] at l0
  rw [if_neg h, if_neg h]
  rw [R_go FF F249 c249.eq_1]
  simp only [RB, RL, un, St.none, Nat.reduceEqDiff, Nat.reduceAdd, Nat.reduceMul, Nat.reduceMod, Nat.reduceLeDiff, Nat.reduceLT, Int.reduceLT, Int.reduceLE, Int.reduceEq, Int.reduceToNat, Int.reduceSub, Int.reduceNeg, Int.reduceAdd, ↓reduceIte, reduceCtorEq, pack, pid, parN, lid, chkK, apartV, Heap.none, l0]
def runV (ov : Nat → List AV → Option AV) (F : Nat → Option PF) : Nat → Nat → List AV → Option AV
 | 0, _, _ => none
 | k + 1, f, xs => match ov f xs with
  | some v => some v
  | none => (F f).bind fun p => (p.body.ev (runV ov F k) (loopF (runV ov F k) k) (un (parN p.lent 0 xs) xs)).bind (finE p)
theorem loopF_R (F : Nat → Option PF) : ∀ k, LeL (loopF (R F) k) (LP F) := by
 intro k
 induction k with
 | zero => intro l o x vs y e; cases e
 | succ k ih =>
  intro l o x vs
  rw [LP_eq]
  exact Le.bind (PC.mono (fun _ _ => Le.refl _) ih x _) fun p => round_mono (ih l o x) p
theorem runV_ok {ov : Nat → List AV → Option AV} {F : Nat → Option PF} (h : LeC ov (R F)) : ∀ k, LeC (runV ov F k) (R F) := by
 intro k
 induction k with
 | zero => intro f xs y e; cases e
 | succ k ih =>
  intro f xs y e
  rw [runV] at e
  cases h9 : ov f xs with
  | some v => rw [h9] at e; exact h f xs y (h9.trans e)
  | none =>
   rw [h9] at e
   rw [R_eq]
   refine Le.bind (Le.refl _) (fun p => Le.bind ?_ fun q => Le.refl _) y e
   exact PC.mono ih (fun l o x vs => Le.trans (loopF_call ih k l o x vs) (loopF_R F k l o x vs)) _ _
def dgf : Nat → Nat → List Int
 | 0, _ => []
 | k + 1, n => if n = 0 then [] else ((n % 4294967296 : Nat) : Int) :: dgf k (n / 4294967296)
theorem dgf_D : ∀ k n, n < 4294967296 ^ k → dgf k n = D n := by
 intro k
 induction k with
 | zero =>
  intro n h
  have : n = 0 := by rw [Nat.pow_zero] at h; omega
  subst this
  exact (Dg.dg_zero _).symm
 | succ k ih =>
  intro n h
  unfold dgf
  by_cases h0 : n = 0
  ·rw [if_pos h0, h0]; exact (Dg.dg_zero _).symm
  ·rw [if_neg h0]
   show _ = Dg.dg 4294967296 n
   rw [Dg.dg_succ (by decide) h0, ih (n / 4294967296) (by rw [Nat.div_lt_iff_lt_mul (by decide), ← Nat.pow_succ]; exact h)]
   rfl
def encQ (x : Rat) : Option AV :=
 if x.num.natAbs < 4294967296 ^ 20 ∧ x.den < 4294967296 ^ 20 then some (.agg [.b (decide (x.num < 0)), .l 1 ((dgf 20 x.num.natAbs).map u), .l 1 ((dgf 20 x.den).map u)]) else none
theorem encQ_ok {x : Rat} {v : AV} (h : encQ x = some v) : v = (AV.agg [AV.b (ng (zC x)), (AV.l 1 (List.map u (D (zD (zC x))))), (AV.l 1 (List.map u (D (Rat.den x))))]) := by
 unfold encQ at h
 split at h
 ·rename_i h1
  rw [dgf_D _ _ h1.1, dgf_D _ _ h1.2] at h
  exact (Option.some.inj h).symm
 ·cases h
def decW : List (List AV) → Option (List Int)
 | [] => some []
 | [.i .u64 n] :: l => if 0 ≤ n ∧ n ≤ 18446744073709551615 then (decW l).map (n :: ·) else none
 | _ => none
theorem decW_ok : ∀ {es : List (List AV)} {l : List Int}, decW es = some l → es = l.map u ∧ U l := by
 intro es
 induction es with
 | nil => intro l h; cases h; exact ⟨rfl, fun _ h => (List.not_mem_nil h).elim⟩
 | cons e es ih =>
  intro l h
  unfold decW at h
  split at h
  ·rename_i h'; cases h'
  ·rename_i n l' heq
   cases heq
   split at h
   ·rename_i hn
    obtain ⟨l2, h2, rfl⟩ := Option.map_eq_some_iff.1 h
    obtain ⟨g1, g2⟩ := ih h2
    exact ⟨by rw [g1]; rfl, fun x hx => (List.mem_cons.1 hx).elim (fun e => by rw [e]; exact hn) (g2 x)⟩
   ·cases h
  ·cases h
def decQ : AV → Option (Bool × List Int × List Int)
 | .agg [.b q, .l 1 a, .l 1 b] => (decW a).bind fun l => (decW b).bind fun d => if l.length ≤ 100 ∧ d.length ≤ 100 then some (q, l, d) else none
 | _ => none
theorem decQ_ok {v : AV} {x : Bool × List Int × List Int} (h : decQ v = some x) : v = (AV.agg [AV.b x.1, (AV.l 1 (List.map u x.2.1)), (AV.l 1 (List.map u x.2.2))]) ∧ Sm x.2.1 x.2.2 100 := by
 unfold decQ at h
 split at h
 ·rename_i q a b
  obtain ⟨l, h1, h⟩ := Option.bind_eq_some_iff.1 h
  obtain ⟨d, h2, h⟩ := Option.bind_eq_some_iff.1 h
  split at h
  ·rename_i hl
   cases h
   obtain ⟨rfl, u1⟩ := decW_ok h1
   obtain ⟨rfl, u2⟩ := decW_ok h2
   exact ⟨rfl, ⟨u1, hl.1⟩, u2, hl.2⟩
  ·cases h
 ·cases h
def two (g : Rat → Rat → Option AV) : List AV → Option AV
 | [a, b] => (decQ a).bind fun x => (decQ b).bind fun y => g (qv x.1 x.2.1 x.2.2) (qv y.1 y.2.1 y.2.2)
 | _ => none
def one (g : Rat → Option AV) : List AV → Option AV
 | [a] => (decQ a).bind fun x => g (qv x.1 x.2.1 x.2.2)
 | _ => none
theorem two_ok {f : Nat} {g : Rat → Rat → Option AV} (h : ∀ q l d r m e v, Sm l d 100 → Sm m e 100 → g (qv q l d) (qv r m e) = some v → R FF f [(AV.agg [AV.b q, (AV.l 1 (List.map u l)), (AV.l 1 (List.map u d))]), (AV.agg [AV.b r, (AV.l 1 (List.map u m)), (AV.l 1 (List.map u e))])] = some v) : ∀ xs, Le (two g xs) (R FF f xs) := by
 intro xs v hv
 unfold two at hv
 split at hv
 ·obtain ⟨x, h1, k1⟩ := Option.bind_eq_some_iff.1 hv
  obtain ⟨y, h2, k2⟩ := Option.bind_eq_some_iff.1 k1
  obtain ⟨e1, s1⟩ := decQ_ok h1
  obtain ⟨e2, s2⟩ := decQ_ok h2
  rw [e1, e2]
  exact h _ _ _ _ _ _ _ s1 s2 k2
 ·cases hv
theorem one_ok {f : Nat} {g : Rat → Option AV} (h : ∀ q l d v, Sm l d 100 → g (qv q l d) = some v → R FF f [(AV.agg [AV.b q, (AV.l 1 (List.map u l)), (AV.l 1 (List.map u d))])] = some v) : ∀ xs, Le (one g xs) (R FF f xs) := by
 intro xs v hv
 unfold one at hv
 split at hv
 ·obtain ⟨x, h1, k1⟩ := Option.bind_eq_some_iff.1 hv
  obtain ⟨e1, s1⟩ := decQ_ok h1
  rw [e1]
  exact h _ _ _ _ s1 k1
 ·cases hv
def ovF (f : Nat) (g : List AV → Option AV) (rest : Nat → List AV → Option AV) (n : Nat) (xs : List AV) : Option AV := if n = f then g xs else rest n xs
theorem ovF_ok {f : Nat} {g : List AV → Option AV} {rest : Nat → List AV → Option AV} (h1 : ∀ xs, Le (g xs) (R FF f xs)) (h2 : LeC rest (R FF)) : LeC (ovF f g rest) (R FF) := by
 intro n xs v h
 unfold ovF at h
 split at h
 ·rename_i e; subst e; exact h1 xs v h
 ·exact h2 n xs v h
def nothing (n : Nat) (xs : List AV) : Option AV := none
theorem nothing_ok : LeC nothing (R FF) := fun _ _ _ h => by cases h
theorem ov_add (xs : List AV) : Le (two (fun x y => encQ (x + y)) xs) (R FF 31 xs) := two_ok (fun q l d r m e v h1 h2 h => by rw [encQ_ok h]; exact qadd_s h1 h2 (by omega) (by omega)) xs
theorem ov_sub (xs : List AV) : Le (two (fun x y => encQ (x - y)) xs) (R FF 55 xs) := two_ok (fun q l d r m e v h1 h2 h => by rw [encQ_ok h]; exact qsub_s h1 h2 (by omega) (by omega)) xs
theorem ov_cmp (xs : List AV) : Le (two (fun x y => some (AV.i .i64 (qcmp x y))) xs) (R FF 14 xs) := two_ok (fun q l d r m e v h1 h2 h => by rw [← Option.some.inj h]; exact qcmp_s h1 h2 (by omega) (by omega)) xs
theorem ov_same (xs : List AV) : Le (two (fun x y => some (.b (decide (x = y)))) xs) (R FF 57 xs) := two_ok (fun q l d r m e v h1 h2 h => by rw [← Option.some.inj h]; exact qsame_s h1 h2 (by omega) (by omega)) xs
theorem ov_sign (xs : List AV) : Le (one (fun x => some (AV.i .i64 (cmp x.num 0))) xs) (R FF 162 xs) := one_ok (fun q l d v h1 h => by rw [← Option.some.inj h]; exact qsign_c (by omega) h1) xs
theorem ov_clean (xs : List AV) : Le (one encQ xs) (R FF 63 xs) := one_ok (fun q l d v h1 h => by rw [encQ_ok h]; exact qclean_s h1 (by omega)) xs
def ofG : List AV → Option AV
 | [.i .i64 n] => if -1000000 < n ∧ n < 1000000 then encQ n else none
 | _ => none
theorem ov_of (xs : List AV) : Le (ofG xs) (R FF 68 xs) := by
 intro v h
 unfold ofG at h
 split at h
 ·split at h
  ·rw [encQ_ok h]; exact qof_c (by omega) (by omega)
  ·cases h
 ·cases h
def nilG (x : Rat) : List AV → Option AV
 | [] => encQ x
 | _ => none
theorem ov_zero (xs : List AV) : Le (nilG 0 xs) (R FF 54 xs) := by
 intro v h
 unfold nilG at h
 split at h
 ·rw [encQ_ok h]; exact qzero_c
 ·cases h
theorem ov_one (xs : List AV) : Le (nilG 1 xs) (R FF 56 xs) := by
 intro v h
 unfold nilG at h
 split at h
 ·rw [encQ_ok h]; exact qone_c
 ·cases h
abbrev dC : RC := (false, false, [], [])
def goV (c : Rat) (m : Bool) (x : RC) : Bool := if x.1 then m else decide (vQ x.2 < c)
theorem vcmp_c {x y : RQt} {k j : Nat} (hx : SmQ x k) (hy : SmQ y j) (hk : k ≤ 100000000000) (hj : j ≤ 100000000000) : R FF 14 [(AV.agg [AV.b x.1, (AV.l 1 (List.map u x.2.1)), (AV.l 1 (List.map u x.2.2))]), (AV.agg [AV.b y.1, (AV.l 1 (List.map u y.2.1)), (AV.l 1 (List.map u y.2.2))])] = some (AV.i .i64 (qcmp (vQ x) (vQ y))) := qcmp_s hx hy hk hj
theorem rgoes_c {n : RNd} {x : RC} {k j : Nat} (hc : SmQ n.cut k) (hx : SmQ x.2 j) (hk : k ≤ 100000000000) (hj : j ≤ 100000000000) : R FF 246 [.agg (eNd n), .agg (eC x)] = some (.b (goV (vQ n.cut) n.miss x)) := by
 have f1 := vcmp_c hx hc hj hk
 have e : decide (qcmp (vQ x.2) (vQ n.cut) < 0) = decide (vQ x.2 < vQ n.cut) := decide_eq_decide.2 qcmp_lt
 obtain ⟨a, q, l, d⟩ := x
 cases a
 ·simp only [eNd, eC, goV, zA, if_false]
  rw [R_go FF F246 c246.eq_1]
  simp only [RB, RL, un, St.none, Nat.reduceEqDiff, Nat.reduceAdd, Nat.reduceMul, Nat.reduceMod, Nat.reduceLeDiff, Nat.reduceLT, Int.reduceLT, Int.reduceLE, Int.reduceEq, Int.reduceToNat, Int.reduceSub, Int.reduceNeg, Int.reduceAdd, ↓reduceIte, reduceCtorEq, pack, pid, parN, lid, chkK, apartV, Heap.none, f1, e, n64]
 ·simp only [eNd, eC, goV, if_true]
  rw [R_go FF F246 c246.eq_1]
  simp only [RB, RL, un, St.none, Nat.reduceEqDiff, Nat.reduceAdd, Nat.reduceMul, Nat.reduceMod, Nat.reduceLeDiff, Nat.reduceLT, Int.reduceLT, Int.reduceLE, Int.reduceEq, Int.reduceToNat, Int.reduceSub, Int.reduceNeg, Int.reduceAdd, ↓reduceIte, reduceCtorEq, pack, pid, parN, lid, chkK, apartV, Heap.none, n64]
theorem rleft_c {n : RNd} {x : RC} {k j : Nat} (hc : SmQ n.cut k) (hx : SmQ x.2 j) (hk : k ≤ 100000000000) (hj : j ≤ 100000000000) : R FF 230 [.agg (eNd n), .agg (eC x)] = some (.b (!n.leaf && goV (vQ n.cut) n.miss x)) := by
 have f1 := rgoes_c hc hx hk hj
 generalize goV (vQ n.cut) n.miss x = y at *
 obtain ⟨lf, ft, c, a, b, m, v, w⟩ := n
 obtain ⟨a', q, l, d⟩ := x
 cases lf
 ·simp only [eNd, eC] at f1 ⊢
  rw [R_go FF F230 c230.eq_1]
  simp only [RB, RL, un, St.none, Nat.reduceEqDiff, Nat.reduceAdd, Nat.reduceMul, Nat.reduceMod, Nat.reduceLeDiff, Nat.reduceLT, Int.reduceLT, Int.reduceLE, Int.reduceEq, Int.reduceToNat, Int.reduceSub, Int.reduceNeg, Int.reduceAdd, ↓reduceIte, reduceCtorEq, pack, pid, parN, lid, chkK, apartV, Heap.none, f1, n64]
 ·simp only [eNd, eC] at f1 ⊢
  rw [R_go FF F230 c230.eq_1]
  simp only [RB, RL, un, St.none, Nat.reduceEqDiff, Nat.reduceAdd, Nat.reduceMul, Nat.reduceMod, Nat.reduceLeDiff, Nat.reduceLT, Int.reduceLT, Int.reduceLE, Int.reduceEq, Int.reduceToNat, Int.reduceSub, Int.reduceNeg, Int.reduceAdd, ↓reduceIte, reduceCtorEq, pack, pid, parN, lid, chkK, apartV, Heap.none, n64]
theorem snoc_X (A : List Nat) (x : Nat) : A.map eX ++ [[AV.i .i64 ((x : Nat) : Int)]] = (A ++ [x]).map eX := by rw [List.map_append]; rfl
theorem take_snocX (A : List Nat) (x : Nat) : (A ++ [x]).take (A.length + 1) = A ++ [x] := zc (by rw [zl]; exact zo _)
theorem getD_map_rQ (l : List Rat) (i : Nat) (h : i < l.length) : (l.map rQ).getD i dQ = rQ (l.getD i 0) := by
 rw [za, za, List.getElem?_map, ze h]; rfl
theorem vsame_c {x y : RQt} {k j : Nat} (hx : SmQ x k) (hy : SmQ y j) (hk : k ≤ 100000000000) (hj : j ≤ 100000000000) : R FF 57 [(AV.agg [AV.b x.1, (AV.l 1 (List.map u x.2.1)), (AV.l 1 (List.map u x.2.2))]), (AV.agg [AV.b y.1, (AV.l 1 (List.map u y.2.1)), (AV.l 1 (List.map u y.2.2))])] = some (.b (decide (vQ x = vQ y))) := qsame_s hx hy hk hj
theorem vclean_c {x : RQt} {k : Nat} (hx : SmQ x k) (hk : k ≤ 100000000000) : R FF 63 [(AV.agg [AV.b x.1, (AV.l 1 (List.map u x.2.1)), (AV.l 1 (List.map u x.2.2))])] = some (AV.agg [AV.b (ng (zC ((vQ x)))), (AV.l 1 (List.map u (D (zD (zC ((vQ x))))))), (AV.l 1 (List.map u (D (Rat.den ((vQ x))))))]) := qclean_s hx hk
end Go.Pe
