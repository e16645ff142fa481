/- Part 4 of the texts of GrowBoosts: words, the machine's side of functions (written by a program), plain lemmas. -/
import Derived.Test.YtmdlpmhkpnobeaaGreatDoorBGrowBoosts3
import Derived.KernelRfl
set_option linter.unusedVariables false
set_option linter.unusedSimpArgs false
open Nat renaming reduceEqDiff → za, reduceLeDiff → zb, reduceAdd → zd, reduceMul → ze, reduceMod → zf, reduceLT → zj, le_refl → zz, le_trans → zE, mul_le_mul_right → zK, zero_add → zX, add_mul → zZ, lt_of_lt_of_le → je, min_eq_left → jh, lt_or_ge → jl
open Int renaming reduceToNat → zc, reduceSub → zg, reduceNeg → zh, reduceAdd → zi, reduceLT → zk, reduceLE → zm, reduceEq → zn, natCast_nonneg → zq, ofNat_zero → zI, mul_le_mul_of_nonneg_right → zJ, natAbs → zM
open List renaming getD_eq_getElem?_getD → zo, take_of_length_le → zp, getElem?_eq_getElem → zr, take_length → zt, length_append → zx, length_map → zC, length_take → zD, length_cons → zF, mem_cons_self → zG, mem_cons_of_mem → zH, replicate → zL, length_replicate → zP, take → zQ, map_nil → zR, range → zT, length_set → zU, drop_of_length_le → zW, not_mem_nil → zY, mem_singleton → ja, map_append → jb, getElem?_append_right → jc, length_drop → jd, getElem?_eq_none → jf, length_singleton → jg, take_zero → jk
open Bool renaming and_eq_true → zu, false_eq_true → ji
open Option renaming map_eq_some_iff → zw, bind_eq_some_iff → zy, bind_some → zN, map_some → jj
open Rat renaming num → zV
open Go
namespace Go.Pe
def c211 : PC := (.seq (.reg [] [zO 1 (.box 1 2 (.t 0)),zO 2 (.mv (.c (.b false)))]) (.seq (.reg [] [zO 3 (.ld true 2 (.t 1)),zO 4 (.call 237 [(.t 3)]),zO 5 (.build [.i .i64 0,.i .i64 0,.i .i64 0,.i .i64 0] []),zO 6 (.eqs false 4 (.t 4) (.t 5)),zO 2 (.mv (.t 6))]) .ret))
def p211 : PF := ⟨[(.tmp 2,0)],[],c211⟩
def c214 : PC := (.seq (.reg [] [zO 2 (.box 2 3 (.t 0)),zO 3 (.box 3 2 (.t 1)),zO 4 (.mv (.c (.ns 14))),zO 5 (.mv (.c (.i .i64 0)))]) (.seq (.seq (.reg [] [zO 8 (.ld true 3 (.t 2)),zO 9 (.ld true 2 (.t 3)),zO 10 (.call 168 [(.t 8),(.t 9)]),zO 6 (.mv (.t 10))]) (.seq (.reg [] [zO 11 (.mv (.t 6)),zO 12 (.bin .neq (.t 11) (.c (.i .i64 0)))]) (.cond (.t 12) (.seq (.reg [] [zO 13 (.mv (.t 6)),zO 4 (.mv (.c (.ns 14))),zO 5 (.mv (.t 13))]) .ret) .skip))) (.seq (.reg [] [zO 14 (.ld true 3 (.t 2)),zO 15 (.ld true 2 (.t 3)),zO 16 (.build [.i .i64 0,.ns 1,.ns 3,.i .i64 0,.i .i64 0,.ns 14] [(0,3,(.t 14)),(3,2,(.t 15))]),zO 17 (.box 17 6 (.t 16)),zO 7 (.mv (.t 17))]) (.seq (.reg [] [zO 18 (.mv (.t 7)),zO 19 (.ld true 3 (.t 2)),zO 20 (.call 239 [(.t 19)]),zO 21 (.fld 0 (.t 3)),zO 22 (.ld false 1 (.t 21)),zO 23 (.calln 238 [(.t 18),(.t 20),(.t 22)] 0 402300)]) (.seq (.reg [] [zO 24 (.mv (.t 7)),zO 25 (.nck (.t 24)),zO 26 (.fld 5 (.t 25)),zO 27 (.ld false 1 (.t 26)),zO 4 (.mv (.t 27)),zO 5 (.mv (.c (.i .i64 0)))]) .ret)))))
def p214 : PF := ⟨[(.tmp 4,1),(.tmp 5,0)],[],c214⟩
def c215 : PC := (.seq (.reg [] [zO 2 (.box 2 3 (.t 0)),zO 3 (.box 3 3 (.t 1)),zO 4 (.mv (.c (.b false)))]) (.seq (.join [(4,0)] (.reg [] [zO 5 (.ld true 3 (.t 2)),zO 6 (.call 240 [(.t 5)]),zO 7 (.mv (.t 6)),⟨some 8,.ld true 3 (.t 2),some (7,true)⟩,⟨some 9,.call 216 [(.t 8)],some (7,true)⟩,⟨some 10,.ld true 3 (.t 3),some (7,true)⟩,⟨some 11,.call 241 [(.t 9),(.t 10)],some (7,true)⟩,⟨some 12,.bin .eql (.t 11) (.c (.i .i64 0)),some (7,true)⟩,zO 13 (.pick (.t 7) (.t 12) (.c (.b false))),zO 4 (.mv (.t 13))])) .ret))
def p215 : PF := ⟨[(.tmp 4,0)],[],c215⟩
def c216 : PC := (.seq (.reg [] [zO 1 (.box 1 3 (.t 0)),zO 2 (.alloc 2 [.b false,.ns 1,.ns 1])]) (.seq (.reg [] [zO 4 (.fld 2 (.t 1)),zO 5 (.ld false 1 (.t 4)),zO 6 (.call 79 [(.t 5)]),zO 3 (.mv (.t 6))]) (.seq (.seq (.reg [] [zO 7 (.mv (.t 3)),zO 8 (.len (.t 7)),zO 9 (.bin .eql (.t 8) (.c (.i .i64 0)))]) (.cond (.t 9) (.seq (.reg [] [zO 10 (.call 242 [(.c (.i .i64 0)),(.c (.i .i64 1))]),⟨none,.st 3 (.t 2) (.t 10),none⟩]) .ret) .skip)) (.seq (.reg [] [zO 11 (.fld 0 (.t 1)),zO 12 (.ld true 2 (.t 11)),zO 13 (.call 38 [(.t 12)]),zO 14 (.mv (.t 3)),zO 15 (.build [.b false,.ns 1,.ns 1] [(0,2,(.t 13)),(2,1,(.t 14))]),⟨none,.st 3 (.t 2) (.t 15),none⟩]) .ret))))
def p216 : PF := ⟨[(.cell 2 true 3,0)],[],c216⟩
def b217_0 : PC := (.seq (.reg [] [zO 14 (.bin .lss (.t 13) (.t 12))]) (.seq (.cond (.t 14) .skip (.exit 0)) (.seq (.block 1 (.seq (.reg [] [zO 15 (.idx 1 (.t 11) (.t 13)),zO 16 (.ld false 1 (.t 15)),zO 7 (.mv (.t 16))]) (.seq (.reg [] [zO 17 (.fld 0 (.t 5)),zO 18 (.ld false 1 (.t 17)),zO 19 (.bin .add (.t 18) (.c (.i .i64 1))),zO 20 (.fld 0 (.t 5)),⟨none,.st 1 (.t 20) (.t 19),none⟩]) (.seq (.reg [] [zO 21 (.fld 1 (.t 5)),zO 22 (.ld true 3 (.t 21)),zO 23 (.fld 2 (.t 2)),zO 24 (.ld false 1 (.t 23)),zO 25 (.mv (.t 7)),zO 26 (.idx 3 (.t 24) (.t 25)),zO 27 (.ld true 3 (.t 26)),zO 28 (.call 31 [(.t 22),(.t 27)]),zO 29 (.fld 1 (.t 5)),⟨none,.st 3 (.t 29) (.t 28),none⟩]) (.reg [] [zO 30 (.fld 4 (.t 5)),zO 31 (.ld true 3 (.t 30)),zO 32 (.fld 2 (.t 2)),zO 33 (.ld false 1 (.t 32)),zO 34 (.mv (.t 7)),zO 35 (.idx 3 (.t 33) (.t 34)),zO 36 (.ld true 3 (.t 35)),zO 37 (.fld 2 (.t 2)),zO 38 (.ld false 1 (.t 37)),zO 39 (.mv (.t 7)),zO 40 (.idx 3 (.t 38) (.t 39)),zO 41 (.ld true 3 (.t 40)),zO 42 (.call 94 [(.t 36),(.t 41)]),zO 43 (.call 31 [(.t 31),(.t 42)]),zO 44 (.fld 4 (.t 5)),⟨none,.st 3 (.t 44) (.t 43),none⟩]))))) (.reg [] [zO 45 (.bin .add (.t 13) (.c (.i .i64 1))),zO 13 (.mv (.t 45))]))))
def c217 : PC := (.seq (.reg [] [zO 2 (.box 2 3 (.t 0)),zO 4 (.alloc 4 [.i .i64 0,.b false,.ns 1,.ns 1,.b false,.ns 1,.ns 1])]) (.seq (.reg [] [zO 8 (.call 54 []),zO 9 (.call 54 []),zO 10 (.build [.i .i64 0,.b false,.ns 1,.ns 1,.b false,.ns 1,.ns 1] [(1,3,(.t 8)),(4,3,(.t 9))]),zO 5 (.alloc 5 [.i .i64 0,.b false,.ns 1,.ns 1,.b false,.ns 1,.ns 1]),⟨none,.st 7 (.t 5) (.t 10),none⟩]) (.seq (.seq (.reg [] [zO 11 (.mv (.t 1)),zO 12 (.len (.t 11)),zO 13 (.mv (.c (.i .i64 0)))]) (.block 0 (.loop [(4,1),(5,1),(2,0),(11,0),(12,0),(13,0)] [(4,1),(5,0)] b217_0))) (.seq (.reg [] [zO 46 (.ld true 7 (.t 5)),⟨none,.st 7 (.t 4) (.t 46),none⟩]) .ret))))
def p217 : PF := ⟨[(.cell 4 true 7,0)],[],c217⟩
def c218 : PC := (.seq (.reg [] [zO 1 (.box 1 7 (.t 0)),zO 2 (.alloc 2 [.b false,.ns 1,.ns 1])]) (.seq (.seq (.reg [] [zO 3 (.fld 0 (.t 1)),zO 4 (.ld false 1 (.t 3)),zO 5 (.bin .eql (.t 4) (.c (.i .i64 0)))]) (.cond (.t 5) (.seq (.reg [] [zO 6 (.call 54 []),⟨none,.st 3 (.t 2) (.t 6),none⟩]) .ret) .skip)) (.seq (.reg [] [zO 7 (.fld 4 (.t 1)),zO 8 (.ld true 3 (.t 7)),zO 9 (.fld 1 (.t 1)),zO 10 (.ld true 3 (.t 9)),zO 11 (.fld 1 (.t 1)),zO 12 (.ld true 3 (.t 11)),zO 13 (.call 94 [(.t 10),(.t 12)]),zO 14 (.fld 0 (.t 1)),zO 15 (.ld false 1 (.t 14)),zO 16 (.call 95 [(.c (.i .i64 1)),(.t 15)]),zO 17 (.call 94 [(.t 13),(.t 16)]),zO 18 (.call 55 [(.t 8),(.t 17)]),⟨none,.st 3 (.t 2) (.t 18),none⟩]) .ret)))
def p218 : PF := ⟨[(.cell 2 true 3,0)],[],c218⟩
def b219_0 : PC := (.seq (.seq (.reg [] [zO 8 (.mv (.t 6)),zO 9 (.mv (.t 1)),zO 10 (.len (.t 9)),zO 11 (.bin .lss (.t 8) (.t 10))]) (.cond (.t 11) .skip (.exit 0))) (.seq (.block 1 (.reg [] [zO 14 (.ld true 3 (.t 5)),zO 15 (.fld 2 (.t 2)),zO 16 (.ld false 1 (.t 15)),zO 17 (.mv (.t 1)),zO 18 (.mv (.t 6)),zO 19 (.idx 1 (.t 17) (.t 18)),zO 20 (.ld false 1 (.t 19)),zO 21 (.idx 3 (.t 16) (.t 20)),zO 22 (.ld true 3 (.t 21)),zO 23 (.call 31 [(.t 14),(.t 22)]),⟨none,.st 3 (.t 5) (.t 23),none⟩])) (.reg [] [zO 12 (.mv (.t 6)),zO 13 (.bin .add (.t 12) (.c (.i .i64 1))),zO 6 (.mv (.t 13))])))
def c219 : PC := (.seq (.reg [] [zO 2 (.box 2 3 (.t 0)),zO 4 (.alloc 4 [.b false,.ns 1,.ns 1])]) (.seq (.reg [] [zO 7 (.call 54 []),zO 5 (.alloc 5 [.b false,.ns 1,.ns 1]),⟨none,.st 3 (.t 5) (.t 7),none⟩]) (.seq (.seq (.reg [] [zO 6 (.mv (.c (.i .i64 0)))]) (.block 0 (.loop [(4,1),(5,1),(1,0),(2,0),(6,0)] [(4,1),(1,0),(5,0)] b219_0))) (.seq (.reg [] [zO 24 (.ld true 3 (.t 5)),zO 25 (.mv (.t 1)),zO 26 (.len (.t 25)),zO 27 (.call 95 [(.c (.i .i64 1)),(.t 26)]),zO 28 (.call 94 [(.t 24),(.t 27)]),⟨none,.st 3 (.t 4) (.t 28),none⟩]) .ret))))
def p219 : PF := ⟨[(.cell 4 true 3,0)],[],c219⟩
def c230 : PC := (.seq (.reg [] [zO 2 (.box 2 14 (.t 0)),zO 3 (.box 3 4 (.t 1)),zO 4 (.mv (.c (.b false)))]) (.seq (.join [(4,0)] (.reg [] [zO 5 (.fld 0 (.t 2)),zO 6 (.ld false 1 (.t 5)),zO 7 (.not (.t 6)),zO 8 (.mv (.t 7)),⟨some 9,.ld true 14 (.t 2),some (8,true)⟩,⟨some 10,.ld true 4 (.t 3),some (8,true)⟩,⟨some 11,.call 246 [(.t 9),(.t 10)],some (8,true)⟩,zO 12 (.pick (.t 8) (.t 11) (.c (.b false))),zO 4 (.mv (.t 12))])) .ret))
def p230 : PF := ⟨[(.tmp 4,0)],[],c230⟩
def c231 : PC := (.seq (.reg [] [zO 2 (.box 2 14 (.t 0)),zO 3 (.box 3 4 (.t 1)),zO 4 (.mv (.c (.b false)))]) (.seq (.seq (.reg [] [zO 5 (.fld 0 (.t 2)),zO 6 (.ld false 1 (.t 5))]) (.cond (.t 6) (.seq (.reg [] [zO 4 (.mv (.c (.b false)))]) .ret) .skip)) (.seq (.join [(4,0)] (.reg [] [zO 7 (.fld 0 (.t 3)),zO 8 (.ld false 1 (.t 7)),zO 9 (.mv (.t 8)),⟨some 10,.fld 7 (.t 2),some (9,true)⟩,⟨some 11,.ld false 1 (.t 10),some (9,true)⟩,zO 12 (.pick (.t 9) (.t 11) (.c (.b false))),zO 13 (.mv (.t 12)),⟨some 14,.fld 0 (.t 3),some (13,false)⟩,⟨some 15,.ld false 1 (.t 14),some (13,false)⟩,⟨some 16,.not (.t 15),some (13,false)⟩,⟨some 17,.mv (.t 16),some (13,false)⟩,⟨some 18,.fld 1 (.t 3),some (17,true)⟩,⟨some 19,.ld true 3 (.t 18),some (17,true)⟩,⟨some 20,.fld 2 (.t 2),some (17,true)⟩,⟨some 21,.ld true 3 (.t 20),some (17,true)⟩,⟨some 22,.call 14 [(.t 19),(.t 21)],some (17,true)⟩,⟨some 23,.bin .lss (.t 22) (.c (.i .i64 0)),some (17,true)⟩,⟨some 24,.pick (.t 17) (.t 23) (.c (.b false)),some (13,false)⟩,zO 25 (.pick (.t 13) (.c (.b true)) (.t 24)),zO 4 (.mv (.t 25))])) .ret)))
def p231 : PF := ⟨[(.tmp 4,0)],[],c231⟩
def b237_1 : PC := (.seq (.reg [] [zO 19 (.bin .lss (.t 18) (.t 17))]) (.seq (.cond (.t 19) .skip (.exit 2)) (.seq (.block 3 (.seq (.reg [] [zO 20 (.mv (.t 18)),zO 21 (.idx 1 (.t 16) (.t 18)),zO 22 (.ld false 1 (.t 21)),zO 4 (.mv (.t 20)),zO 5 (.mv (.t 22))]) (.seq (.reg [] [zO 6 (.mv (.c (.i .i64 0))),zO 7 (.mv (.c (.i .i64 0)))]) (.seq (.seq (.reg [] [zO 23 (.mv (.t 3))]) (.block 4 (.seq (.reg [] [zO 25 (.bin .eql (.t 23) (.c (.i .i64 0))),zO 24 (.mv (.t 25))]) (.join [(2,1),(1,0),(3,0),(4,0),(6,0),(7,0),(12,0),(16,0),(17,0),(18,0)] (.cond (.t 24) (.reg [] [zO 27 (.mv (.t 5)),zO 28 (.fld 0 (.t 1)),zO 29 (.ld false 1 (.t 28)),zO 30 (.call 249 [(.t 27),(.t 29)]),zO 26 (.mv (.t 30)),zO 31 (.ext 0 (.t 26)),zO 32 (.ext 1 (.t 26)),zO 6 (.mv (.t 31)),zO 7 (.mv (.t 32))]) (.seq (.reg [] [zO 34 (.bin .eql (.t 23) (.c (.i .i64 1))),zO 33 (.mv (.t 34))]) (.join [(2,1),(1,0),(3,0),(4,0),(6,0),(7,0),(12,0),(16,0),(17,0),(18,0)] (.cond (.t 33) (.reg [] [zO 36 (.mv (.t 5)),zO 37 (.call 250 [(.t 36)]),zO 35 (.mv (.t 37)),zO 38 (.ext 0 (.t 35)),zO 39 (.ext 1 (.t 35)),zO 6 (.mv (.t 38)),zO 7 (.mv (.t 39))]) (.seq (.reg [] [zO 41 (.bin .eql (.t 23) (.c (.i .i64 2))),zO 40 (.mv (.t 41))]) (.join [(2,1),(1,0),(3,0),(4,0),(6,0),(7,0),(12,0),(16,0),(17,0),(18,0)] (.cond (.t 40) (.reg [] [zO 43 (.mv (.t 5)),zO 44 (.call 251 [(.t 43)]),zO 42 (.mv (.t 44)),zO 45 (.ext 0 (.t 42)),zO 46 (.ext 1 (.t 42)),zO 6 (.mv (.t 45)),zO 7 (.mv (.t 46))]) (.seq (.reg [] [zO 48 (.bin .eql (.t 23) (.c (.i .i64 3))),zO 47 (.mv (.t 48))]) (.join [(2,1),(1,0),(3,0),(4,0),(6,0),(7,0),(12,0),(16,0),(17,0),(18,0)] (.cond (.t 47) (.reg [] [zO 50 (.mv (.t 5)),zO 51 (.call 252 [(.t 50)]),zO 49 (.mv (.t 51)),zO 52 (.ext 0 (.t 49)),zO 53 (.ext 1 (.t 49)),zO 6 (.mv (.t 52)),zO 7 (.mv (.t 53))]) .skip)))))))))))))) (.seq (.reg [] [zO 54 (.mv (.t 7)),zO 55 (.bin .neq (.t 54) (.c (.i .i64 0)))]) (.cond (.t 55) (.seq (.reg [] [zO 56 (.mv (.t 7)),zO 57 (.mv (.t 4)),zO 58 (.mv (.t 6)),zO 59 (.call 253 [(.t 56),(.t 57),(.t 58)]),⟨none,.st 4 (.t 2) (.t 59),none⟩]) .ret) .skip)))))) (.reg [] [zO 60 (.bin .add (.t 18) (.c (.i .i64 1))),zO 18 (.mv (.t 60))]))))
def b237_0 : PC := (.seq (.reg [] [zO 13 (.bin .lss (.t 12) (.c (.i .i64 4)))]) (.seq (.cond (.t 13) .skip (.exit 0)) (.seq (.block 1 (.seq (.reg [] [zO 14 (.mv (.t 12)),zO 3 (.mv (.t 14))]) (.seq (.reg [] [zO 15 (.fld 1 (.t 1)),zO 16 (.ld false 1 (.t 15)),zO 17 (.len (.t 16)),zO 18 (.mv (.c (.i .i64 0)))]) (.block 2 (.loop [(2,1),(1,0),(3,0),(12,0),(16,0),(17,0),(18,0)] [(2,1),(1,0),(12,0)] b237_1))))) (.reg [] [zO 61 (.bin .add (.t 12) (.c (.i .i64 1))),zO 12 (.mv (.t 61))]))))
def c237 : PC := (.seq (.reg [] [zO 1 (.box 1 2 (.t 0)),zO 2 (.alloc 2 [.i .i64 0,.i .i64 0,.i .i64 0,.i .i64 0])]) (.seq (.seq (.reg [] [zO 8 (.ld true 2 (.t 1)),zO 9 (.call 248 [(.t 8)]),zO 10 (.not (.t 9))]) (.cond (.t 10) (.seq (.reg [] [zO 11 (.build [.i .i64 0,.i .i64 0,.i .i64 0,.i .i64 0] [(0,1,(.c (.i .i64 1)))]),⟨none,.st 4 (.t 2) (.t 11),none⟩]) .ret) .skip)) (.seq (.seq (.reg [] [zO 12 (.mv (.c (.i .i64 0)))]) (.block 0 (.loop [(2,1),(1,0),(12,0)] [(2,1)] b237_0))) (.seq (.reg [] [zO 62 (.build [.i .i64 0,.i .i64 0,.i .i64 0,.i .i64 0] []),⟨none,.st 4 (.t 2) (.t 62),none⟩]) .ret))))
def p237 : PF := ⟨[(.cell 2 true 4,0)],[],c237⟩
def c238 : PC := (.seq (.reg [] [zO 6 (.mv (.c (.i .i64 0)))]) (.seq (.reg [] [zO 14 (.mv (.t 0)),zO 15 (.nck (.t 14)),zO 16 (.fld 5 (.t 15)),zO 17 (.ld false 1 (.t 16)),zO 18 (.len (.t 17)),zO 7 (.mv (.t 18))]) (.seq (.reg [] [zO 19 (.mv (.t 0)),zO 20 (.nck (.t 19)),zO 21 (.fld 0 (.t 20)),zO 22 (.ld true 3 (.t 21)),zO 23 (.mv (.t 1)),zO 24 (.call 217 [(.t 22),(.t 23)]),zO 8 (.alloc 8 [.i .i64 0,.b false,.ns 1,.ns 1,.b false,.ns 1,.ns 1]),⟨none,.st 7 (.t 8) (.t 24),none⟩]) (.seq (.reg [] [zO 25 (.mv (.t 0)),zO 26 (.mv (.t 0)),zO 27 (.nck (.t 26)),zO 28 (.fld 5 (.t 27)),zO 29 (.ld false 1 (.t 28)),zO 30 (.ld true 7 (.t 8)),zO 31 (.call 254 [(.t 30)]),zO 32 (.fld 0 (.t 8)),zO 33 (.ld false 1 (.t 32)),zO 34 (.call 68 [(.t 33)]),zO 35 (.build [.b false,.i .i64 0,.b false,.ns 1,.ns 1,.i .i64 0,.i .i64 0,.b false,.b false,.ns 1,.ns 1,.b false,.ns 1,.ns 1] [(0,1,(.c (.b true))),(8,3,(.t 31)),(11,3,(.t 34))]),zO 36 (.bsl 36 14 [.b false,.i .i64 0,.b false,.ns 1,.ns 1,.i .i64 0,.i .i64 0,.b false,.b false,.ns 1,.ns 1,.b false,.ns 1,.ns 1] 1 [(0,(.t 35))]),zO 37 (.app 37 14 208 (.t 29) (.t 36)),zO 38 (.nck (.t 25)),zO 39 (.fld 5 (.t 38)),⟨none,.st 1 (.t 39) (.t 37),none⟩]) (.seq (.seq (.join [(300000,5),(0,1),(1,0),(2,0),(7,0),(8,0),(50,0)] (.reg [] [zO 40 (.mv (.t 2)),zO 41 (.bin .eql (.t 40) (.c (.i .i64 0))),zO 42 (.mv (.t 41)),⟨some 43,.mv (.t 0),some (42,false)⟩,⟨some 44,.nck (.t 43),some (42,false)⟩,⟨some 45,.fld 5 (.t 44),some (42,false)⟩,⟨some 46,.ld false 1 (.t 45),some (42,false)⟩,⟨some 47,.len (.t 46),some (42,false)⟩,⟨some 48,.bin .add (.t 47) (.c (.i .i64 2)),some (42,false)⟩,⟨some 49,.bin .gtr (.t 48) (.c (.i .i64 255)),some (42,false)⟩,zO 50 (.pick (.t 42) (.c (.b true)) (.t 49))])) (.cond (.t 50) (.seq (.reg [] [zO 51 (.mv (.t 7)),zO 6 (.mv (.t 51))]) .ret) .skip)) (.seq (.reg [] [zO 53 (.mv (.t 0)),zO 54 (.nck (.t 53)),zO 55 (.fld 0 (.t 54)),zO 56 (.ld true 3 (.t 55)),zO 57 (.mv (.t 1)),zO 58 (.mv (.t 0)),zO 59 (.nck (.t 58)),zO 60 (.fld 3 (.t 59)),zO 61 (.ld true 2 (.t 60)),zO 62 (.call 255 [(.t 56),(.t 57),(.t 61)]),zO 52 (.mv (.t 62)),zO 63 (.ext 0 (.t 52)),zO 64 (.ext 1 (.t 52)),zO 9 (.alloc 9 [.i .i64 0,.b false,.ns 1,.ns 1,.b false,.b false,.ns 1,.ns 1]),⟨none,.st 8 (.t 9) (.t 63),none⟩,zO 10 (.mv (.t 64))]) (.seq (.seq (.join [(300000,5),(0,1),(1,0),(2,0),(7,0),(8,0),(9,0),(74,0)] (.reg [] [zO 65 (.mv (.t 10)),zO 66 (.not (.t 65)),zO 67 (.mv (.t 66)),⟨some 68,.fld 5 (.t 9),some (67,false)⟩,⟨some 69,.ld true 3 (.t 68),some (67,false)⟩,⟨some 70,.ld true 7 (.t 8),some (67,false)⟩,⟨some 71,.call 218 [(.t 70)],some (67,false)⟩,⟨some 72,.call 14 [(.t 69),(.t 71)],some (67,false)⟩,⟨some 73,.bin .geq (.t 72) (.c (.i .i64 0)),some (67,false)⟩,zO 74 (.pick (.t 67) (.c (.b true)) (.t 73))])) (.cond (.t 74) (.seq (.reg [] [zO 75 (.mv (.t 7)),zO 6 (.mv (.t 75))]) .ret) .skip)) (.seq (.reg [] [zO 77 (.mv (.t 0)),zO 78 (.nck (.t 77)),zO 79 (.fld 0 (.t 78)),zO 80 (.ld true 3 (.t 79)),zO 81 (.mv (.t 1)),zO 82 (.ld true 8 (.t 9)),zO 83 (.call 256 [(.t 80),(.t 81),(.t 82)]),zO 76 (.mv (.t 83)),zO 84 (.ext 0 (.t 76)),zO 85 (.ext 1 (.t 76)),zO 11 (.mv (.t 84)),zO 12 (.mv (.t 85))]) (.seq (.reg [] [zO 86 (.fld 0 (.t 9)),zO 87 (.ld false 1 (.t 86)),zO 88 (.fld 1 (.t 9)),zO 89 (.ld true 3 (.t 88)),zO 90 (.fld 4 (.t 9)),zO 91 (.ld false 1 (.t 90)),zO 92 (.fld 0 (.t 8)),zO 93 (.ld false 1 (.t 92)),zO 94 (.call 68 [(.t 93)]),zO 95 (.build [.b false,.i .i64 0,.b false,.ns 1,.ns 1,.i .i64 0,.i .i64 0,.b false,.b false,.ns 1,.ns 1,.b false,.ns 1,.ns 1] [(1,1,(.t 87)),(2,3,(.t 89)),(7,1,(.t 91)),(11,3,(.t 94))]),zO 13 (.alloc 13 [.b false,.i .i64 0,.b false,.ns 1,.ns 1,.i .i64 0,.i .i64 0,.b false,.b false,.ns 1,.ns 1,.b false,.ns 1,.ns 1]),⟨none,.st 14 (.t 13) (.t 95),none⟩]) (.seq (.reg [] [zO 96 (.mv (.t 0)),zO 97 (.mv (.t 11)),zO 98 (.mv (.t 2)),zO 99 (.bin .sub (.t 98) (.c (.i .i64 1))),zO 100 (.calln 238 [(.t 96),(.t 97),(.t 99)] 0 410000),zO 101 (.fld 5 (.t 13)),⟨none,.st 1 (.t 101) (.t 100),none⟩]) (.seq (.reg [] [zO 102 (.mv (.t 0)),zO 103 (.mv (.t 12)),zO 104 (.mv (.t 2)),zO 105 (.bin .sub (.t 104) (.c (.i .i64 1))),zO 106 (.calln 238 [(.t 102),(.t 103),(.t 105)] 0 410600),zO 107 (.fld 6 (.t 13)),⟨none,.st 1 (.t 107) (.t 106),none⟩]) (.seq (.reg [] [zO 108 (.mv (.t 0)),zO 109 (.nck (.t 108)),zO 110 (.fld 5 (.t 109)),zO 111 (.ld false 1 (.t 110)),zO 112 (.mv (.t 7)),zO 113 (.ld true 14 (.t 13)),zO 114 (.idx 14 (.t 111) (.t 112)),⟨none,.st 14 (.t 114) (.t 113),none⟩]) (.seq (.reg [] [zO 115 (.mv (.t 7)),zO 6 (.mv (.t 115))]) .ret)))))))))))))
def p238 : PF := ⟨[(.tmp 6,0)],[1000],c238⟩
def b239_0 : PC := (.seq (.reg [] [zO 9 (.bin .lss (.t 8) (.t 7))]) (.seq (.cond (.t 9) .skip (.exit 0)) (.seq (.block 1 (.seq (.reg [] [zO 10 (.mv (.t 8)),zO 4 (.mv (.t 10))]) (.reg [] [zO 11 (.mv (.t 3)),zO 12 (.mv (.t 4)),zO 13 (.bsl 13 1 [.i .i64 0] 1 [(0,(.t 12))]),zO 14 (.app 14 1 8 (.t 11) (.t 13)),zO 3 (.mv (.t 14))]))) (.reg [] [zO 15 (.bin .add (.t 8) (.c (.i .i64 1))),zO 8 (.mv (.t 15))]))))
def c239 : PC := (.seq (.reg [] [zO 1 (.box 1 3 (.t 0)),zO 2 (.mv (.c (.ns 1)))]) (.seq (.reg [] [zO 3 (.mv (.c (.ns 1)))]) (.seq (.seq (.reg [] [zO 5 (.fld 1 (.t 1)),zO 6 (.ld false 1 (.t 5)),zO 7 (.len (.t 6)),zO 8 (.mv (.c (.i .i64 0)))]) (.block 0 (.loop [(3,1),(7,0),(8,0)] [(3,0)] b239_0))) (.seq (.reg [] [zO 16 (.mv (.t 3)),zO 2 (.mv (.t 16))]) .ret))))
def p239 : PF := ⟨[(.tmp 2,0)],[],c239⟩
def c240 : PC := (.seq (.reg [] [zO 1 (.box 1 3 (.t 0)),zO 2 (.mv (.c (.b false)))]) (.seq (.seq (.join [(1,0),(32,0)] (.reg [] [zO 4 (.fld 0 (.t 1)),zO 5 (.fld 1 (.t 4)),zO 6 (.ld false 1 (.t 5)),zO 7 (.call 91 [(.t 6)]),zO 8 (.not (.t 7)),zO 9 (.mv (.t 8)),⟨some 10,.fld 2 (.t 1),some (9,false)⟩,⟨some 11,.ld false 1 (.t 10),some (9,false)⟩,⟨some 12,.call 91 [(.t 11)],some (9,false)⟩,⟨some 13,.not (.t 12),some (9,false)⟩,zO 14 (.pick (.t 9) (.c (.b true)) (.t 13)),zO 15 (.mv (.t 14)),⟨some 16,.fld 2 (.t 1),some (15,false)⟩,⟨some 17,.ld false 1 (.t 16),some (15,false)⟩,⟨some 18,.len (.t 17),some (15,false)⟩,⟨some 19,.bin .eql (.t 18) (.c (.i .i64 0)),some (15,false)⟩,zO 20 (.pick (.t 15) (.c (.b true)) (.t 19)),zO 21 (.mv (.t 20)),⟨some 22,.fld 0 (.t 1),some (21,false)⟩,⟨some 23,.fld 1 (.t 22),some (21,false)⟩,⟨some 24,.ld false 1 (.t 23),some (21,false)⟩,⟨some 25,.len (.t 24),some (21,false)⟩,⟨some 26,.bin .eql (.t 25) (.c (.i .i64 0)),some (21,false)⟩,⟨some 27,.mv (.t 26),some (21,false)⟩,⟨some 28,.fld 0 (.t 1),some (27,true)⟩,⟨some 29,.fld 0 (.t 28),some (27,true)⟩,⟨some 30,.ld false 1 (.t 29),some (27,true)⟩,⟨some 31,.pick (.t 27) (.t 30) (.c (.b false)),some (21,false)⟩,zO 32 (.pick (.t 21) (.c (.b true)) (.t 31))])) (.cond (.t 32) (.seq (.reg [] [zO 2 (.mv (.c (.b false)))]) .ret) .skip)) (.seq (.reg [] [zO 33 (.fld 0 (.t 1)),zO 34 (.fld 1 (.t 33)),zO 35 (.ld false 1 (.t 34)),zO 36 (.call 79 [(.t 35)]),zO 37 (.fld 2 (.t 1)),zO 38 (.ld false 1 (.t 37)),zO 39 (.call 79 [(.t 38)]),zO 40 (.call 40 [(.t 36),(.t 39)]),zO 3 (.mv (.t 40))]) (.seq (.reg [] [zO 41 (.mv (.t 3)),zO 42 (.call 118 [(.c (.i .i64 1))]),zO 43 (.call 88 [(.t 41),(.t 42)]),zO 44 (.bin .eql (.t 43) (.c (.i .i64 0))),zO 2 (.mv (.t 44))]) .ret))))
def p240 : PF := ⟨[(.tmp 2,0)],[],c240⟩
def c241 : PC := (.seq (.reg [] [zO 2 (.box 2 3 (.t 0)),zO 3 (.box 3 3 (.t 1)),zO 4 (.mv (.c (.i .i64 0)))]) (.seq (.reg [] [zO 5 (.fld 0 (.t 2)),zO 6 (.ld true 2 (.t 5)),zO 7 (.ld true 3 (.t 3)),zO 8 (.call 257 [(.t 7)]),zO 9 (.call 43 [(.t 6),(.t 8)]),zO 10 (.fld 0 (.t 3)),zO 11 (.ld true 2 (.t 10)),zO 12 (.ld true 3 (.t 2)),zO 13 (.call 257 [(.t 12)]),zO 14 (.call 43 [(.t 11),(.t 13)]),zO 15 (.call 47 [(.t 9),(.t 14)]),zO 4 (.mv (.t 15))]) .ret))
def p241 : PF := ⟨[(.tmp 4,0)],[],c241⟩
def c242 : PC := (.seq (.reg [] [zO 4 (.alloc 4 [.b false,.ns 1,.ns 1])]) (.seq (.reg [] [zO 5 (.mv (.t 0)),zO 6 (.call 258 [(.t 5)]),zO 7 (.mv (.t 1)),zO 8 (.call 118 [(.t 7)]),zO 9 (.build [.b false,.ns 1,.ns 1] [(0,2,(.t 6)),(2,1,(.t 8))]),⟨none,.st 3 (.t 4) (.t 9),none⟩]) .ret))
def p242 : PF := ⟨[(.cell 4 true 3,0)],[],c242⟩
def c246 : PC := (.seq (.reg [] [zO 2 (.box 2 14 (.t 0)),zO 3 (.box 3 4 (.t 1)),zO 4 (.mv (.c (.b false)))]) (.seq (.seq (.reg [] [zO 5 (.fld 0 (.t 3)),zO 6 (.ld false 1 (.t 5))]) (.cond (.t 6) (.seq (.reg [] [zO 7 (.fld 7 (.t 2)),zO 8 (.ld false 1 (.t 7)),zO 4 (.mv (.t 8))]) .ret) .skip)) (.seq (.reg [] [zO 9 (.fld 1 (.t 3)),zO 10 (.ld true 3 (.t 9)),zO 11 (.fld 2 (.t 2)),zO 12 (.ld true 3 (.t 11)),zO 13 (.call 14 [(.t 10),(.t 12)]),zO 14 (.bin .lss (.t 13) (.c (.i .i64 0))),zO 4 (.mv (.t 14))]) .ret)))
def p246 : PF := ⟨[(.tmp 4,0)],[],c246⟩
def b248_1 : PC := (.seq (.reg [] [zO 39 (.bin .lss (.t 38) (.t 37))]) (.seq (.cond (.t 39) .skip (.exit 2)) (.seq (.block 3 (.seq (.reg [] [zO 40 (.idx 14 (.t 36) (.t 38)),zO 41 (.ld true 14 (.t 40)),zO 6 (.alloc 6 [.b false,.i .i64 0,.b false,.ns 1,.ns 1,.i .i64 0,.i .i64 0,.b false,.b false,.ns 1,.ns 1,.b false,.ns 1,.ns 1]),⟨none,.st 14 (.t 6) (.t 41),none⟩]) (.seq (.join [(22,0),(23,0),(24,0),(36,0),(37,0),(38,0),(69,0)] (.reg [] [zO 42 (.fld 1 (.t 6)),zO 43 (.ld false 1 (.t 42)),zO 44 (.bin .lss (.t 43) (.c (.i .i64 0))),zO 45 (.mv (.t 44)),⟨some 46,.fld 1 (.t 6),some (45,false)⟩,⟨some 47,.ld false 1 (.t 46),some (45,false)⟩,⟨some 48,.bin .gtr (.t 47) (.c (.i .i64 64)),some (45,false)⟩,zO 49 (.pick (.t 45) (.c (.b true)) (.t 48)),zO 50 (.mv (.t 49)),⟨some 51,.fld 5 (.t 6),some (50,false)⟩,⟨some 52,.ld false 1 (.t 51),some (50,false)⟩,⟨some 53,.bin .lss (.t 52) (.c (.i .i64 0)),some (50,false)⟩,zO 54 (.pick (.t 50) (.c (.b true)) (.t 53)),zO 55 (.mv (.t 54)),⟨some 56,.fld 5 (.t 6),some (55,false)⟩,⟨some 57,.ld false 1 (.t 56),some (55,false)⟩,⟨some 58,.bin .gtr (.t 57) (.c (.i .i64 255)),some (55,false)⟩,zO 59 (.pick (.t 55) (.c (.b true)) (.t 58)),zO 60 (.mv (.t 59)),⟨some 61,.fld 6 (.t 6),some (60,false)⟩,⟨some 62,.ld false 1 (.t 61),some (60,false)⟩,⟨some 63,.bin .lss (.t 62) (.c (.i .i64 0)),some (60,false)⟩,zO 64 (.pick (.t 60) (.c (.b true)) (.t 63)),zO 65 (.mv (.t 64)),⟨some 66,.fld 6 (.t 6),some (65,false)⟩,⟨some 67,.ld false 1 (.t 66),some (65,false)⟩,⟨some 68,.bin .gtr (.t 67) (.c (.i .i64 255)),some (65,false)⟩,zO 69 (.pick (.t 65) (.c (.b true)) (.t 68))])) (.cond (.t 69) (.seq (.reg [] [zO 2 (.mv (.c (.b false)))]) .ret) .skip)))) (.reg [] [zO 70 (.bin .add (.t 38) (.c (.i .i64 1))),zO 38 (.mv (.t 70))]))))
def b248_0 : PC := (.seq (.reg [] [zO 25 (.bin .lss (.t 24) (.t 23))]) (.seq (.cond (.t 25) .skip (.exit 0)) (.seq (.block 1 (.seq (.reg [] [zO 26 (.idx 1 (.t 22) (.t 24)),zO 27 (.ld false 1 (.t 26)),zO 4 (.mv (.t 27))]) (.seq (.seq (.join [(4,0),(22,0),(23,0),(24,0),(35,0)] (.reg [] [zO 28 (.mv (.t 4)),zO 29 (.len (.t 28)),zO 30 (.bin .lss (.t 29) (.c (.i .i64 1))),zO 31 (.mv (.t 30)),⟨some 32,.mv (.t 4),some (31,false)⟩,⟨some 33,.len (.t 32),some (31,false)⟩,⟨some 34,.bin .gtr (.t 33) (.c (.i .i64 255)),some (31,false)⟩,zO 35 (.pick (.t 31) (.c (.b true)) (.t 34))])) (.cond (.t 35) (.seq (.reg [] [zO 2 (.mv (.c (.b false)))]) .ret) .skip)) (.seq (.reg [] [zO 36 (.mv (.t 4)),zO 37 (.len (.t 36)),zO 38 (.mv (.c (.i .i64 0)))]) (.block 2 (.loop [(22,0),(23,0),(24,0),(36,0),(37,0),(38,0)] [(2,0),(22,0),(23,0),(24,0)] b248_1)))))) (.reg [] [zO 71 (.bin .add (.t 24) (.c (.i .i64 1))),zO 24 (.mv (.t 71))]))))
def c248 : PC := (.seq (.reg [] [zO 1 (.box 1 2 (.t 0)),zO 2 (.mv (.c (.b false)))]) (.seq (.seq (.join [(1,0),(20,0)] (.reg [] [zO 7 (.fld 0 (.t 1)),zO 8 (.ld false 1 (.t 7)),zO 9 (.bin .lss (.t 8) (.c (.i .i64 0))),zO 10 (.mv (.t 9)),⟨some 11,.fld 0 (.t 1),some (10,false)⟩,⟨some 12,.ld false 1 (.t 11),some (10,false)⟩,⟨some 13,.bin .gtr (.t 12) (.c (.i .i64 64)),some (10,false)⟩,zO 14 (.pick (.t 10) (.c (.b true)) (.t 13)),zO 15 (.mv (.t 14)),⟨some 16,.fld 1 (.t 1),some (15,false)⟩,⟨some 17,.ld false 1 (.t 16),some (15,false)⟩,⟨some 18,.len (.t 17),some (15,false)⟩,⟨some 19,.bin .gtr (.t 18) (.c (.i .i64 64)),some (15,false)⟩,zO 20 (.pick (.t 15) (.c (.b true)) (.t 19))])) (.cond (.t 20) (.seq (.reg [] [zO 2 (.mv (.c (.b false)))]) .ret) .skip)) (.seq (.seq (.reg [] [zO 21 (.fld 1 (.t 1)),zO 22 (.ld false 1 (.t 21)),zO 23 (.len (.t 22)),zO 24 (.mv (.c (.i .i64 0)))]) (.block 0 (.loop [(22,0),(23,0),(24,0)] [(2,0)] b248_0))) (.seq (.reg [] [zO 2 (.mv (.c (.b true)))]) .ret))))
def p248 : PF := ⟨[(.tmp 2,0)],[],c248⟩
def b249_0 : PC := (.seq (.reg [] [zO 11 (.bin .lss (.t 10) (.t 9))]) (.seq (.cond (.t 11) .skip (.exit 0)) (.seq (.block 1 (.seq (.reg [] [zO 12 (.mv (.t 10)),zO 13 (.idx 14 (.t 8) (.t 10)),zO 14 (.ld true 14 (.t 13)),zO 7 (.alloc 7 [.b false,.i .i64 0,.b false,.ns 1,.ns 1,.i .i64 0,.i .i64 0,.b false,.b false,.ns 1,.ns 1,.b false,.ns 1,.ns 1]),zO 6 (.mv (.t 12)),⟨none,.st 14 (.t 7) (.t 14),none⟩]) (.seq (.seq (.reg [] [zO 15 (.fld 0 (.t 7)),zO 16 (.ld false 1 (.t 15))]) (.cond (.t 16) (.exit 1) .skip)) (.seq (.join [(0,0),(1,0),(6,0),(8,0),(9,0),(10,0),(49,0)] (.reg [] [zO 17 (.fld 1 (.t 7)),zO 18 (.ld false 1 (.t 17)),zO 19 (.bin .lss (.t 18) (.c (.i .i64 0))),zO 20 (.mv (.t 19)),⟨some 21,.fld 1 (.t 7),some (20,false)⟩,⟨some 22,.ld false 1 (.t 21),some (20,false)⟩,⟨some 23,.mv (.t 1),some (20,false)⟩,⟨some 24,.bin .geq (.t 22) (.t 23),some (20,false)⟩,zO 25 (.pick (.t 20) (.c (.b true)) (.t 24)),zO 26 (.mv (.t 25)),⟨some 27,.fld 5 (.t 7),some (26,false)⟩,⟨some 28,.ld false 1 (.t 27),some (26,false)⟩,⟨some 29,.bin .lss (.t 28) (.c (.i .i64 1)),some (26,false)⟩,zO 30 (.pick (.t 26) (.c (.b true)) (.t 29)),zO 31 (.mv (.t 30)),⟨some 32,.fld 5 (.t 7),some (31,false)⟩,⟨some 33,.ld false 1 (.t 32),some (31,false)⟩,⟨some 34,.mv (.t 0),some (31,false)⟩,⟨some 35,.len (.t 34),some (31,false)⟩,⟨some 36,.bin .geq (.t 33) (.t 35),some (31,false)⟩,zO 37 (.pick (.t 31) (.c (.b true)) (.t 36)),zO 38 (.mv (.t 37)),⟨some 39,.fld 6 (.t 7),some (38,false)⟩,⟨some 40,.ld false 1 (.t 39),some (38,false)⟩,⟨some 41,.bin .lss (.t 40) (.c (.i .i64 1)),some (38,false)⟩,zO 42 (.pick (.t 38) (.c (.b true)) (.t 41)),zO 43 (.mv (.t 42)),⟨some 44,.fld 6 (.t 7),some (43,false)⟩,⟨some 45,.ld false 1 (.t 44),some (43,false)⟩,⟨some 46,.mv (.t 0),some (43,false)⟩,⟨some 47,.len (.t 46),some (43,false)⟩,⟨some 48,.bin .geq (.t 45) (.t 47),some (43,false)⟩,zO 49 (.pick (.t 43) (.c (.b true)) (.t 48))])) (.cond (.t 49) (.seq (.reg [] [zO 50 (.mv (.t 6)),zO 4 (.mv (.t 50)),zO 5 (.mv (.c (.i .i64 8)))]) .ret) .skip))))) (.reg [] [zO 51 (.bin .add (.t 10) (.c (.i .i64 1))),zO 10 (.mv (.t 51))]))))
def c249 : PC := (.seq (.reg [] [zO 4 (.mv (.c (.i .i64 0))),zO 5 (.mv (.c (.i .i64 0)))]) (.seq (.seq (.reg [] [zO 8 (.mv (.t 0)),zO 9 (.len (.t 8)),zO 10 (.mv (.c (.i .i64 0)))]) (.block 0 (.loop [(0,0),(1,0),(8,0),(9,0),(10,0)] [(4,0),(5,0)] b249_0))) (.seq (.reg [] [zO 4 (.mv (.c (.i .i64 0))),zO 5 (.mv (.c (.i .i64 0)))]) .ret)))
def p249 : PF := ⟨[(.tmp 4,0),(.tmp 5,0)],[],c249⟩
def b250_3 : PC := (.seq (.reg [] [zO 21 (.bin .lss (.t 20) (.t 19))]) (.seq (.cond (.t 21) .skip (.exit 0)) (.seq (.block 1 (.seq (.reg [] [zO 22 (.idx 14 (.t 18) (.t 20)),zO 23 (.ld true 14 (.t 22)),zO 6 (.alloc 6 [.b false,.i .i64 0,.b false,.ns 1,.ns 1,.i .i64 0,.i .i64 0,.b false,.b false,.ns 1,.ns 1,.b false,.ns 1,.ns 1]),⟨none,.st 14 (.t 6) (.t 23),none⟩]) (.seq (.reg [] [zO 24 (.fld 0 (.t 6)),zO 25 (.ld false 1 (.t 24)),zO 26 (.not (.t 25))]) (.join [(4,1),(0,0),(18,0),(19,0),(20,0)] (.cond (.t 26) (.seq (.reg [] [zO 27 (.mv (.t 4)),zO 28 (.fld 5 (.t 6)),zO 29 (.ld false 1 (.t 28)),zO 30 (.idx 1 (.t 27) (.t 29)),zO 31 (.ld false 1 (.t 30)),zO 32 (.bin .add (.t 31) (.c (.i .i64 1))),zO 33 (.idx 1 (.t 27) (.t 29)),⟨none,.st 1 (.t 33) (.t 32),none⟩]) (.reg [] [zO 34 (.mv (.t 4)),zO 35 (.fld 6 (.t 6)),zO 36 (.ld false 1 (.t 35)),zO 37 (.idx 1 (.t 34) (.t 36)),zO 38 (.ld false 1 (.t 37)),zO 39 (.bin .add (.t 38) (.c (.i .i64 1))),zO 40 (.idx 1 (.t 34) (.t 36)),⟨none,.st 1 (.t 40) (.t 39),none⟩])) .skip))))) (.reg [] [zO 41 (.bin .add (.t 20) (.c (.i .i64 1))),zO 20 (.mv (.t 41))]))))
def b250_2 : PC := (.seq (.reg [] [zO 45 (.bin .lss (.t 44) (.t 43))]) (.seq (.cond (.t 45) .skip (.exit 2)) (.seq (.block 3 (.seq (.reg [] [zO 46 (.mv (.t 44)),zO 47 (.idx 1 (.t 42) (.t 44)),zO 48 (.ld false 1 (.t 47)),zO 7 (.mv (.t 46)),zO 8 (.mv (.t 48))]) (.seq (.join [(0,0),(7,0),(42,0),(43,0),(44,0),(54,0)] (.reg [] [zO 49 (.mv (.t 7)),zO 50 (.bin .gtr (.t 49) (.c (.i .i64 0))),zO 51 (.mv (.t 50)),⟨some 52,.mv (.t 8),some (51,true)⟩,⟨some 53,.bin .neq (.t 52) (.c (.i .i64 1)),some (51,true)⟩,zO 54 (.pick (.t 51) (.t 53) (.c (.b false)))])) (.cond (.t 54) (.seq (.reg [] [zO 55 (.mv (.t 7)),zO 2 (.mv (.t 55)),zO 3 (.mv (.c (.i .i64 11)))]) .ret) .skip)))) (.reg [] [zO 56 (.bin .add (.t 44) (.c (.i .i64 1))),zO 44 (.mv (.t 56))]))))
def b250_1 : PC := (.seq (.seq (.reg [] [zO 61 (.mv (.t 10)),zO 62 (.len (.t 61)),zO 63 (.bin .gtr (.t 62) (.c (.i .i64 0)))]) (.cond (.t 63) .skip (.exit 4))) (.block 5 (.seq (.reg [] [zO 64 (.mv (.t 10)),zO 65 (.mv (.t 10)),zO 66 (.len (.t 65)),zO 67 (.bin .sub (.t 66) (.c (.i .i64 1))),zO 68 (.idx 1 (.t 64) (.t 67)),zO 69 (.ld false 1 (.t 68)),zO 11 (.mv (.t 69))]) (.seq (.reg [] [zO 70 (.mv (.t 10)),zO 71 (.mv (.t 10)),zO 72 (.len (.t 71)),zO 73 (.bin .sub (.t 72) (.c (.i .i64 1))),zO 74 (.cut 1 (.t 70) none (some (.t 73)) none),zO 10 (.mv (.t 74))]) (.seq (.reg [] [zO 75 (.mv (.t 9)),zO 76 (.mv (.t 11)),zO 77 (.idx 1 (.t 75) (.t 76)),⟨none,.st 1 (.t 77) (.c (.b true)),none⟩]) (.seq (.reg [] [zO 78 (.mv (.t 0)),zO 79 (.mv (.t 11)),zO 80 (.idx 14 (.t 78) (.t 79)),zO 81 (.ld true 14 (.t 80)),zO 12 (.alloc 12 [.b false,.i .i64 0,.b false,.ns 1,.ns 1,.i .i64 0,.i .i64 0,.b false,.b false,.ns 1,.ns 1,.b false,.ns 1,.ns 1]),⟨none,.st 14 (.t 12) (.t 81),none⟩]) (.seq (.reg [] [zO 82 (.fld 0 (.t 12)),zO 83 (.ld false 1 (.t 82)),zO 84 (.not (.t 83))]) (.join [(9,1),(10,1),(0,0)] (.cond (.t 84) (.reg [] [zO 85 (.mv (.t 10)),zO 86 (.fld 5 (.t 12)),zO 87 (.ld false 1 (.t 86)),zO 88 (.fld 6 (.t 12)),zO 89 (.ld false 1 (.t 88)),zO 90 (.bsl 90 1 [.i .i64 0] 2 [(0,(.t 87)),(1,(.t 89))]),zO 91 (.app 91 1 8 (.t 85) (.t 90)),zO 10 (.mv (.t 91))]) .skip)))))))))
def b250_0 : PC := (.seq (.reg [] [zO 95 (.bin .lss (.t 94) (.t 93))]) (.seq (.cond (.t 95) .skip (.exit 6)) (.seq (.block 7 (.seq (.reg [] [zO 96 (.mv (.t 94)),zO 97 (.idx 1 (.t 92) (.t 94)),zO 98 (.ld false 1 (.t 97)),zO 13 (.mv (.t 96)),zO 14 (.mv (.t 98))]) (.seq (.reg [] [zO 99 (.mv (.t 14)),zO 100 (.not (.t 99))]) (.cond (.t 100) (.seq (.reg [] [zO 101 (.mv (.t 13)),zO 2 (.mv (.t 101)),zO 3 (.mv (.c (.i .i64 11)))]) .ret) .skip)))) (.reg [] [zO 102 (.bin .add (.t 94) (.c (.i .i64 1))),zO 94 (.mv (.t 102))]))))
def c250 : PC := (.seq (.reg [] [zO 2 (.mv (.c (.i .i64 0))),zO 3 (.mv (.c (.i .i64 0)))]) (.seq (.reg [] [zO 15 (.mv (.t 0)),zO 16 (.len (.t 15)),zO 17 (.mk 17 1 8 [.i .i64 0] (.t 16)),zO 4 (.mv (.t 17))]) (.seq (.seq (.reg [] [zO 18 (.mv (.t 0)),zO 19 (.len (.t 18)),zO 20 (.mv (.c (.i .i64 0)))]) (.block 0 (.loop [(4,1),(0,0),(18,0),(19,0),(20,0)] [(0,0),(4,0)] b250_3))) (.seq (.seq (.reg [] [zO 42 (.mv (.t 4)),zO 43 (.len (.t 42)),zO 44 (.mv (.c (.i .i64 0)))]) (.block 2 (.loop [(0,0),(42,0),(43,0),(44,0)] [(0,0),(2,0),(3,0)] b250_2))) (.seq (.reg [] [zO 57 (.mv (.t 0)),zO 58 (.len (.t 57)),zO 59 (.mk 59 1 1 [.b false] (.t 58)),zO 9 (.mv (.t 59))]) (.seq (.seq (.reg [] [zO 60 (.bsl 60 1 [.i .i64 0] 1 [(0,(.c (.i .i64 0)))]),zO 10 (.mv (.t 60))]) (.block 4 (.loop [(9,1),(10,1),(0,0)] [(9,0)] b250_1))) (.seq (.seq (.reg [] [zO 92 (.mv (.t 9)),zO 93 (.len (.t 92)),zO 94 (.mv (.c (.i .i64 0)))]) (.block 6 (.loop [(92,0),(93,0),(94,0)] [(2,0),(3,0)] b250_0))) (.seq (.reg [] [zO 2 (.mv (.c (.i .i64 0))),zO 3 (.mv (.c (.i .i64 0)))]) .ret))))))))
def p250 : PF := ⟨[(.tmp 2,0),(.tmp 3,0)],[],c250⟩
def b251_0 : PC := (.seq (.reg [] [zO 9 (.bin .lss (.t 8) (.t 7))]) (.seq (.cond (.t 9) .skip (.exit 0)) (.seq (.block 1 (.seq (.reg [] [zO 10 (.mv (.t 8)),zO 11 (.idx 14 (.t 6) (.t 8)),zO 12 (.ld true 14 (.t 11)),zO 5 (.alloc 5 [.b false,.i .i64 0,.b false,.ns 1,.ns 1,.i .i64 0,.i .i64 0,.b false,.b false,.ns 1,.ns 1,.b false,.ns 1,.ns 1]),zO 4 (.mv (.t 10)),⟨none,.st 14 (.t 5) (.t 12),none⟩]) (.seq (.reg [] [zO 13 (.fld 11 (.t 5)),zO 14 (.ld true 3 (.t 13)),zO 15 (.call 162 [(.t 14)]),zO 16 (.bin .leq (.t 15) (.c (.i .i64 0)))]) (.cond (.t 16) (.seq (.reg [] [zO 17 (.mv (.t 4)),zO 2 (.mv (.t 17)),zO 3 (.mv (.c (.i .i64 12)))]) .ret) .skip)))) (.reg [] [zO 18 (.bin .add (.t 8) (.c (.i .i64 1))),zO 8 (.mv (.t 18))]))))
def c251 : PC := (.seq (.reg [] [zO 2 (.mv (.c (.i .i64 0))),zO 3 (.mv (.c (.i .i64 0)))]) (.seq (.seq (.reg [] [zO 6 (.mv (.t 0)),zO 7 (.len (.t 6)),zO 8 (.mv (.c (.i .i64 0)))]) (.block 0 (.loop [(6,0),(7,0),(8,0)] [(2,0),(3,0)] b251_0))) (.seq (.reg [] [zO 2 (.mv (.c (.i .i64 0))),zO 3 (.mv (.c (.i .i64 0)))]) .ret)))
def p251 : PF := ⟨[(.tmp 2,0),(.tmp 3,0)],[],c251⟩
def b252_0 : PC := (.seq (.reg [] [zO 9 (.bin .lss (.t 8) (.t 7))]) (.seq (.cond (.t 9) .skip (.exit 0)) (.seq (.block 1 (.seq (.reg [] [zO 10 (.mv (.t 8)),zO 11 (.idx 14 (.t 6) (.t 8)),zO 12 (.ld true 14 (.t 11)),zO 5 (.alloc 5 [.b false,.i .i64 0,.b false,.ns 1,.ns 1,.i .i64 0,.i .i64 0,.b false,.b false,.ns 1,.ns 1,.b false,.ns 1,.ns 1]),zO 4 (.mv (.t 10)),⟨none,.st 14 (.t 5) (.t 12),none⟩]) (.seq (.join [(0,0),(4,0),(6,0),(7,0),(8,0),(34,0)] (.reg [] [zO 13 (.fld 0 (.t 5)),zO 14 (.ld false 1 (.t 13)),zO 15 (.not (.t 14)),zO 16 (.mv (.t 15)),⟨some 17,.fld 11 (.t 5),some (16,true)⟩,⟨some 18,.ld true 3 (.t 17),some (16,true)⟩,⟨some 19,.mv (.t 0),some (16,true)⟩,⟨some 20,.fld 5 (.t 5),some (16,true)⟩,⟨some 21,.ld false 1 (.t 20),some (16,true)⟩,⟨some 22,.idx 14 (.t 19) (.t 21),some (16,true)⟩,⟨some 23,.fld 11 (.t 22),some (16,true)⟩,⟨some 24,.ld true 3 (.t 23),some (16,true)⟩,⟨some 25,.mv (.t 0),some (16,true)⟩,⟨some 26,.fld 6 (.t 5),some (16,true)⟩,⟨some 27,.ld false 1 (.t 26),some (16,true)⟩,⟨some 28,.idx 14 (.t 25) (.t 27),some (16,true)⟩,⟨some 29,.fld 11 (.t 28),some (16,true)⟩,⟨some 30,.ld true 3 (.t 29),some (16,true)⟩,⟨some 31,.call 31 [(.t 24),(.t 30)],some (16,true)⟩,⟨some 32,.call 57 [(.t 18),(.t 31)],some (16,true)⟩,⟨some 33,.not (.t 32),some (16,true)⟩,zO 34 (.pick (.t 16) (.t 33) (.c (.b false)))])) (.cond (.t 34) (.seq (.reg [] [zO 35 (.mv (.t 4)),zO 2 (.mv (.t 35)),zO 3 (.mv (.c (.i .i64 13)))]) .ret) .skip)))) (.reg [] [zO 36 (.bin .add (.t 8) (.c (.i .i64 1))),zO 8 (.mv (.t 36))]))))
def c252 : PC := (.seq (.reg [] [zO 2 (.mv (.c (.i .i64 0))),zO 3 (.mv (.c (.i .i64 0)))]) (.seq (.seq (.reg [] [zO 6 (.mv (.t 0)),zO 7 (.len (.t 6)),zO 8 (.mv (.c (.i .i64 0)))]) (.block 0 (.loop [(0,0),(6,0),(7,0),(8,0)] [(2,0),(3,0)] b252_0))) (.seq (.reg [] [zO 2 (.mv (.c (.i .i64 0))),zO 3 (.mv (.c (.i .i64 0)))]) .ret)))
def p252 : PF := ⟨[(.tmp 2,0),(.tmp 3,0)],[],c252⟩
def c253 : PC := (.seq (.reg [] [zO 6 (.alloc 6 [.i .i64 0,.i .i64 0,.i .i64 0,.i .i64 0])]) (.seq (.reg [] [zO 7 (.mv (.t 0)),zO 8 (.mv (.t 1)),zO 9 (.mv (.t 2)),zO 10 (.build [.i .i64 0,.i .i64 0,.i .i64 0,.i .i64 0] [(0,1,(.t 7)),(2,1,(.t 8)),(3,1,(.t 9))]),⟨none,.st 4 (.t 6) (.t 10),none⟩]) .ret))
def p253 : PF := ⟨[(.cell 6 true 4,0)],[],c253⟩
def c254 : PC := (.seq (.reg [] [zO 1 (.box 1 7 (.t 0)),zO 2 (.alloc 2 [.b false,.ns 1,.ns 1])]) (.seq (.reg [] [zO 3 (.fld 1 (.t 1)),zO 4 (.ld true 3 (.t 3)),zO 5 (.fld 0 (.t 1)),zO 6 (.ld false 1 (.t 5)),zO 7 (.max (.t 6) (.c (.i .i64 1))),zO 8 (.call 95 [(.c (.i .i64 1)),(.t 7)]),zO 9 (.call 94 [(.t 4),(.t 8)]),⟨none,.st 3 (.t 2) (.t 9),none⟩]) .ret))
def p254 : PF := ⟨[(.cell 2 true 3,0)],[],c254⟩
def b255_2 : PC := (.seq (.reg [] [zO 35 (.bin .lss (.t 34) (.c (.i .i64 2)))]) (.seq (.cond (.t 35) .skip (.exit 4)) (.seq (.block 5 (.seq (.reg [] [zO 36 (.aidx false 2 1 (.t 33) (.t 34)),zO 14 (.mv (.t 36))]) (.seq (.reg [] [zO 37 (.mv (.t 10)),zO 38 (.ld true 3 (.t 12)),zO 39 (.mv (.t 14)),zO 40 (.build [.i .i64 0,.b false,.ns 1,.ns 1,.b false,.b false,.ns 1,.ns 1] [(0,1,(.t 37)),(1,3,(.t 38)),(4,1,(.t 39))]),zO 15 (.alloc 15 [.i .i64 0,.b false,.ns 1,.ns 1,.b false,.b false,.ns 1,.ns 1]),⟨none,.st 8 (.t 15) (.t 40),none⟩]) (.seq (.reg [] [zO 42 (.ld true 3 (.t 3)),zO 43 (.mv (.t 1)),zO 44 (.ld true 8 (.t 15)),zO 45 (.call 256 [(.t 42),(.t 43),(.t 44)]),zO 41 (.mv (.t 45)),zO 46 (.ext 0 (.t 41)),zO 47 (.ext 1 (.t 41)),zO 16 (.mv (.t 46)),zO 17 (.mv (.t 47))]) (.seq (.seq (.join [(6,1),(8,1),(15,1),(1,0),(3,0),(5,0),(9,0),(10,0),(12,0),(16,0),(17,0),(20,0),(21,0),(27,0),(28,0),(29,0),(33,0),(34,0),(59,0)] (.reg [] [zO 48 (.mv (.t 16)),zO 49 (.len (.t 48)),zO 50 (.fld 1 (.t 5)),zO 51 (.ld false 1 (.t 50)),zO 52 (.bin .lss (.t 49) (.t 51)),zO 53 (.mv (.t 52)),⟨some 54,.mv (.t 17),some (53,false)⟩,⟨some 55,.len (.t 54),some (53,false)⟩,⟨some 56,.fld 1 (.t 5),some (53,false)⟩,⟨some 57,.ld false 1 (.t 56),some (53,false)⟩,⟨some 58,.bin .lss (.t 55) (.t 57),some (53,false)⟩,zO 59 (.pick (.t 53) (.c (.b true)) (.t 58))])) (.cond (.t 59) (.exit 5) .skip)) (.seq (.reg [] [zO 60 (.ld true 3 (.t 3)),zO 61 (.mv (.t 16)),zO 62 (.call 217 [(.t 60),(.t 61)]),zO 63 (.call 218 [(.t 62)]),zO 64 (.ld true 3 (.t 3)),zO 65 (.mv (.t 17)),zO 66 (.call 217 [(.t 64),(.t 65)]),zO 67 (.call 218 [(.t 66)]),zO 68 (.call 31 [(.t 63),(.t 67)]),zO 69 (.fld 5 (.t 15)),⟨none,.st 3 (.t 69) (.t 68),none⟩]) (.seq (.join [(6,1),(8,1),(1,0),(3,0),(5,0),(9,0),(10,0),(12,0),(15,0),(20,0),(21,0),(27,0),(28,0),(29,0),(33,0),(34,0),(79,0)] (.reg [] [zO 70 (.mv (.t 9)),zO 71 (.not (.t 70)),zO 72 (.mv (.t 71)),⟨some 73,.fld 5 (.t 15),some (72,false)⟩,⟨some 74,.ld true 3 (.t 73),some (72,false)⟩,⟨some 75,.fld 5 (.t 8),some (72,false)⟩,⟨some 76,.ld true 3 (.t 75),some (72,false)⟩,⟨some 77,.call 14 [(.t 74),(.t 76)],some (72,false)⟩,⟨some 78,.bin .lss (.t 77) (.c (.i .i64 0)),some (72,false)⟩,zO 79 (.pick (.t 72) (.c (.b true)) (.t 78))])) (.join [(6,1),(8,1),(1,0),(3,0),(5,0),(9,0),(10,0),(12,0),(20,0),(21,0),(27,0),(28,0),(29,0),(33,0),(34,0)] (.cond (.t 79) (.reg [] [zO 80 (.ld true 8 (.t 15)),⟨none,.st 8 (.t 8) (.t 80),none⟩,zO 9 (.mv (.c (.b true)))]) .skip))))))))) (.reg [] [zO 81 (.bin .add (.t 34) (.c (.i .i64 1))),zO 34 (.mv (.t 81))]))))
def b255_1 : PC := (.seq (.reg [] [zO 30 (.bin .lss (.t 29) (.t 28))]) (.seq (.cond (.t 30) .skip (.exit 2)) (.seq (.block 3 (.seq (.reg [] [zO 31 (.idx 3 (.t 27) (.t 29)),zO 32 (.ld true 3 (.t 31)),zO 12 (.alloc 12 [.b false,.ns 1,.ns 1]),⟨none,.st 3 (.t 12) (.t 32),none⟩]) (.seq (.reg [] [zO 33 (.build [.b false,.b false] [(0,1,(.c (.b true))),(1,1,(.c (.b false)))]),zO 34 (.mv (.c (.i .i64 0)))]) (.block 4 (.loop [(6,1),(8,1),(1,0),(3,0),(5,0),(9,0),(10,0),(12,0),(20,0),(21,0),(27,0),(28,0),(29,0),(33,0),(34,0)] [(6,1),(8,1),(1,0),(3,0),(5,0),(9,0),(10,0),(20,0),(21,0),(27,0),(28,0),(29,0)] b255_2))))) (.reg [] [zO 82 (.bin .add (.t 29) (.c (.i .i64 1))),zO 29 (.mv (.t 82))]))))
def b255_0 : PC := (.seq (.reg [] [zO 22 (.bin .lss (.t 21) (.t 20))]) (.seq (.cond (.t 22) .skip (.exit 0)) (.seq (.block 1 (.seq (.reg [] [zO 23 (.mv (.t 21)),zO 10 (.mv (.t 23))]) (.seq (.reg [] [zO 24 (.ld true 3 (.t 3)),zO 25 (.mv (.t 1)),zO 26 (.mv (.t 10)),zO 27 (.call 261 [(.t 24),(.t 25),(.t 26)]),zO 28 (.len (.t 27)),zO 29 (.mv (.c (.i .i64 0)))]) (.block 2 (.loop [(6,1),(8,1),(1,0),(3,0),(5,0),(9,0),(10,0),(20,0),(21,0),(27,0),(28,0),(29,0)] [(6,1),(8,1),(1,0),(3,0),(5,0),(9,0),(20,0),(21,0)] b255_1))))) (.reg [] [zO 83 (.bin .add (.t 21) (.c (.i .i64 1))),zO 21 (.mv (.t 83))]))))
def c255 : PC := (.seq (.reg [] [zO 3 (.box 3 3 (.t 0)),zO 5 (.box 5 2 (.t 2)),zO 6 (.alloc 6 [.i .i64 0,.b false,.ns 1,.ns 1,.b false,.b false,.ns 1,.ns 1]),zO 7 (.mv (.c (.b false)))]) (.seq (.reg [] [zO 18 (.build [.i .i64 0,.b false,.ns 1,.ns 1,.b false,.b false,.ns 1,.ns 1] []),zO 8 (.alloc 8 [.i .i64 0,.b false,.ns 1,.ns 1,.b false,.b false,.ns 1,.ns 1]),⟨none,.st 8 (.t 8) (.t 18),none⟩,zO 9 (.mv (.c (.b false)))]) (.seq (.seq (.reg [] [zO 19 (.fld 0 (.t 3)),zO 20 (.ld false 1 (.t 19)),zO 21 (.mv (.c (.i .i64 0)))]) (.block 0 (.loop [(6,1),(8,1),(1,0),(3,0),(5,0),(9,0),(20,0),(21,0)] [(6,1),(8,0),(9,0)] b255_0))) (.seq (.reg [] [zO 84 (.ld true 8 (.t 8)),zO 85 (.mv (.t 9)),⟨none,.st 8 (.t 6) (.t 84),none⟩,zO 7 (.mv (.t 85))]) .ret))))
def p255 : PF := ⟨[(.cell 6 true 8,0),(.tmp 7,0)],[],c255⟩
def b256_0 : PC := (.seq (.reg [] [zO 13 (.bin .lss (.t 12) (.t 11))]) (.seq (.cond (.t 13) .skip (.exit 0)) (.seq (.block 1 (.seq (.reg [] [zO 14 (.idx 1 (.t 10) (.t 12)),zO 15 (.ld false 1 (.t 14)),zO 9 (.mv (.t 15))]) (.seq (.reg [] [zO 16 (.ld true 8 (.t 5)),zO 17 (.fld 1 (.t 3)),zO 18 (.ld false 1 (.t 17)),zO 19 (.mv (.t 9)),zO 20 (.idx 1 (.t 18) (.t 19)),zO 21 (.ld false 1 (.t 20)),zO 22 (.fld 0 (.t 5)),zO 23 (.ld false 1 (.t 22)),zO 24 (.idx 4 (.t 21) (.t 23)),zO 25 (.ld true 4 (.t 24)),zO 26 (.call 262 [(.t 16),(.t 25)])]) (.join [(6,1),(7,1),(3,0),(5,0),(10,0),(11,0),(12,0)] (.cond (.t 26) (.reg [] [zO 27 (.mv (.t 6)),zO 28 (.mv (.t 9)),zO 29 (.bsl 29 1 [.i .i64 0] 1 [(0,(.t 28))]),zO 30 (.app 30 1 8 (.t 27) (.t 29)),zO 6 (.mv (.t 30))]) (.reg [] [zO 31 (.mv (.t 7)),zO 32 (.mv (.t 9)),zO 33 (.bsl 33 1 [.i .i64 0] 1 [(0,(.t 32))]),zO 34 (.app 34 1 8 (.t 31) (.t 33)),zO 7 (.mv (.t 34))])))))) (.reg [] [zO 35 (.bin .add (.t 12) (.c (.i .i64 1))),zO 12 (.mv (.t 35))]))))
def c256 : PC := (.seq (.reg [] [zO 3 (.box 3 3 (.t 0)),zO 5 (.box 5 8 (.t 2)),zO 6 (.mv (.c (.ns 1))),zO 7 (.mv (.c (.ns 1)))]) (.seq (.seq (.reg [] [zO 10 (.mv (.t 1)),zO 11 (.len (.t 10)),zO 12 (.mv (.c (.i .i64 0)))]) (.block 0 (.loop [(6,1),(7,1),(3,0),(5,0),(10,0),(11,0),(12,0)] [(6,0),(7,0)] b256_0))) (.seq (.reg [] [zO 36 (.mv (.t 6)),zO 37 (.mv (.t 7)),zO 6 (.mv (.t 36)),zO 7 (.mv (.t 37))]) .ret)))
def p256 : PF := ⟨[(.tmp 6,0),(.tmp 7,0)],[],c256⟩
def c257 : PC := (.seq (.reg [] [zO 1 (.box 1 3 (.t 0)),zO 2 (.alloc 2 [.b false,.ns 1])]) (.seq (.reg [] [zO 3 (.fld 2 (.t 1)),zO 4 (.ld false 1 (.t 3)),zO 5 (.call 39 [(.c (.b false)),(.t 4)]),⟨none,.st 2 (.t 2) (.t 5),none⟩]) .ret))
def p257 : PF := ⟨[(.cell 2 true 2,0)],[],c257⟩
def c258 : PC := (.seq (.reg [] [zO 2 (.alloc 2 [.b false,.ns 1])]) (.seq (.seq (.reg [] [zO 3 (.mv (.t 0)),zO 4 (.bin .lss (.t 3) (.c (.i .i64 0)))]) (.cond (.t 4) (.seq (.reg [] [zO 5 (.mv (.t 0)),zO 6 (.bin .add (.t 5) (.c (.i .i64 1))),zO 7 (.bin .sub (.c (.i .i64 0)) (.t 6)),zO 8 (.call 118 [(.t 7)]),zO 9 (.call 118 [(.c (.i .i64 1))]),zO 10 (.call 87 [(.t 8),(.t 9)]),zO 11 (.call 39 [(.c (.b true)),(.t 10)]),⟨none,.st 2 (.t 2) (.t 11),none⟩]) .ret) .skip)) (.seq (.reg [] [zO 12 (.mv (.t 0)),zO 13 (.call 118 [(.t 12)]),zO 14 (.call 39 [(.c (.b false)),(.t 13)]),⟨none,.st 2 (.t 2) (.t 14),none⟩]) .ret)))
def p258 : PF := ⟨[(.cell 2 true 2,0)],[],c258⟩
def b261_1 : PC := (.seq (.seq (.join [(7,1),(2,0),(3,0),(10,0),(11,0),(12,0),(13,0),(14,0),(41,0)] (.reg [] [zO 28 (.mv (.t 11)),zO 29 (.mv (.t 7)),zO 30 (.len (.t 29)),zO 31 (.bin .lss (.t 28) (.t 30)),zO 32 (.mv (.t 31)),⟨some 33,.mv (.t 7),some (32,true)⟩,⟨some 34,.mv (.t 11),some (32,true)⟩,⟨some 35,.idx 3 (.t 33) (.t 34),some (32,true)⟩,⟨some 36,.ld true 3 (.t 35),some (32,true)⟩,⟨some 37,.fld 1 (.t 10),some (32,true)⟩,⟨some 38,.ld true 3 (.t 37),some (32,true)⟩,⟨some 39,.call 14 [(.t 36),(.t 38)],some (32,true)⟩,⟨some 40,.bin .lss (.t 39) (.c (.i .i64 0)),some (32,true)⟩,zO 41 (.pick (.t 32) (.t 40) (.c (.b false)))])) (.cond (.t 41) .skip (.exit 2))) (.block 3 (.reg [] [zO 42 (.mv (.t 11)),zO 43 (.bin .add (.t 42) (.c (.i .i64 1))),zO 11 (.mv (.t 43))])))
def b261_0 : PC := (.seq (.reg [] [zO 15 (.bin .lss (.t 14) (.t 13))]) (.seq (.cond (.t 15) .skip (.exit 0)) (.seq (.block 1 (.seq (.reg [] [zO 16 (.idx 1 (.t 12) (.t 14)),zO 17 (.ld false 1 (.t 16)),zO 9 (.mv (.t 17))]) (.seq (.reg [] [zO 18 (.fld 1 (.t 3)),zO 19 (.ld false 1 (.t 18)),zO 20 (.mv (.t 9)),zO 21 (.idx 1 (.t 19) (.t 20)),zO 22 (.ld false 1 (.t 21)),zO 23 (.mv (.t 2)),zO 24 (.idx 4 (.t 22) (.t 23)),zO 25 (.ld true 4 (.t 24)),zO 10 (.alloc 10 [.b false,.b false,.ns 1,.ns 1]),⟨none,.st 4 (.t 10) (.t 25),none⟩]) (.seq (.seq (.reg [] [zO 26 (.fld 0 (.t 10)),zO 27 (.ld false 1 (.t 26))]) (.cond (.t 27) (.exit 1) .skip)) (.seq (.reg [] [zO 11 (.mv (.c (.i .i64 0)))]) (.seq (.block 2 (.loop [(7,1),(2,0),(3,0),(10,0),(11,0),(12,0),(13,0),(14,0)] [(7,1),(2,0),(3,0),(10,0),(11,0),(12,0),(13,0),(14,0)] b261_1)) (.seq (.seq (.join [(7,1),(2,0),(3,0),(10,0),(11,0),(12,0),(13,0),(14,0),(56,0)] (.reg [] [zO 44 (.mv (.t 11)),zO 45 (.mv (.t 7)),zO 46 (.len (.t 45)),zO 47 (.bin .lss (.t 44) (.t 46)),zO 48 (.mv (.t 47)),⟨some 49,.mv (.t 7),some (48,true)⟩,⟨some 50,.mv (.t 11),some (48,true)⟩,⟨some 51,.idx 3 (.t 49) (.t 50),some (48,true)⟩,⟨some 52,.ld true 3 (.t 51),some (48,true)⟩,⟨some 53,.fld 1 (.t 10),some (48,true)⟩,⟨some 54,.ld true 3 (.t 53),some (48,true)⟩,⟨some 55,.call 57 [(.t 52),(.t 54)],some (48,true)⟩,zO 56 (.pick (.t 48) (.t 55) (.c (.b false)))])) (.cond (.t 56) (.exit 1) .skip)) (.seq (.reg [] [zO 57 (.mv (.t 7)),zO 58 (.build [.b false,.ns 1,.ns 1] []),zO 59 (.bsl 59 3 [.b false,.ns 1,.ns 1] 1 [(0,(.t 58))]),zO 60 (.app 60 3 56 (.t 57) (.t 59)),zO 7 (.mv (.t 60))]) (.seq (.reg [] [zO 61 (.mv (.t 7)),zO 62 (.mv (.t 11)),zO 63 (.bin .add (.t 62) (.c (.i .i64 1))),zO 64 (.cut 3 (.t 61) (some (.t 63)) none none),zO 65 (.mv (.t 7)),zO 66 (.mv (.t 11)),zO 67 (.cut 3 (.t 65) (some (.t 66)) none none),zO 68 (.copy 3 (.t 64) (.t 67))]) (.reg [] [zO 69 (.mv (.t 7)),zO 70 (.mv (.t 11)),zO 71 (.fld 1 (.t 10)),zO 72 (.ld true 3 (.t 71)),zO 73 (.call 63 [(.t 72)]),zO 74 (.idx 3 (.t 69) (.t 70)),⟨none,.st 3 (.t 74) (.t 73),none⟩])))))))))) (.reg [] [zO 75 (.bin .add (.t 14) (.c (.i .i64 1))),zO 14 (.mv (.t 75))]))))
def c261 : PC := (.seq (.reg [] [zO 3 (.box 3 3 (.t 0)),zO 6 (.mv (.c (.ns 3)))]) (.seq (.reg [] [zO 7 (.mv (.c (.ns 3)))]) (.seq (.seq (.reg [] [zO 12 (.mv (.t 1)),zO 13 (.len (.t 12)),zO 14 (.mv (.c (.i .i64 0)))]) (.block 0 (.loop [(7,1),(2,0),(3,0),(12,0),(13,0),(14,0)] [(7,0)] b261_0))) (.seq (.seq (.reg [] [zO 76 (.mv (.t 7)),zO 77 (.len (.t 76)),zO 78 (.bin .gtr (.t 77) (.c (.i .i64 0)))]) (.cond (.t 78) (.seq (.reg [] [zO 79 (.mv (.t 7)),zO 80 (.cut 3 (.t 79) (some (.c (.i .i64 1))) none none),zO 6 (.mv (.t 80))]) .ret) .skip)) (.seq (.reg [] [zO 6 (.mv (.c (.ns 3)))]) .ret)))))
def p261 : PF := ⟨[(.tmp 6,0)],[],c261⟩
def c262 : PC := (.seq (.reg [] [zO 2 (.box 2 8 (.t 0)),zO 3 (.box 3 4 (.t 1)),zO 4 (.mv (.c (.b false)))]) (.seq (.seq (.reg [] [zO 5 (.fld 0 (.t 3)),zO 6 (.ld false 1 (.t 5))]) (.cond (.t 6) (.seq (.reg [] [zO 7 (.fld 4 (.t 2)),zO 8 (.ld false 1 (.t 7)),zO 4 (.mv (.t 8))]) .ret) .skip)) (.seq (.reg [] [zO 9 (.fld 1 (.t 3)),zO 10 (.ld true 3 (.t 9)),zO 11 (.fld 1 (.t 2)),zO 12 (.ld true 3 (.t 11)),zO 13 (.call 14 [(.t 10),(.t 12)]),zO 14 (.bin .lss (.t 13) (.c (.i .i64 0))),zO 4 (.mv (.t 14))]) .ret)))
def p262 : PF := ⟨[(.tmp 4,0)],[],c262⟩
def b268_2 : PC := (.seq (.seq (.reg [] [zO 103 (.mv (.t 14)),zO 104 (.mv (.t 13)),zO 105 (.len (.t 104)),zO 106 (.bin .lss (.t 103) (.t 105))]) (.cond (.t 106) .skip (.exit 2))) (.seq (.block 3 (.seq (.reg [] [zO 109 (.mv (.t 13)),zO 110 (.mv (.t 14)),zO 111 (.idx 14 (.t 109) (.t 110)),zO 112 (.fld 0 (.t 111)),zO 113 (.ld false 1 (.t 112))]) (.join [(4,1),(13,1),(2,0),(5,0),(7,0),(9,0),(12,0),(14,0)] (.cond (.t 113) (.reg [] [zO 114 (.mv (.t 13)),zO 115 (.mv (.t 14)),zO 116 (.mv (.t 13)),zO 117 (.mv (.t 14)),zO 118 (.idx 14 (.t 116) (.t 117)),zO 119 (.fld 8 (.t 118)),zO 120 (.ld true 3 (.t 119)),zO 121 (.ld true 3 (.t 7)),zO 122 (.call 94 [(.t 120),(.t 121)]),zO 123 (.idx 14 (.t 114) (.t 115)),zO 124 (.fld 8 (.t 123)),⟨none,.st 3 (.t 124) (.t 122),none⟩]) .skip)))) (.reg [] [zO 107 (.mv (.t 14)),zO 108 (.bin .add (.t 107) (.c (.i .i64 1))),zO 14 (.mv (.t 108))])))
def b268_1 : PC := (.seq (.seq (.join [(4,1),(15,4),(2,0),(5,0),(7,0),(9,0),(12,0),(13,0),(16,0),(149,0)] (.reg [] [zO 138 (.mv (.t 16)),zO 139 (.fld 1 (.t 4)),zO 140 (.ld false 1 (.t 139)),zO 141 (.len (.t 140)),zO 142 (.bin .lss (.t 138) (.t 141)),zO 143 (.mv (.t 142)),⟨some 144,.mv (.t 16),some (143,true)⟩,⟨some 145,.fld 2 (.t 4),some (143,true)⟩,⟨some 146,.ld false 1 (.t 145),some (143,true)⟩,⟨some 147,.len (.t 146),some (143,true)⟩,⟨some 148,.bin .lss (.t 144) (.t 147),some (143,true)⟩,zO 149 (.pick (.t 143) (.t 148) (.c (.b false)))])) (.cond (.t 149) .skip (.exit 4))) (.seq (.block 5 (.seq (.reg [] [zO 152 (.fld 0 (.t 4)),zO 153 (.ld false 1 (.t 152)),zO 154 (.mv (.t 13)),zO 155 (.bsl 155 1 [.ns 14] 1 [(0,(.t 154))]),zO 156 (.build [.i .i64 0,.ns 1] [(0,1,(.t 153)),(1,1,(.t 155))]),zO 157 (.fld 1 (.t 4)),zO 158 (.ld false 1 (.t 157)),zO 159 (.mv (.t 16)),zO 160 (.idx 1 (.t 158) (.t 159)),zO 161 (.ld false 1 (.t 160)),zO 162 (.call 201 [(.t 156),(.t 161)]),zO 17 (.alloc 17 [.b false,.ns 1,.ns 1]),⟨none,.st 3 (.t 17) (.t 162),none⟩]) (.reg [] [zO 163 (.fld 2 (.t 15)),zO 164 (.ld false 1 (.t 163)),zO 165 (.fld 2 (.t 4)),zO 166 (.ld false 1 (.t 165)),zO 167 (.mv (.t 16)),zO 168 (.idx 3 (.t 166) (.t 167)),zO 169 (.ld true 3 (.t 168)),zO 170 (.ld true 3 (.t 17)),zO 171 (.call 55 [(.t 169),(.t 170)]),zO 172 (.bsl 172 3 [.b false,.ns 1,.ns 1] 1 [(0,(.t 171))]),zO 173 (.app 173 3 56 (.t 164) (.t 172)),zO 174 (.fld 2 (.t 15)),⟨none,.st 1 (.t 174) (.t 173),none⟩]))) (.reg [] [zO 150 (.mv (.t 16)),zO 151 (.bin .add (.t 150) (.c (.i .i64 1))),zO 16 (.mv (.t 151))])))
def b268_0 : PC := (.seq (.seq (.reg [] [zO 90 (.mv (.t 12)),zO 91 (.mv (.t 2)),zO 92 (.bin .lss (.t 90) (.t 91))]) (.cond (.t 92) .skip (.exit 0))) (.seq (.block 1 (.seq (.reg [] [zO 95 (.ld true 3 (.t 4)),zO 96 (.ld true 3 (.t 4)),zO 97 (.call 273 [(.t 96)]),zO 98 (.fld 0 (.t 5)),zO 99 (.ld false 1 (.t 98)),zO 100 (.fld 1 (.t 5)),zO 101 (.ld false 1 (.t 100)),zO 102 (.callo 331 [(.t 95),(.t 97),(.t 99),(.t 101),(.c (.i .i64 0))] 102),zO 13 (.mv (.t 102))]) (.seq (.seq (.reg [] [zO 14 (.mv (.c (.i .i64 0)))]) (.block 2 (.loop [(4,1),(13,1),(2,0),(5,0),(7,0),(9,0),(12,0),(14,0)] [(4,1),(2,0),(5,0),(7,0),(9,0),(12,0),(13,0)] b268_2))) (.seq (.seq (.reg [] [zO 125 (.fld 1 (.t 9)),zO 126 (.ld false 1 (.t 125)),zO 127 (.mv (.t 12)),zO 128 (.idx 1 (.t 126) (.t 127)),zO 129 (.ld false 1 (.t 128)),zO 130 (.mv (.t 13)),zO 131 (.call 274 [(.t 129),(.t 130)]),zO 132 (.not (.t 131))]) (.cond (.t 132) (.seq (.reg [] [zO 8 (.mv (.c (.b false)))]) .ret) .skip)) (.seq (.reg [] [zO 133 (.fld 0 (.t 4)),zO 134 (.ld false 1 (.t 133)),zO 135 (.fld 1 (.t 4)),zO 136 (.ld false 1 (.t 135)),zO 137 (.build [.i .i64 0,.ns 1,.ns 3] [(0,1,(.t 134)),(1,1,(.t 136))]),zO 15 (.alloc 15 [.i .i64 0,.ns 1,.ns 3]),⟨none,.st 3 (.t 15) (.t 137),none⟩]) (.seq (.seq (.reg [] [zO 16 (.mv (.c (.i .i64 0)))]) (.block 4 (.loop [(4,1),(15,4),(2,0),(5,0),(7,0),(9,0),(12,0),(13,0),(16,0)] [(4,1),(2,0),(5,0),(7,0),(9,0),(12,0),(15,0)] b268_1))) (.reg [] [zO 175 (.ld true 3 (.t 15)),⟨none,.st 3 (.t 4) (.t 175),none⟩]))))))) (.reg [] [zO 93 (.mv (.t 12)),zO 94 (.bin .add (.t 93) (.c (.i .i64 1))),zO 12 (.mv (.t 94))])))
def c268 : PC := (.seq (.reg [] [zO 4 (.box 4 3 (.t 0)),zO 5 (.box 5 2 (.t 1)),zO 7 (.box 7 3 (.t 3)),zO 8 (.mv (.c (.b false)))]) (.seq (.reg [] [zO 18 (.ld true 3 (.t 4)),zO 19 (.call 167 [(.t 18)]),⟨none,.st 3 (.t 4) (.t 19),none⟩]) (.seq (.reg [] [zO 20 (.ld true 3 (.t 7)),zO 21 (.build [.b false,.b false,.ns 1,.ns 1] [(1,3,(.t 20))]),zO 22 (.bsl 22 4 [.b false,.b false,.ns 1,.ns 1] 1 [(0,(.t 21))]),zO 23 (.call 29 [(.t 22),(.c (.i .i64 1))]),zO 24 (.idx 4 (.t 23) (.c (.i .i64 0))),zO 25 (.fld 1 (.t 24)),zO 26 (.ld true 3 (.t 25)),⟨none,.st 3 (.t 7) (.t 26),none⟩]) (.seq (.seq (.join [(4,1),(2,0),(5,0),(7,0),(32,0)] (.reg [] [zO 27 (.mv (.t 2)),zO 28 (.bin .gtr (.t 27) (.c (.i .i64 3))),zO 29 (.mv (.t 28)),⟨some 30,.mv (.t 2),some (29,true)⟩,⟨some 31,.bin .leq (.t 30) (.c (.i .i64 64)),some (29,true)⟩,zO 32 (.pick (.t 29) (.t 31) (.c (.b false)))])) (.cond (.t 32) (.seq (.reg [] [zO 33 (.call 170 []),zO 8 (.mv (.t 33))]) .ret) .skip)) (.seq (.reg [] [zO 35 (.ld true 3 (.t 4)),zO 36 (.ld true 2 (.t 5)),zO 37 (.mv (.t 2)),zO 38 (.ld true 3 (.t 7)),zO 39 (.call 276 [(.t 35),(.t 36),(.t 37),(.t 38)]),zO 34 (.mv (.t 39)),zO 40 (.ext 0 (.t 34)),zO 41 (.ext 1 (.t 34)),zO 9 (.alloc 9 [.i .i64 0,.ns 1]),⟨none,.st 2 (.t 9) (.t 40),none⟩,zO 10 (.mv (.t 41))]) (.seq (.reg [] [zO 42 (.ld true 3 (.t 4)),zO 43 (.ld true 2 (.t 5)),zO 44 (.call 169 [(.t 42),(.t 43)]),zO 11 (.mv (.t 44))]) (.seq (.seq (.join [(4,1),(2,0),(5,0),(7,0),(9,0),(10,0),(11,0),(54,0)] (.reg [] [zO 45 (.mv (.t 11)),zO 46 (.bin .eql (.t 45) (.c (.i .i64 0))),zO 47 (.mv (.t 46)),⟨some 48,.mv (.t 2),some (47,true)⟩,⟨some 49,.bin .lss (.t 48) (.c (.i .i64 0)),some (47,true)⟩,⟨some 50,.mv (.t 49),some (47,true)⟩,⟨some 51,.mv (.t 2),some (50,false)⟩,⟨some 52,.bin .gtr (.t 51) (.c (.i .i64 64)),some (50,false)⟩,⟨some 53,.pick (.t 50) (.c (.b true)) (.t 52),some (47,true)⟩,zO 54 (.pick (.t 47) (.t 53) (.c (.b false)))])) (.join [(4,1),(2,0),(5,0),(7,0),(9,0),(10,0),(11,0)] (.cond (.t 54) (.reg [] [zO 11 (.mv (.c (.i .i64 16)))]) .skip))) (.seq (.seq (.reg [] [zO 55 (.mv (.t 11)),zO 56 (.bin .neq (.t 55) (.c (.i .i64 0)))]) (.cond (.t 56) (.seq (.join [(8,0)] (.reg [] [zO 57 (.mv (.t 10)),zO 58 (.mv (.t 11)),zO 59 (.bin .eql (.t 57) (.t 58)),zO 60 (.mv (.t 59)),⟨some 61,.fld 1 (.t 9),some (60,true)⟩,⟨some 62,.ld false 1 (.t 61),some (60,true)⟩,⟨some 63,.len (.t 62),some (60,true)⟩,⟨some 64,.bin .eql (.t 63) (.c (.i .i64 0)),some (60,true)⟩,zO 65 (.pick (.t 60) (.t 64) (.c (.b false))),zO 66 (.mv (.t 65)),⟨some 67,.fld 0 (.t 9),some (66,true)⟩,⟨some 68,.ld false 1 (.t 67),some (66,true)⟩,⟨some 69,.bin .eql (.t 68) (.c (.i .i64 0)),some (66,true)⟩,zO 70 (.pick (.t 66) (.t 69) (.c (.b false))),zO 71 (.mv (.t 70)),⟨some 72,.call 170 [],some (71,true)⟩,zO 73 (.pick (.t 71) (.t 72) (.c (.b false))),zO 8 (.mv (.t 73))])) .ret) .skip)) (.seq (.seq (.join [(4,1),(2,0),(5,0),(7,0),(9,0),(89,0)] (.reg [] [zO 74 (.mv (.t 10)),zO 75 (.bin .neq (.t 74) (.c (.i .i64 0))),zO 76 (.mv (.t 75)),⟨some 77,.fld 1 (.t 9),some (76,false)⟩,⟨some 78,.ld false 1 (.t 77),some (76,false)⟩,⟨some 79,.len (.t 78),some (76,false)⟩,⟨some 80,.mv (.t 2),some (76,false)⟩,⟨some 81,.bin .neq (.t 79) (.t 80),some (76,false)⟩,zO 82 (.pick (.t 76) (.c (.b true)) (.t 81)),zO 83 (.mv (.t 82)),⟨some 84,.fld 0 (.t 9),some (83,false)⟩,⟨some 85,.ld false 1 (.t 84),some (83,false)⟩,⟨some 86,.fld 0 (.t 4),some (83,false)⟩,⟨some 87,.ld false 1 (.t 86),some (83,false)⟩,⟨some 88,.bin .neq (.t 85) (.t 87),some (83,false)⟩,zO 89 (.pick (.t 83) (.c (.b true)) (.t 88))])) (.cond (.t 89) (.seq (.reg [] [zO 8 (.mv (.c (.b false)))]) .ret) .skip)) (.seq (.seq (.reg [] [zO 12 (.mv (.c (.i .i64 0)))]) (.block 0 (.loop [(4,1),(2,0),(5,0),(7,0),(9,0),(12,0)] [(8,0),(9,0)] b268_0))) (.seq (.join [(8,0)] (.reg [] [zO 176 (.ld true 2 (.t 9)),zO 177 (.call 211 [(.t 176)]),zO 178 (.mv (.t 177)),⟨some 179,.call 170 [],some (178,true)⟩,zO 180 (.pick (.t 178) (.t 179) (.c (.b false))),zO 8 (.mv (.t 180))])) .ret)))))))))))
def p268 : PF := ⟨[(.tmp 8,0)],[],c268⟩
def b272_2 : PC := (.seq (.seq (.reg [] [zO 31 (.mv (.t 12)),zO 32 (.bin .lss (.t 31) (.c (.i .i64 2)))]) (.cond (.t 32) .skip (.exit 4))) (.seq (.block 5 (.seq (.reg [] [zO 35 (.fld 1 (.t 3)),zO 36 (.ld false 1 (.t 35)),zO 37 (.mv (.t 1)),zO 38 (.mv (.t 11)),zO 39 (.idx 1 (.t 37) (.t 38)),zO 40 (.ld false 1 (.t 39)),zO 41 (.idx 1 (.t 36) (.t 40)),zO 42 (.ld false 1 (.t 41)),zO 43 (.mv (.t 10)),zO 44 (.idx 4 (.t 42) (.t 43)),zO 45 (.ld true 4 (.t 44)),zO 13 (.alloc 13 [.b false,.b false,.ns 1,.ns 1]),⟨none,.st 4 (.t 13) (.t 45),none⟩]) (.seq (.reg [] [zO 46 (.mv (.t 10)),zO 47 (.fld 1 (.t 13)),zO 48 (.ld true 3 (.t 47)),zO 49 (.mv (.t 12)),zO 50 (.bin .eql (.t 49) (.c (.i .i64 0))),zO 51 (.build [.i .i64 0,.b false,.ns 1,.ns 1,.b false,.b false,.ns 1,.ns 1] [(0,1,(.t 46)),(1,3,(.t 48)),(4,1,(.t 50))]),zO 14 (.alloc 14 [.i .i64 0,.b false,.ns 1,.ns 1,.b false,.b false,.ns 1,.ns 1]),⟨none,.st 8 (.t 14) (.t 51),none⟩]) (.seq (.seq (.join [(6,1),(8,1),(14,1),(1,0),(2,0),(3,0),(9,0),(10,0),(11,0),(12,0),(61,0)] (.reg [] [zO 52 (.fld 0 (.t 13)),zO 53 (.ld false 1 (.t 52)),zO 54 (.mv (.t 53)),⟨some 55,.ld true 3 (.t 3),some (54,false)⟩,⟨some 56,.mv (.t 1),some (54,false)⟩,⟨some 57,.ld true 8 (.t 14),some (54,false)⟩,⟨some 58,.mv (.t 2),some (54,false)⟩,⟨some 59,.call 281 [(.t 55),(.t 56),(.t 57),(.t 58)],some (54,false)⟩,⟨some 60,.not (.t 59),some (54,false)⟩,zO 61 (.pick (.t 54) (.c (.b true)) (.t 60))])) (.cond (.t 61) (.exit 5) .skip)) (.seq (.reg [] [zO 63 (.ld true 3 (.t 3)),zO 64 (.mv (.t 1)),zO 65 (.ld true 8 (.t 14)),zO 66 (.call 282 [(.t 63),(.t 64),(.t 65)]),zO 62 (.mv (.t 66)),zO 67 (.ext 0 (.t 62)),zO 68 (.ext 1 (.t 62)),zO 15 (.mv (.t 67)),zO 16 (.mv (.t 68))]) (.seq (.reg [] [zO 69 (.ld true 3 (.t 3)),zO 70 (.mv (.t 15)),zO 71 (.call 173 [(.t 69),(.t 70)]),zO 72 (.ld true 3 (.t 3)),zO 73 (.mv (.t 16)),zO 74 (.call 173 [(.t 72),(.t 73)]),zO 75 (.call 31 [(.t 71),(.t 74)]),zO 76 (.fld 5 (.t 14)),⟨none,.st 3 (.t 76) (.t 75),none⟩]) (.seq (.reg [] [zO 17 (.mv (.c (.i .i64 0)))]) (.seq (.seq (.reg [] [zO 77 (.mv (.t 9))]) (.join [(6,1),(8,1),(1,0),(2,0),(3,0),(9,0),(10,0),(11,0),(12,0),(14,0),(17,0)] (.cond (.t 77) (.reg [] [zO 78 (.fld 5 (.t 14)),zO 79 (.ld true 3 (.t 78)),zO 80 (.fld 5 (.t 8)),zO 81 (.ld true 3 (.t 80)),zO 82 (.call 14 [(.t 79),(.t 81)]),zO 17 (.mv (.t 82))]) .skip))) (.seq (.join [(6,1),(8,1),(1,0),(2,0),(3,0),(9,0),(10,0),(11,0),(12,0),(14,0),(97,0)] (.reg [] [zO 83 (.mv (.t 9)),zO 84 (.not (.t 83)),zO 85 (.mv (.t 84)),⟨some 86,.mv (.t 17),some (85,false)⟩,⟨some 87,.bin .lss (.t 86) (.c (.i .i64 0)),some (85,false)⟩,zO 88 (.pick (.t 85) (.c (.b true)) (.t 87)),zO 89 (.mv (.t 88)),⟨some 90,.mv (.t 17),some (89,false)⟩,⟨some 91,.bin .eql (.t 90) (.c (.i .i64 0)),some (89,false)⟩,⟨some 92,.mv (.t 91),some (89,false)⟩,⟨some 93,.ld true 8 (.t 14),some (92,true)⟩,⟨some 94,.ld true 8 (.t 8),some (92,true)⟩,⟨some 95,.call 283 [(.t 93),(.t 94)],some (92,true)⟩,⟨some 96,.pick (.t 92) (.t 95) (.c (.b false)),some (89,false)⟩,zO 97 (.pick (.t 89) (.c (.b true)) (.t 96))])) (.join [(6,1),(8,1),(1,0),(2,0),(3,0),(9,0),(10,0),(11,0),(12,0)] (.cond (.t 97) (.seq (.reg [] [zO 98 (.ld true 8 (.t 14)),⟨none,.st 8 (.t 8) (.t 98),none⟩]) (.reg [] [zO 9 (.mv (.c (.b true)))])) .skip))))))))))) (.reg [] [zO 33 (.mv (.t 12)),zO 34 (.bin .add (.t 33) (.c (.i .i64 1))),zO 12 (.mv (.t 34))])))
def b272_1 : PC := (.seq (.seq (.reg [] [zO 25 (.mv (.t 11)),zO 26 (.mv (.t 1)),zO 27 (.len (.t 26)),zO 28 (.bin .lss (.t 25) (.t 27))]) (.cond (.t 28) .skip (.exit 2))) (.seq (.block 3 (.seq (.reg [] [zO 12 (.mv (.c (.i .i64 0)))]) (.block 4 (.loop [(6,1),(8,1),(1,0),(2,0),(3,0),(9,0),(10,0),(11,0),(12,0)] [(6,1),(8,1),(1,0),(2,0),(3,0),(9,0),(10,0),(11,0)] b272_2)))) (.reg [] [zO 29 (.mv (.t 11)),zO 30 (.bin .add (.t 29) (.c (.i .i64 1))),zO 11 (.mv (.t 30))])))
def b272_0 : PC := (.seq (.seq (.reg [] [zO 19 (.mv (.t 10)),zO 20 (.fld 0 (.t 3)),zO 21 (.ld false 1 (.t 20)),zO 22 (.bin .lss (.t 19) (.t 21))]) (.cond (.t 22) .skip (.exit 0))) (.seq (.block 1 (.seq (.reg [] [zO 11 (.mv (.c (.i .i64 0)))]) (.block 2 (.loop [(6,1),(8,1),(1,0),(2,0),(3,0),(9,0),(10,0),(11,0)] [(6,1),(8,1),(1,0),(2,0),(3,0),(9,0),(10,0)] b272_1)))) (.reg [] [zO 23 (.mv (.t 10)),zO 24 (.bin .add (.t 23) (.c (.i .i64 1))),zO 10 (.mv (.t 24))])))
def c272 : PC := (.seq (.reg [] [zO 3 (.box 3 3 (.t 0)),zO 6 (.alloc 6 [.i .i64 0,.b false,.ns 1,.ns 1,.b false,.b false,.ns 1,.ns 1]),zO 7 (.mv (.c (.b false)))]) (.seq (.reg [] [zO 18 (.build [.i .i64 0,.b false,.ns 1,.ns 1,.b false,.b false,.ns 1,.ns 1] []),zO 8 (.alloc 8 [.i .i64 0,.b false,.ns 1,.ns 1,.b false,.b false,.ns 1,.ns 1]),⟨none,.st 8 (.t 8) (.t 18),none⟩]) (.seq (.reg [] [zO 9 (.mv (.c (.b false)))]) (.seq (.seq (.reg [] [zO 10 (.mv (.c (.i .i64 0)))]) (.block 0 (.loop [(6,1),(8,1),(1,0),(2,0),(3,0),(9,0),(10,0)] [(6,1),(8,0),(9,0)] b272_0))) (.seq (.reg [] [zO 99 (.ld true 8 (.t 8)),zO 100 (.mv (.t 9)),⟨none,.st 8 (.t 6) (.t 99),none⟩,zO 7 (.mv (.t 100))]) .ret)))))
def p272 : PF := ⟨[(.cell 6 true 8,0),(.tmp 7,0)],[],c272⟩
def b273_0 : PC := (.seq (.seq (.reg [] [zO 5 (.mv (.t 4)),zO 6 (.fld 1 (.t 1)),zO 7 (.ld false 1 (.t 6)),zO 8 (.len (.t 7)),zO 9 (.bin .lss (.t 5) (.t 8))]) (.cond (.t 9) .skip (.exit 0))) (.seq (.block 1 (.reg [] [zO 12 (.mv (.t 3)),zO 13 (.mv (.t 4)),zO 14 (.bsl 14 1 [.i .i64 0] 1 [(0,(.t 13))]),zO 15 (.app 15 1 8 (.t 12) (.t 14)),zO 3 (.mv (.t 15))])) (.reg [] [zO 10 (.mv (.t 4)),zO 11 (.bin .add (.t 10) (.c (.i .i64 1))),zO 4 (.mv (.t 11))])))
def c273 : PC := (.seq (.reg [] [zO 1 (.box 1 3 (.t 0)),zO 2 (.mv (.c (.ns 1)))]) (.seq (.reg [] [zO 3 (.mv (.c (.ns 1)))]) (.seq (.seq (.reg [] [zO 4 (.mv (.c (.i .i64 0)))]) (.block 0 (.loop [(3,1),(1,0),(4,0)] [(3,0)] b273_0))) (.seq (.reg [] [zO 16 (.mv (.t 3)),zO 2 (.mv (.t 16))]) .ret))))
def p273 : PF := ⟨[(.tmp 2,0)],[],c273⟩
def b274_0 : PC := (.seq (.seq (.reg [] [zO 13 (.mv (.t 5)),zO 14 (.mv (.t 0)),zO 15 (.len (.t 14)),zO 16 (.bin .lss (.t 13) (.t 15))]) (.cond (.t 16) .skip (.exit 0))) (.seq (.block 1 (.seq (.reg [] [zO 19 (.mv (.t 0)),zO 20 (.mv (.t 5)),zO 21 (.idx 14 (.t 19) (.t 20)),zO 22 (.ld true 14 (.t 21)),zO 6 (.alloc 6 [.b false,.i .i64 0,.b false,.ns 1,.ns 1,.i .i64 0,.i .i64 0,.b false,.b false,.ns 1,.ns 1,.b false,.ns 1,.ns 1]),⟨none,.st 14 (.t 6) (.t 22),none⟩]) (.seq (.reg [] [zO 23 (.mv (.t 1)),zO 24 (.mv (.t 5)),zO 25 (.idx 14 (.t 23) (.t 24)),zO 26 (.ld true 14 (.t 25)),zO 7 (.alloc 7 [.b false,.i .i64 0,.b false,.ns 1,.ns 1,.i .i64 0,.i .i64 0,.b false,.b false,.ns 1,.ns 1,.b false,.ns 1,.ns 1]),⟨none,.st 14 (.t 7) (.t 26),none⟩]) (.seq (.seq (.join [(0,0),(1,0),(5,0),(6,0),(7,0),(51,0)] (.reg [] [zO 27 (.fld 0 (.t 6)),zO 28 (.ld false 1 (.t 27)),zO 29 (.fld 0 (.t 7)),zO 30 (.ld false 1 (.t 29)),zO 31 (.eqb true (.t 28) (.t 30)),zO 32 (.mv (.t 31)),⟨some 33,.fld 11 (.t 6),some (32,false)⟩,⟨some 34,.ld true 3 (.t 33),some (32,false)⟩,⟨some 35,.fld 11 (.t 7),some (32,false)⟩,⟨some 36,.ld true 3 (.t 35),some (32,false)⟩,⟨some 37,.call 171 [(.t 34),(.t 36)],some (32,false)⟩,⟨some 38,.not (.t 37),some (32,false)⟩,zO 39 (.pick (.t 32) (.c (.b true)) (.t 38)),zO 40 (.mv (.t 39)),⟨some 41,.fld 0 (.t 6),some (40,false)⟩,⟨some 42,.ld false 1 (.t 41),some (40,false)⟩,⟨some 43,.mv (.t 42),some (40,false)⟩,⟨some 44,.fld 8 (.t 6),some (43,true)⟩,⟨some 45,.ld true 3 (.t 44),some (43,true)⟩,⟨some 46,.fld 8 (.t 7),some (43,true)⟩,⟨some 47,.ld true 3 (.t 46),some (43,true)⟩,⟨some 48,.call 171 [(.t 45),(.t 47)],some (43,true)⟩,⟨some 49,.not (.t 48),some (43,true)⟩,⟨some 50,.pick (.t 43) (.t 49) (.c (.b false)),some (40,false)⟩,zO 51 (.pick (.t 40) (.c (.b true)) (.t 50))])) (.cond (.t 51) (.seq (.reg [] [zO 4 (.mv (.c (.b false)))]) .ret) .skip)) (.seq (.join [(0,0),(1,0),(5,0),(90,0)] (.reg [] [zO 52 (.fld 0 (.t 6)),zO 53 (.ld false 1 (.t 52)),zO 54 (.not (.t 53)),zO 55 (.mv (.t 54)),⟨some 56,.fld 1 (.t 6),some (55,true)⟩,⟨some 57,.ld false 1 (.t 56),some (55,true)⟩,⟨some 58,.fld 1 (.t 7),some (55,true)⟩,⟨some 59,.ld false 1 (.t 58),some (55,true)⟩,⟨some 60,.bin .neq (.t 57) (.t 59),some (55,true)⟩,⟨some 61,.mv (.t 60),some (55,true)⟩,⟨some 62,.fld 5 (.t 6),some (61,false)⟩,⟨some 63,.ld false 1 (.t 62),some (61,false)⟩,⟨some 64,.fld 5 (.t 7),some (61,false)⟩,⟨some 65,.ld false 1 (.t 64),some (61,false)⟩,⟨some 66,.bin .neq (.t 63) (.t 65),some (61,false)⟩,⟨some 67,.pick (.t 61) (.c (.b true)) (.t 66),some (55,true)⟩,⟨some 68,.mv (.t 67),some (55,true)⟩,⟨some 69,.fld 6 (.t 6),some (68,false)⟩,⟨some 70,.ld false 1 (.t 69),some (68,false)⟩,⟨some 71,.fld 6 (.t 7),some (68,false)⟩,⟨some 72,.ld false 1 (.t 71),some (68,false)⟩,⟨some 73,.bin .neq (.t 70) (.t 72),some (68,false)⟩,⟨some 74,.pick (.t 68) (.c (.b true)) (.t 73),some (55,true)⟩,⟨some 75,.mv (.t 74),some (55,true)⟩,⟨some 76,.fld 7 (.t 6),some (75,false)⟩,⟨some 77,.ld false 1 (.t 76),some (75,false)⟩,⟨some 78,.fld 7 (.t 7),some (75,false)⟩,⟨some 79,.ld false 1 (.t 78),some (75,false)⟩,⟨some 80,.eqb true (.t 77) (.t 79),some (75,false)⟩,⟨some 81,.pick (.t 75) (.c (.b true)) (.t 80),some (55,true)⟩,⟨some 82,.mv (.t 81),some (55,true)⟩,⟨some 83,.fld 2 (.t 6),some (82,false)⟩,⟨some 84,.ld true 3 (.t 83),some (82,false)⟩,⟨some 85,.fld 2 (.t 7),some (82,false)⟩,⟨some 86,.ld true 3 (.t 85),some (82,false)⟩,⟨some 87,.call 171 [(.t 84),(.t 86)],some (82,false)⟩,⟨some 88,.not (.t 87),some (82,false)⟩,⟨some 89,.pick (.t 82) (.c (.b true)) (.t 88),some (55,true)⟩,zO 90 (.pick (.t 55) (.t 89) (.c (.b false)))])) (.cond (.t 90) (.seq (.reg [] [zO 4 (.mv (.c (.b false)))]) .ret) .skip)))))) (.reg [] [zO 17 (.mv (.t 5)),zO 18 (.bin .add (.t 17) (.c (.i .i64 1))),zO 5 (.mv (.t 18))])))
def c274 : PC := (.seq (.reg [] [zO 4 (.mv (.c (.b false)))]) (.seq (.seq (.reg [] [zO 8 (.mv (.t 0)),zO 9 (.len (.t 8)),zO 10 (.mv (.t 1)),zO 11 (.len (.t 10)),zO 12 (.bin .neq (.t 9) (.t 11))]) (.cond (.t 12) (.seq (.reg [] [zO 4 (.mv (.c (.b false)))]) .ret) .skip)) (.seq (.seq (.reg [] [zO 5 (.mv (.c (.i .i64 0)))]) (.block 0 (.loop [(0,0),(1,0),(5,0)] [(4,0)] b274_0))) (.seq (.reg [] [zO 4 (.mv (.c (.b true)))]) .ret))))
def p274 : PF := ⟨[(.tmp 4,0)],[],c274⟩
def b276_2 : PC := (.seq (.reg [] [zO 56 (.bin .lss (.t 55) (.t 54))]) (.seq (.cond (.t 56) .skip (.exit 2)) (.seq (.block 3 (.seq (.reg [] [zO 57 (.mv (.t 55)),zO 15 (.mv (.t 57))]) (.seq (.reg [] [zO 58 (.mv (.t 13)),zO 59 (.mv (.t 15)),zO 60 (.idx 14 (.t 58) (.t 59)),zO 61 (.fld 0 (.t 60)),zO 62 (.ld false 1 (.t 61))]) (.join [(8,1),(11,4),(12,4),(13,1),(5,0),(7,0),(44,0),(45,0),(54,0),(55,0)] (.cond (.t 62) (.reg [] [zO 63 (.mv (.t 13)),zO 64 (.mv (.t 15)),zO 65 (.mv (.t 13)),zO 66 (.mv (.t 15)),zO 67 (.idx 14 (.t 65) (.t 66)),zO 68 (.fld 8 (.t 67)),zO 69 (.ld true 3 (.t 68)),zO 70 (.ld true 3 (.t 7)),zO 71 (.call 94 [(.t 69),(.t 70)]),zO 72 (.idx 14 (.t 63) (.t 64)),zO 73 (.fld 8 (.t 72)),⟨none,.st 3 (.t 73) (.t 71),none⟩]) .skip))))) (.reg [] [zO 74 (.bin .add (.t 55) (.c (.i .i64 1))),zO 55 (.mv (.t 74))]))))
def b276_1 : PC := (.seq (.reg [] [zO 79 (.bin .lss (.t 78) (.t 77))]) (.seq (.cond (.t 79) .skip (.exit 4)) (.seq (.block 5 (.seq (.reg [] [zO 80 (.mv (.t 78)),zO 81 (.idx 1 (.t 76) (.t 78)),zO 82 (.ld false 1 (.t 81)),zO 16 (.mv (.t 80)),zO 17 (.mv (.t 82))]) (.reg [] [zO 83 (.fld 2 (.t 11)),zO 84 (.ld false 1 (.t 83)),zO 85 (.mv (.t 16)),zO 86 (.fld 2 (.t 11)),zO 87 (.ld false 1 (.t 86)),zO 88 (.mv (.t 16)),zO 89 (.idx 3 (.t 87) (.t 88)),zO 90 (.ld true 3 (.t 89)),zO 91 (.mv (.t 13)),zO 92 (.mv (.t 17)),zO 93 (.call 284 [(.t 91),(.t 92)]),zO 94 (.call 55 [(.t 90),(.t 93)]),zO 95 (.idx 3 (.t 84) (.t 85)),⟨none,.st 3 (.t 95) (.t 94),none⟩]))) (.reg [] [zO 96 (.bin .add (.t 78) (.c (.i .i64 1))),zO 78 (.mv (.t 96))]))))
def b276_0 : PC := (.seq (.reg [] [zO 46 (.bin .lss (.t 45) (.t 44))]) (.seq (.cond (.t 46) .skip (.exit 0)) (.seq (.block 1 (.seq (.reg [] [zO 48 (.ld true 3 (.t 11)),zO 49 (.ld true 2 (.t 5)),zO 50 (.callk 214 [(.t 48),(.t 49)] 50),zO 47 (.mv (.t 50)),zO 51 (.ext 0 (.t 47)),zO 52 (.ext 1 (.t 47)),zO 13 (.mv (.t 51)),zO 14 (.mv (.t 52))]) (.seq (.seq (.reg [] [zO 53 (.mv (.t 13)),zO 54 (.len (.t 53)),zO 55 (.mv (.c (.i .i64 0)))]) (.block 2 (.loop [(8,1),(11,4),(12,4),(13,1),(5,0),(7,0),(44,0),(45,0),(54,0),(55,0)] [(8,1),(11,4),(12,4),(5,0),(7,0),(13,0),(44,0),(45,0)] b276_2))) (.seq (.seq (.reg [] [zO 75 (.fld 1 (.t 11)),zO 76 (.ld false 1 (.t 75)),zO 77 (.len (.t 76)),zO 78 (.mv (.c (.i .i64 0)))]) (.block 4 (.loop [(8,1),(11,4),(12,4),(5,0),(7,0),(13,0),(44,0),(45,0),(76,0),(77,0),(78,0)] [(8,1),(11,4),(12,4),(5,0),(7,0),(13,0),(44,0),(45,0)] b276_1))) (.reg [] [zO 97 (.fld 1 (.t 12)),zO 98 (.ld false 1 (.t 97)),zO 99 (.mv (.t 13)),zO 100 (.bsl 100 1 [.ns 14] 1 [(0,(.t 99))]),zO 101 (.app 101 1 24 (.t 98) (.t 100)),zO 102 (.fld 1 (.t 12)),⟨none,.st 1 (.t 102) (.t 101),none⟩]))))) (.reg [] [zO 103 (.bin .add (.t 45) (.c (.i .i64 1))),zO 45 (.mv (.t 103))]))))
def c276 : PC := (.seq (.reg [] [zO 4 (.box 4 3 (.t 0)),zO 5 (.box 5 2 (.t 1)),zO 7 (.box 7 3 (.t 3)),zO 8 (.alloc 8 [.i .i64 0,.ns 1]),zO 9 (.mv (.c (.i .i64 0)))]) (.seq (.seq (.reg [] [zO 18 (.ld true 3 (.t 4)),zO 19 (.ld true 2 (.t 5)),zO 20 (.call 168 [(.t 18),(.t 19)]),zO 10 (.mv (.t 20))]) (.seq (.reg [] [zO 21 (.mv (.t 10)),zO 22 (.bin .neq (.t 21) (.c (.i .i64 0)))]) (.cond (.t 22) (.seq (.reg [] [zO 23 (.build [.i .i64 0,.ns 1] []),zO 24 (.mv (.t 10)),⟨none,.st 2 (.t 8) (.t 23),none⟩,zO 9 (.mv (.t 24))]) .ret) .skip))) (.seq (.seq (.join [(8,1),(2,0),(4,0),(5,0),(7,0),(30,0)] (.reg [] [zO 25 (.mv (.t 2)),zO 26 (.bin .lss (.t 25) (.c (.i .i64 0))),zO 27 (.mv (.t 26)),⟨some 28,.mv (.t 2),some (27,false)⟩,⟨some 29,.bin .gtr (.t 28) (.c (.i .i64 64)),some (27,false)⟩,zO 30 (.pick (.t 27) (.c (.b true)) (.t 29))])) (.cond (.t 30) (.seq (.reg [] [zO 31 (.build [.i .i64 0,.ns 1] []),⟨none,.st 2 (.t 8) (.t 31),none⟩,zO 9 (.mv (.c (.i .i64 16)))]) .ret) .skip)) (.seq (.reg [(36,32),(36,34)] [zO 32 (.fld 0 (.t 4)),zO 33 (.ld false 1 (.t 32)),zO 34 (.fld 1 (.t 4)),zO 35 (.ld false 1 (.t 34)),zO 36 (.bsl 36 3 [.b false,.ns 1,.ns 1] 0 []),zO 37 (.fld 2 (.t 4)),zO 38 (.ld false 1 (.t 37)),zO 39 (.app 39 3 56 (.t 36) (.t 38)),zO 40 (.build [.i .i64 0,.ns 1,.ns 3] [(0,1,(.t 33)),(1,1,(.t 35)),(2,1,(.t 39))]),zO 11 (.alloc 11 [.i .i64 0,.ns 1,.ns 3]),⟨none,.st 3 (.t 11) (.t 40),none⟩]) (.seq (.reg [] [zO 41 (.fld 0 (.t 4)),zO 42 (.ld false 1 (.t 41)),zO 43 (.build [.i .i64 0,.ns 1] [(0,1,(.t 42))]),zO 12 (.alloc 12 [.i .i64 0,.ns 1]),⟨none,.st 2 (.t 12) (.t 43),none⟩]) (.seq (.seq (.reg [] [zO 44 (.mv (.t 2)),zO 45 (.mv (.c (.i .i64 0)))]) (.block 0 (.loop [(8,1),(11,4),(12,4),(5,0),(7,0),(44,0),(45,0)] [(8,1),(12,0)] b276_0))) (.seq (.reg [] [zO 104 (.ld true 2 (.t 12)),⟨none,.st 2 (.t 8) (.t 104),none⟩,zO 9 (.mv (.c (.i .i64 0)))]) .ret)))))))
def p276 : PF := ⟨[(.cell 8 true 2,0),(.tmp 9,0)],[],c276⟩
def b281_0 : PC := (.seq (.seq (.reg [] [zO 16 (.mv (.t 11)),zO 17 (.mv (.t 1)),zO 18 (.len (.t 17)),zO 19 (.bin .lss (.t 16) (.t 18))]) (.cond (.t 19) .skip (.exit 0))) (.seq (.block 1 (.seq (.reg [] [zO 22 (.fld 1 (.t 4)),zO 23 (.ld false 1 (.t 22)),zO 24 (.mv (.t 1)),zO 25 (.mv (.t 11)),zO 26 (.idx 1 (.t 24) (.t 25)),zO 27 (.ld false 1 (.t 26)),zO 28 (.idx 1 (.t 23) (.t 27)),zO 29 (.ld false 1 (.t 28)),zO 30 (.fld 0 (.t 6)),zO 31 (.ld false 1 (.t 30)),zO 32 (.idx 4 (.t 29) (.t 31)),zO 33 (.ld true 4 (.t 32)),zO 12 (.alloc 12 [.b false,.b false,.ns 1,.ns 1]),⟨none,.st 4 (.t 12) (.t 33),none⟩]) (.seq (.reg [] [zO 34 (.fld 0 (.t 12)),zO 35 (.ld false 1 (.t 34)),zO 36 (.not (.t 35))]) (.join [(1,0),(3,0),(4,0),(6,0),(9,0),(10,0),(11,0)] (.cond (.t 36) (.seq (.reg [] [zO 37 (.fld 1 (.t 12)),zO 38 (.ld true 3 (.t 37)),zO 39 (.fld 1 (.t 6)),zO 40 (.ld true 3 (.t 39)),zO 41 (.call 14 [(.t 38),(.t 40)]),zO 13 (.mv (.t 41))]) (.seq (.join [(1,0),(3,0),(4,0),(6,0),(9,0),(10,0),(11,0),(13,0)] (.reg [] [zO 42 (.mv (.t 9)),zO 43 (.mv (.t 42)),⟨some 44,.mv (.t 13),some (43,false)⟩,⟨some 45,.bin .eql (.t 44) (.c (.i .i64 0)),some (43,false)⟩,zO 46 (.pick (.t 43) (.c (.b true)) (.t 45)),zO 9 (.mv (.t 46))])) (.join [(1,0),(3,0),(4,0),(6,0),(9,0),(10,0),(11,0)] (.reg [] [zO 47 (.mv (.t 10)),zO 48 (.mv (.t 47)),⟨some 49,.mv (.t 13),some (48,false)⟩,⟨some 50,.bin .lss (.t 49) (.c (.i .i64 0)),some (48,false)⟩,zO 51 (.pick (.t 48) (.c (.b true)) (.t 50)),zO 10 (.mv (.t 51))])))) .skip))))) (.reg [] [zO 20 (.mv (.t 11)),zO 21 (.bin .add (.t 20) (.c (.i .i64 1))),zO 11 (.mv (.t 21))])))
def c281 : PC := (.seq (.reg [] [zO 4 (.box 4 3 (.t 0)),zO 6 (.box 6 8 (.t 2)),zO 8 (.mv (.c (.b false)))]) (.seq (.reg [] [zO 9 (.mv (.c (.b false))),zO 10 (.mv (.c (.b false)))]) (.seq (.seq (.reg [] [zO 11 (.mv (.c (.i .i64 0)))]) (.block 0 (.loop [(1,0),(3,0),(4,0),(6,0),(9,0),(10,0),(11,0)] [(1,0),(3,0),(4,0),(6,0),(9,0),(10,0)] b281_0))) (.seq (.reg [] [zO 53 (.ld true 3 (.t 4)),zO 54 (.mv (.t 1)),zO 55 (.ld true 8 (.t 6)),zO 56 (.call 282 [(.t 53),(.t 54),(.t 55)]),zO 52 (.mv (.t 56)),zO 57 (.ext 0 (.t 52)),zO 58 (.ext 1 (.t 52)),zO 14 (.mv (.t 57)),zO 15 (.mv (.t 58))]) (.seq (.join [(8,0)] (.reg [] [zO 59 (.mv (.t 9)),zO 60 (.mv (.t 59)),⟨some 61,.mv (.t 10),some (60,true)⟩,zO 62 (.pick (.t 60) (.t 61) (.c (.b false))),zO 63 (.mv (.t 62)),⟨some 64,.mv (.t 14),some (63,true)⟩,⟨some 65,.len (.t 64),some (63,true)⟩,⟨some 66,.mv (.t 3),some (63,true)⟩,⟨some 67,.bin .geq (.t 65) (.t 66),some (63,true)⟩,zO 68 (.pick (.t 63) (.t 67) (.c (.b false))),zO 69 (.mv (.t 68)),⟨some 70,.mv (.t 15),some (69,true)⟩,⟨some 71,.len (.t 70),some (69,true)⟩,⟨some 72,.mv (.t 3),some (69,true)⟩,⟨some 73,.bin .geq (.t 71) (.t 72),some (69,true)⟩,zO 74 (.pick (.t 69) (.t 73) (.c (.b false))),zO 8 (.mv (.t 74))])) .ret)))))
def p281 : PF := ⟨[(.tmp 8,0)],[],c281⟩
def b282_0 : PC := (.seq (.seq (.reg [] [zO 19 (.mv (.t 11)),zO 20 (.mv (.t 1)),zO 21 (.len (.t 20)),zO 22 (.bin .lss (.t 19) (.t 21))]) (.cond (.t 22) .skip (.exit 0))) (.seq (.block 1 (.seq (.reg [] [zO 25 (.ld true 14 (.t 8)),zO 26 (.fld 1 (.t 3)),zO 27 (.ld false 1 (.t 26)),zO 28 (.mv (.t 1)),zO 29 (.mv (.t 11)),zO 30 (.idx 1 (.t 28) (.t 29)),zO 31 (.ld false 1 (.t 30)),zO 32 (.idx 1 (.t 27) (.t 31)),zO 33 (.ld false 1 (.t 32)),zO 34 (.fld 0 (.t 5)),zO 35 (.ld false 1 (.t 34)),zO 36 (.idx 4 (.t 33) (.t 35)),zO 37 (.ld true 4 (.t 36)),zO 38 (.call 230 [(.t 25),(.t 37)])]) (.join [(9,1),(10,1),(1,0),(3,0),(5,0),(8,0),(11,0)] (.cond (.t 38) (.reg [] [zO 39 (.mv (.t 9)),zO 40 (.mv (.t 1)),zO 41 (.mv (.t 11)),zO 42 (.idx 1 (.t 40) (.t 41)),zO 43 (.ld false 1 (.t 42)),zO 44 (.bsl 44 1 [.i .i64 0] 1 [(0,(.t 43))]),zO 45 (.app 45 1 8 (.t 39) (.t 44)),zO 9 (.mv (.t 45))]) (.reg [] [zO 46 (.mv (.t 10)),zO 47 (.mv (.t 1)),zO 48 (.mv (.t 11)),zO 49 (.idx 1 (.t 47) (.t 48)),zO 50 (.ld false 1 (.t 49)),zO 51 (.bsl 51 1 [.i .i64 0] 1 [(0,(.t 50))]),zO 52 (.app 52 1 8 (.t 46) (.t 51)),zO 10 (.mv (.t 52))]))))) (.reg [] [zO 23 (.mv (.t 11)),zO 24 (.bin .add (.t 23) (.c (.i .i64 1))),zO 11 (.mv (.t 24))])))
def c282 : PC := (.seq (.reg [] [zO 3 (.box 3 3 (.t 0)),zO 5 (.box 5 8 (.t 2)),zO 6 (.mv (.c (.ns 1))),zO 7 (.mv (.c (.ns 1)))]) (.seq (.reg [] [zO 12 (.fld 0 (.t 5)),zO 13 (.ld false 1 (.t 12)),zO 14 (.fld 1 (.t 5)),zO 15 (.ld true 3 (.t 14)),zO 16 (.fld 4 (.t 5)),zO 17 (.ld false 1 (.t 16)),zO 18 (.build [.b false,.i .i64 0,.b false,.ns 1,.ns 1,.i .i64 0,.i .i64 0,.b false,.b false,.ns 1,.ns 1,.b false,.ns 1,.ns 1] [(1,1,(.t 13)),(2,3,(.t 15)),(7,1,(.t 17))]),zO 8 (.alloc 8 [.b false,.i .i64 0,.b false,.ns 1,.ns 1,.i .i64 0,.i .i64 0,.b false,.b false,.ns 1,.ns 1,.b false,.ns 1,.ns 1]),⟨none,.st 14 (.t 8) (.t 18),none⟩]) (.seq (.reg [] [zO 9 (.mv (.c (.ns 1))),zO 10 (.mv (.c (.ns 1)))]) (.seq (.seq (.reg [] [zO 11 (.mv (.c (.i .i64 0)))]) (.block 0 (.loop [(9,1),(10,1),(1,0),(3,0),(5,0),(8,0),(11,0)] [(9,0),(10,0)] b282_0))) (.seq (.reg [] [zO 53 (.mv (.t 9)),zO 54 (.mv (.t 10)),zO 6 (.mv (.t 53)),zO 7 (.mv (.t 54))]) .ret)))))
def p282 : PF := ⟨[(.tmp 6,0),(.tmp 7,0)],[],c282⟩
def c283 : PC := (.seq (.reg [] [zO 2 (.box 2 8 (.t 0)),zO 3 (.box 3 8 (.t 1)),zO 4 (.mv (.c (.b false)))]) (.seq (.seq (.reg [] [zO 6 (.fld 0 (.t 2)),zO 7 (.ld false 1 (.t 6)),zO 8 (.fld 0 (.t 3)),zO 9 (.ld false 1 (.t 8)),zO 10 (.bin .neq (.t 7) (.t 9))]) (.cond (.t 10) (.seq (.reg [] [zO 11 (.fld 0 (.t 2)),zO 12 (.ld false 1 (.t 11)),zO 13 (.fld 0 (.t 3)),zO 14 (.ld false 1 (.t 13)),zO 15 (.bin .lss (.t 12) (.t 14)),zO 4 (.mv (.t 15))]) .ret) .skip)) (.seq (.reg [] [zO 16 (.fld 1 (.t 2)),zO 17 (.ld true 3 (.t 16)),zO 18 (.fld 1 (.t 3)),zO 19 (.ld true 3 (.t 18)),zO 20 (.call 14 [(.t 17),(.t 19)]),zO 5 (.mv (.t 20))]) (.seq (.join [(4,0)] (.reg [] [zO 21 (.mv (.t 5)),zO 22 (.bin .lss (.t 21) (.c (.i .i64 0))),zO 23 (.mv (.t 22)),⟨some 24,.mv (.t 5),some (23,false)⟩,⟨some 25,.bin .eql (.t 24) (.c (.i .i64 0)),some (23,false)⟩,⟨some 26,.mv (.t 25),some (23,false)⟩,⟨some 27,.fld 4 (.t 2),some (26,true)⟩,⟨some 28,.ld false 1 (.t 27),some (26,true)⟩,⟨some 29,.pick (.t 26) (.t 28) (.c (.b false)),some (23,false)⟩,⟨some 30,.mv (.t 29),some (23,false)⟩,⟨some 31,.fld 4 (.t 3),some (30,true)⟩,⟨some 32,.ld false 1 (.t 31),some (30,true)⟩,⟨some 33,.not (.t 32),some (30,true)⟩,⟨some 34,.pick (.t 30) (.t 33) (.c (.b false)),some (23,false)⟩,zO 35 (.pick (.t 23) (.c (.b true)) (.t 34)),zO 4 (.mv (.t 35))])) .ret))))
def p283 : PF := ⟨[(.tmp 4,0)],[],c283⟩
def b284_0 : PC := (.seq (.seq (.reg [] [zO 7 (.mv (.t 0)),zO 8 (.mv (.t 5)),zO 9 (.idx 14 (.t 7) (.t 8)),zO 10 (.fld 0 (.t 9)),zO 11 (.ld false 1 (.t 10)),zO 12 (.not (.t 11))]) (.cond (.t 12) .skip (.exit 0))) (.block 1 (.seq (.reg [] [zO 13 (.mv (.t 0)),zO 14 (.mv (.t 5)),zO 15 (.idx 14 (.t 13) (.t 14)),zO 16 (.ld true 14 (.t 15)),zO 6 (.alloc 6 [.b false,.i .i64 0,.b false,.ns 1,.ns 1,.i .i64 0,.i .i64 0,.b false,.b false,.ns 1,.ns 1,.b false,.ns 1,.ns 1]),⟨none,.st 14 (.t 6) (.t 16),none⟩]) (.seq (.reg [] [zO 17 (.fld 6 (.t 6)),zO 18 (.ld false 1 (.t 17)),zO 5 (.mv (.t 18))]) (.seq (.reg [] [zO 19 (.fld 1 (.t 6)),zO 20 (.ld false 1 (.t 19)),zO 21 (.fld 2 (.t 6)),zO 22 (.ld true 3 (.t 21)),zO 23 (.fld 7 (.t 6)),zO 24 (.ld false 1 (.t 23)),zO 25 (.build [.i .i64 0,.b false,.ns 1,.ns 1,.b false,.b false,.ns 1,.ns 1] [(0,1,(.t 20)),(1,3,(.t 22)),(4,1,(.t 24))]),zO 26 (.mv (.t 1)),zO 27 (.fld 1 (.t 6)),zO 28 (.ld false 1 (.t 27)),zO 29 (.idx 4 (.t 26) (.t 28)),zO 30 (.ld true 4 (.t 29)),zO 31 (.call 262 [(.t 25),(.t 30)])]) (.join [(4,1),(0,0),(1,0),(5,0)] (.cond (.t 31) (.reg [] [zO 32 (.fld 5 (.t 6)),zO 33 (.ld false 1 (.t 32)),zO 5 (.mv (.t 33))]) .skip)))))))
def c284 : PC := (.seq (.reg [] [zO 4 (.alloc 4 [.b false,.ns 1,.ns 1])]) (.seq (.reg [] [zO 5 (.mv (.c (.i .i64 0)))]) (.seq (.block 0 (.loop [(4,1),(0,0),(1,0),(5,0)] [(4,1),(0,0),(5,0)] b284_0)) (.seq (.reg [] [zO 34 (.mv (.t 0)),zO 35 (.mv (.t 5)),zO 36 (.idx 14 (.t 34) (.t 35)),zO 37 (.fld 8 (.t 36)),zO 38 (.ld true 3 (.t 37)),⟨none,.st 3 (.t 4) (.t 38),none⟩]) .ret))))
def p284 : PF := ⟨[(.cell 4 true 3,0)],[],c284⟩
def b285_0 : PC := (.seq (.seq (.join [(200000,2),(0,1),(3,0),(15,0)] (.reg [] [zO 6 (.mv (.t 3)),zO 7 (.bin .gtr (.t 6) (.c (.i .i64 0))),zO 8 (.mv (.t 7)),⟨some 9,.mv (.t 0),some (8,true)⟩,⟨some 10,.mv (.t 3),some (8,true)⟩,⟨some 11,.bin .sub (.t 10) (.c (.i .i64 1)),some (8,true)⟩,⟨some 12,.idx 1 (.t 9) (.t 11),some (8,true)⟩,⟨some 13,.ld false 1 (.t 12),some (8,true)⟩,⟨some 14,.bin .eql (.t 13) (.c (.i .u64 0)),some (8,true)⟩,zO 15 (.pick (.t 8) (.t 14) (.c (.b false)))])) (.cond (.t 15) .skip (.exit 0))) (.block 1 (.reg [] [zO 16 (.mv (.t 3)),zO 17 (.bin .sub (.t 16) (.c (.i .i64 1))),zO 3 (.mv (.t 17))])))
def c285 : PC := (.seq (.reg [] [zO 2 (.mv (.c (.ns 1)))]) (.seq (.reg [] [zO 4 (.mv (.t 0)),zO 5 (.len (.t 4)),zO 3 (.mv (.t 5))]) (.seq (.block 0 (.loop [(200000,2),(0,1),(3,0)] [(200000,2),(0,1),(3,0)] b285_0)) (.seq (.seq (.reg [] [zO 18 (.mv (.t 3)),zO 19 (.bin .eql (.t 18) (.c (.i .i64 0)))]) (.cond (.t 19) (.seq (.reg [] [zO 2 (.mv (.c (.ns 1)))]) .ret) .skip)) (.seq (.reg [] [zO 20 (.mv (.t 0)),zO 21 (.mv (.t 3)),zO 22 (.cut 1 (.t 20) none (some (.t 21)) none),zO 2 (.mv (.t 22))]) .ret)))))
def p285 : PF := ⟨[(.tmp 2,1)],[0],c285⟩
def c331 : PC := (.seq (.reg [] [zO 5 (.box 5 3 (.t 0)),zO 10 (.mv (.c (.ns 14)))]) (.seq (.reg [] [zO 19 (.ld true 3 (.t 5)),zO 20 (.mv (.t 1)),zO 21 (.call 219 [(.t 19),(.t 20)]),zO 22 (.mv (.t 1)),zO 23 (.len (.t 22)),zO 24 (.call 68 [(.t 23)]),zO 25 (.build [.b false,.i .i64 0,.b false,.ns 1,.ns 1,.i .i64 0,.i .i64 0,.b false,.b false,.ns 1,.ns 1,.b false,.ns 1,.ns 1] [(0,1,(.c (.b true))),(8,3,(.t 21)),(11,3,(.t 24))]),zO 11 (.alloc 11 [.b false,.i .i64 0,.b false,.ns 1,.ns 1,.i .i64 0,.i .i64 0,.b false,.b false,.ns 1,.ns 1,.b false,.ns 1,.ns 1]),⟨none,.st 14 (.t 11) (.t 25),none⟩]) (.seq (.reg [] [zO 27 (.ld true 3 (.t 5)),zO 28 (.mv (.t 1)),zO 29 (.mv (.t 3)),zO 30 (.call 272 [(.t 27),(.t 28),(.t 29)]),zO 26 (.mv (.t 30)),zO 31 (.ext 0 (.t 26)),zO 32 (.ext 1 (.t 26)),zO 12 (.alloc 12 [.i .i64 0,.b false,.ns 1,.ns 1,.b false,.b false,.ns 1,.ns 1]),⟨none,.st 8 (.t 12) (.t 31),none⟩,zO 13 (.mv (.t 32))]) (.seq (.seq (.join [(1,0),(2,0),(3,0),(4,0),(5,0),(11,0),(12,0),(47,0)] (.reg [] [zO 33 (.mv (.t 2)),zO 34 (.bin .eql (.t 33) (.c (.i .i64 0))),zO 35 (.mv (.t 34)),⟨some 36,.mv (.t 13),some (35,false)⟩,⟨some 37,.not (.t 36),some (35,false)⟩,zO 38 (.pick (.t 35) (.c (.b true)) (.t 37)),zO 39 (.mv (.t 38)),⟨some 40,.fld 5 (.t 12),some (39,false)⟩,⟨some 41,.ld true 3 (.t 40),some (39,false)⟩,⟨some 42,.ld true 3 (.t 5),some (39,false)⟩,⟨some 43,.mv (.t 1),some (39,false)⟩,⟨some 44,.call 173 [(.t 42),(.t 43)],some (39,false)⟩,⟨some 45,.call 14 [(.t 41),(.t 44)],some (39,false)⟩,⟨some 46,.bin .geq (.t 45) (.c (.i .i64 0)),some (39,false)⟩,zO 47 (.pick (.t 39) (.c (.b true)) (.t 46))])) (.cond (.t 47) (.seq (.reg [] [zO 48 (.ld true 14 (.t 11)),zO 49 (.bsl 49 14 [.b false,.i .i64 0,.b false,.ns 1,.ns 1,.i .i64 0,.i .i64 0,.b false,.b false,.ns 1,.ns 1,.b false,.ns 1,.ns 1] 1 [(0,(.t 48))]),zO 10 (.mv (.t 49))]) .ret) .skip)) (.seq (.reg [] [zO 51 (.ld true 3 (.t 5)),zO 52 (.mv (.t 1)),zO 53 (.ld true 8 (.t 12)),zO 54 (.call 282 [(.t 51),(.t 52),(.t 53)]),zO 50 (.mv (.t 54)),zO 55 (.ext 0 (.t 50)),zO 56 (.ext 1 (.t 50)),zO 14 (.mv (.t 55)),zO 15 (.mv (.t 56))]) (.seq (.reg [] [zO 57 (.ld true 3 (.t 5)),zO 58 (.mv (.t 14)),zO 59 (.mv (.t 2)),zO 60 (.bin .sub (.t 59) (.c (.i .i64 1))),zO 61 (.mv (.t 3)),zO 62 (.mv (.t 4)),zO 63 (.bin .add (.t 62) (.c (.i .i64 1))),zO 64 (.callo 331 [(.t 57),(.t 58),(.t 60),(.t 61),(.t 63)] 64),zO 16 (.mv (.t 64))]) (.seq (.reg [] [zO 65 (.ld true 3 (.t 5)),zO 66 (.mv (.t 15)),zO 67 (.mv (.t 2)),zO 68 (.bin .sub (.t 67) (.c (.i .i64 1))),zO 69 (.mv (.t 3)),zO 70 (.mv (.t 4)),zO 71 (.bin .add (.t 70) (.c (.i .i64 1))),zO 72 (.mv (.t 16)),zO 73 (.len (.t 72)),zO 74 (.bin .add (.t 71) (.t 73)),zO 75 (.callo 331 [(.t 65),(.t 66),(.t 68),(.t 69),(.t 74)] 75),zO 17 (.mv (.t 75))]) (.seq (.reg [] [zO 76 (.fld 0 (.t 12)),zO 77 (.ld false 1 (.t 76)),zO 78 (.fld 1 (.t 12)),zO 79 (.ld true 3 (.t 78)),zO 80 (.fld 4 (.t 12)),zO 81 (.ld false 1 (.t 80)),zO 82 (.fld 11 (.t 11)),zO 83 (.ld true 3 (.t 82)),zO 84 (.mv (.t 4)),zO 85 (.bin .add (.t 84) (.c (.i .i64 1))),zO 86 (.mv (.t 4)),zO 87 (.bin .add (.t 86) (.c (.i .i64 1))),zO 88 (.mv (.t 16)),zO 89 (.len (.t 88)),zO 90 (.bin .add (.t 87) (.t 89)),zO 91 (.build [.b false,.i .i64 0,.b false,.ns 1,.ns 1,.i .i64 0,.i .i64 0,.b false,.b false,.ns 1,.ns 1,.b false,.ns 1,.ns 1] [(1,1,(.t 77)),(2,3,(.t 79)),(7,1,(.t 81)),(11,3,(.t 83)),(5,1,(.t 85)),(6,1,(.t 90))]),zO 18 (.alloc 18 [.b false,.i .i64 0,.b false,.ns 1,.ns 1,.i .i64 0,.i .i64 0,.b false,.b false,.ns 1,.ns 1,.b false,.ns 1,.ns 1]),⟨none,.st 14 (.t 18) (.t 91),none⟩]) (.seq (.reg [] [zO 92 (.ld true 14 (.t 18)),zO 93 (.bsl 93 14 [.b false,.i .i64 0,.b false,.ns 1,.ns 1,.i .i64 0,.i .i64 0,.b false,.b false,.ns 1,.ns 1,.b false,.ns 1,.ns 1] 1 [(0,(.t 92))]),zO 94 (.mv (.t 16)),zO 95 (.app 95 14 208 (.t 93) (.t 94)),zO 96 (.mv (.t 17)),zO 97 (.app 97 14 208 (.t 95) (.t 96)),zO 10 (.mv (.t 97))]) .ret)))))))))
def p331 : PF := ⟨[(.tmp 10,1)],[],c331⟩
def FF : Nat → Option PF
 | 14 => some p14
 | 29 => some p29
 | 31 => some p31
 | 38 => some p38
 | 39 => some p39
 | 40 => some p40
 | 43 => some p43
 | 47 => some p47
 | 54 => some p54
 | 55 => some p55
 | 56 => some p56
 | 57 => some p57
 | 63 => some p63
 | 64 => some p64
 | 65 => some p65
 | 66 => some p66
 | 68 => some p68
 | 71 => some p71
 | 72 => some p72
 | 73 => some p73
 | 74 => some p74
 | 75 => some p75
 | 76 => some p76
 | 77 => some p77
 | 79 => some p79
 | 80 => some p80
 | 81 => some p81
 | 82 => some p82
 | 83 => some p83
 | 86 => some p86
 | 87 => some p87
 | 88 => some p88
 | 89 => some p89
 | 90 => some p90
 | 91 => some p91
 | 92 => some p92
 | 94 => some p94
 | 95 => some p95
 | 96 => some p96
 | 97 => some p97
 | 106 => some p106
 | 107 => some p107
 | 108 => some p108
 | 109 => some p109
 | 110 => some p110
 | 111 => some p111
 | 112 => some p112
 | 113 => some p113
 | 114 => some p114
 | 115 => some p115
 | 116 => some p116
 | 117 => some p117
 | 118 => some p118
 | 119 => some p119
 | 120 => some p120
 | 122 => some p122
 | 127 => some p127
 | 128 => some p128
 | 129 => some p129
 | 130 => some p130
 | 131 => some p131
 | 137 => some p137
 | 138 => some p138
 | 139 => some p139
 | 140 => some p140
 | 141 => some p141
 | 162 => some p162
 | 167 => some p167
 | 168 => some p168
 | 169 => some p169
 | 170 => some p170
 | 171 => some p171
 | 173 => some p173
 | 201 => some p201
 | 206 => some p206
 | 211 => some p211
 | 214 => some p214
 | 215 => some p215
 | 216 => some p216
 | 217 => some p217
 | 218 => some p218
 | 219 => some p219
 | 230 => some p230
 | 231 => some p231
 | 237 => some p237
 | 238 => some p238
 | 239 => some p239
 | 240 => some p240
 | 241 => some p241
 | 242 => some p242
 | 246 => some p246
 | 248 => some p248
 | 249 => some p249
 | 250 => some p250
 | 251 => some p251
 | 252 => some p252
 | 253 => some p253
 | 254 => some p254
 | 255 => some p255
 | 256 => some p256
 | 257 => some p257
 | 258 => some p258
 | 261 => some p261
 | 262 => some p262
 | 268 => some p268
 | 272 => some p272
 | 273 => some p273
 | 274 => some p274
 | 276 => some p276
 | 281 => some p281
 | 282 => some p282
 | 283 => some p283
 | 284 => some p284
 | 285 => some p285
 | 331 => some p331
 | _ => none
theorem F14 : FF 14 = some ⟨[(.tmp 4,0)],[],c14⟩ := rfl
theorem F29 : FF 29 = some ⟨[(.tmp 4,0)],[],c29⟩ := rfl
theorem F31 : FF 31 = some ⟨[(.cell 4 true 3,0)],[],c31⟩ := rfl
theorem F38 : FF 38 = some ⟨[(.cell 2 true 2,0)],[],c38⟩ := rfl
theorem F39 : FF 39 = some ⟨[(.cell 4 true 2,0)],[],c39⟩ := rfl
theorem F40 : FF 40 = some ⟨[(.tmp 4,0)],[],c40⟩ := rfl
theorem F43 : FF 43 = some ⟨[(.cell 4 true 2,0)],[],c43⟩ := rfl
theorem F47 : FF 47 = some ⟨[(.tmp 4,0)],[],c47⟩ := rfl
theorem F54 : FF 54 = some ⟨[(.cell 0 true 3,0)],[],c54⟩ := rfl
theorem F55 : FF 55 = some ⟨[(.cell 4 true 3,0)],[],c55⟩ := rfl
theorem F56 : FF 56 = some ⟨[(.cell 0 true 3,0)],[],c56⟩ := rfl
theorem F57 : FF 57 = some ⟨[(.tmp 4,0)],[],c57⟩ := rfl
theorem F63 : FF 63 = some ⟨[(.cell 2 true 3,0)],[],c63⟩ := rfl
theorem F64 : FF 64 = some ⟨[(.tmp 4,0)],[],c64⟩ := rfl
theorem F65 : FF 65 = some ⟨[(.cell 4 true 2,0)],[],c65⟩ := rfl
theorem F66 : FF 66 = some ⟨[(.cell 2 true 2,0)],[],c66⟩ := rfl
theorem F68 : FF 68 = some ⟨[(.cell 2 true 3,0)],[],c68⟩ := rfl
theorem F71 : FF 71 = some ⟨[(.tmp 4,0)],[],c71⟩ := rfl
theorem F72 : FF 72 = some ⟨[(.tmp 4,0)],[],c72⟩ := rfl
theorem F73 : FF 73 = some ⟨[(.tmp 2,0)],[],c73⟩ := rfl
theorem F74 : FF 74 = some ⟨[(.cell 2 true 3,0)],[],c74⟩ := rfl
theorem F75 : FF 75 = some ⟨[(.cell 4 true 3,0)],[],c75⟩ := rfl
theorem F76 : FF 76 = some ⟨[(.cell 4 true 2,0)],[],c76⟩ := rfl
theorem F77 : FF 77 = some ⟨[(.tmp 4,0)],[],c77⟩ := rfl
theorem F79 : FF 79 = some ⟨[(.tmp 2,0)],[],c79⟩ := rfl
theorem F80 : FF 80 = some ⟨[(.tmp 4,0),(.tmp 5,0)],[],c80⟩ := rfl
theorem F81 : FF 81 = some ⟨[(.cell 2 true 2,0)],[],c81⟩ := rfl
theorem F82 : FF 82 = some ⟨[(.cell 2 true 2,0)],[],c82⟩ := rfl
theorem F83 : FF 83 = some ⟨[(.tmp 2,0)],[],c83⟩ := rfl
theorem F86 : FF 86 = some ⟨[(.cell 2 true 2,0)],[],c86⟩ := rfl
theorem F87 : FF 87 = some ⟨[(.tmp 4,0)],[],c87⟩ := rfl
theorem F88 : FF 88 = some ⟨[(.tmp 4,0)],[],c88⟩ := rfl
theorem F89 : FF 89 = some ⟨[(.tmp 4,0)],[],c89⟩ := rfl
theorem F90 : FF 90 = some ⟨[(.tmp 4,0)],[],c90⟩ := rfl
theorem F91 : FF 91 = some ⟨[(.tmp 2,0)],[],c91⟩ := rfl
theorem F92 : FF 92 = some ⟨[(.cell 4 true 2,0)],[],c92⟩ := rfl
theorem F94 : FF 94 = some ⟨[(.cell 4 true 3,0)],[],c94⟩ := rfl
theorem F95 : FF 95 = some ⟨[(.cell 4 true 3,0)],[],c95⟩ := rfl
theorem F96 : FF 96 = some ⟨[(.cell 2 true 3,0)],[],c96⟩ := rfl
theorem F97 : FF 97 = some ⟨[(.tmp 6,0)],[],c97⟩ := rfl
theorem F106 : FF 106 = some ⟨[(.tmp 2,0)],[],c106⟩ := rfl
theorem F107 : FF 107 = some ⟨[(.tmp 4,0)],[],c107⟩ := rfl
theorem F108 : FF 108 = some ⟨[(.tmp 2,0)],[],c108⟩ := rfl
theorem F109 : FF 109 = some ⟨[(.tmp 4,0)],[],c109⟩ := rfl
theorem F110 : FF 110 = some ⟨[(.tmp 4,0)],[],c110⟩ := rfl
theorem F111 : FF 111 = some ⟨[(.tmp 4,1)],[],c111⟩ := rfl
theorem F112 : FF 112 = some ⟨[(.tmp 4,0),(.tmp 5,0)],[],c112⟩ := rfl
theorem F113 : FF 113 = some ⟨[(.tmp 4,0)],[],c113⟩ := rfl
theorem F114 : FF 114 = some ⟨[(.tmp 2,0)],[],c114⟩ := rfl
theorem F115 : FF 115 = some ⟨[(.tmp 4,0),(.tmp 5,0),(.tmp 6,0)],[],c115⟩ := rfl
theorem F116 : FF 116 = some ⟨[(.tmp 4,0)],[],c116⟩ := rfl
theorem F117 : FF 117 = some ⟨[(.tmp 4,0),(.tmp 5,0)],[],c117⟩ := rfl
theorem F118 : FF 118 = some ⟨[(.tmp 2,0)],[],c118⟩ := rfl
theorem F119 : FF 119 = some ⟨[(.tmp 2,0)],[],c119⟩ := rfl
theorem F120 : FF 120 = some ⟨[(.tmp 4,0)],[],c120⟩ := rfl
theorem F122 : FF 122 = some ⟨[(.cell 4 true 3,0),(.tmp 5,0)],[],c122⟩ := rfl
theorem F127 : FF 127 = some ⟨[(.tmp 2,0),(.tmp 3,0)],[],c127⟩ := rfl
theorem F128 : FF 128 = some ⟨[(.tmp 2,0)],[],c128⟩ := rfl
theorem F129 : FF 129 = some ⟨[(.tmp 4,0)],[],c129⟩ := rfl
theorem F130 : FF 130 = some ⟨[(.tmp 4,0),(.tmp 5,0)],[],c130⟩ := rfl
theorem F131 : FF 131 = some ⟨[(.tmp 4,0),(.tmp 5,0)],[],c131⟩ := rfl
theorem F137 : FF 137 = some ⟨[(.tmp 2,0)],[],c137⟩ := rfl
theorem F138 : FF 138 = some ⟨[(.tmp 4,0)],[0],c138⟩ := rfl
theorem F139 : FF 139 = some ⟨[(.tmp 2,0)],[],c139⟩ := rfl
theorem F140 : FF 140 = some ⟨[(.tmp 6,0)],[0],c140⟩ := rfl
theorem F141 : FF 141 = some ⟨[],[0],c141⟩ := rfl
theorem F162 : FF 162 = some ⟨[(.tmp 2,0)],[],c162⟩ := rfl
theorem F167 : FF 167 = some ⟨[(.cell 2 true 3,0)],[],c167⟩ := rfl
theorem F168 : FF 168 = some ⟨[(.tmp 4,0)],[],c168⟩ := rfl
theorem F169 : FF 169 = some ⟨[(.tmp 4,0)],[],c169⟩ := rfl
theorem F171 : FF 171 = some ⟨[(.tmp 4,0)],[],c171⟩ := rfl
theorem F173 : FF 173 = some ⟨[(.cell 4 true 3,0)],[],c173⟩ := rfl
theorem F201 : FF 201 = some ⟨[(.cell 4 true 3,0)],[],c201⟩ := rfl
theorem F206 : FF 206 = some ⟨[(.tmp 6,0)],[],c206⟩ := rfl
theorem F211 : FF 211 = some ⟨[(.tmp 2,0)],[],c211⟩ := rfl
theorem F214 : FF 214 = some ⟨[(.tmp 4,1),(.tmp 5,0)],[],c214⟩ := rfl
theorem F215 : FF 215 = some ⟨[(.tmp 4,0)],[],c215⟩ := rfl
theorem F216 : FF 216 = some ⟨[(.cell 2 true 3,0)],[],c216⟩ := rfl
theorem F217 : FF 217 = some ⟨[(.cell 4 true 7,0)],[],c217⟩ := rfl
theorem F218 : FF 218 = some ⟨[(.cell 2 true 3,0)],[],c218⟩ := rfl
theorem F219 : FF 219 = some ⟨[(.cell 4 true 3,0)],[],c219⟩ := rfl
theorem F230 : FF 230 = some ⟨[(.tmp 4,0)],[],c230⟩ := rfl
theorem F231 : FF 231 = some ⟨[(.tmp 4,0)],[],c231⟩ := rfl
theorem F237 : FF 237 = some ⟨[(.cell 2 true 4,0)],[],c237⟩ := rfl
theorem F238 : FF 238 = some ⟨[(.tmp 6,0)],[1000],c238⟩ := rfl
theorem F239 : FF 239 = some ⟨[(.tmp 2,0)],[],c239⟩ := rfl
theorem F240 : FF 240 = some ⟨[(.tmp 2,0)],[],c240⟩ := rfl
theorem F241 : FF 241 = some ⟨[(.tmp 4,0)],[],c241⟩ := rfl
theorem F242 : FF 242 = some ⟨[(.cell 4 true 3,0)],[],c242⟩ := rfl
theorem F246 : FF 246 = some ⟨[(.tmp 4,0)],[],c246⟩ := rfl
theorem F248 : FF 248 = some ⟨[(.tmp 2,0)],[],c248⟩ := rfl
theorem F249 : FF 249 = some ⟨[(.tmp 4,0),(.tmp 5,0)],[],c249⟩ := rfl
theorem F250 : FF 250 = some ⟨[(.tmp 2,0),(.tmp 3,0)],[],c250⟩ := rfl
theorem F251 : FF 251 = some ⟨[(.tmp 2,0),(.tmp 3,0)],[],c251⟩ := rfl
theorem F252 : FF 252 = some ⟨[(.tmp 2,0),(.tmp 3,0)],[],c252⟩ := rfl
theorem F253 : FF 253 = some ⟨[(.cell 6 true 4,0)],[],c253⟩ := rfl
theorem F254 : FF 254 = some ⟨[(.cell 2 true 3,0)],[],c254⟩ := rfl
theorem F255 : FF 255 = some ⟨[(.cell 6 true 8,0),(.tmp 7,0)],[],c255⟩ := rfl
theorem F256 : FF 256 = some ⟨[(.tmp 6,0),(.tmp 7,0)],[],c256⟩ := rfl
theorem F257 : FF 257 = some ⟨[(.cell 2 true 2,0)],[],c257⟩ := rfl
theorem F258 : FF 258 = some ⟨[(.cell 2 true 2,0)],[],c258⟩ := rfl
theorem F261 : FF 261 = some ⟨[(.tmp 6,0)],[],c261⟩ := rfl
theorem F262 : FF 262 = some ⟨[(.tmp 4,0)],[],c262⟩ := rfl
theorem F268 : FF 268 = some ⟨[(.tmp 8,0)],[],c268⟩ := rfl
theorem F272 : FF 272 = some ⟨[(.cell 6 true 8,0),(.tmp 7,0)],[],c272⟩ := rfl
theorem F273 : FF 273 = some ⟨[(.tmp 2,0)],[],c273⟩ := rfl
theorem F274 : FF 274 = some ⟨[(.tmp 4,0)],[],c274⟩ := rfl
theorem F276 : FF 276 = some ⟨[(.cell 8 true 2,0),(.tmp 9,0)],[],c276⟩ := rfl
theorem F281 : FF 281 = some ⟨[(.tmp 8,0)],[],c281⟩ := rfl
theorem F282 : FF 282 = some ⟨[(.tmp 6,0),(.tmp 7,0)],[],c282⟩ := rfl
theorem F283 : FF 283 = some ⟨[(.tmp 4,0)],[],c283⟩ := rfl
theorem F284 : FF 284 = some ⟨[(.cell 4 true 3,0)],[],c284⟩ := rfl
theorem F285 : FF 285 = some ⟨[(.tmp 2,1)],[0],c285⟩ := rfl
theorem F331 : FF 331 = some ⟨[(.tmp 10,1)],[],c331⟩ := rfl
theorem RB : type_of% (And.intro (rules FF) (And.intro (digR FF) (And.intro @fulls (And.intro @callks (And.intro @nests (And.intro @unNs (And.intro @strs (And.intro (ites FF) (And.intro (nones FF) (And.intro @nones' (And.intro @merge (And.intro @upd_apply (And.intro @put_apply (And.intro @tells (And.intro @refs (And.intro @unpacks (And.intro @uns (And.intro @encs (And.intro @ats (And.intro @ops (And.intro @bins (And.intro @binb (And.intro @shs (And.intro @quos (And.intro @vals (And.intro @opts (And.intro @optites (And.intro @ints (And.intro @idxs (And.intro @stores (And.intro @cuts (And.intro @cutk (And.intro @makes (And.intro @boxes (And.intro @apps (And.intro @packs (And.intro @calls (And.intro @maps (And.intro @reps (And.intro @boolites (And.intro @boolnots (And.intro @lits (And.intro @celltells (And.intro @cellrefs (And.intro @boolq (And.intro @casts (And.intro @idxl (And.intro @idxas (And.intro @conses (And.intro @ldcs (And.intro @aliases (And.intro @frzs (And.intro @callos (And.intro @more (And.intro @more' (And.intro @sidxs (And.intro @lends (And.intro @ends (And.intro @endites (And.intro @endnones (And.intro @tellr (And.intro @listc (And.intro @true_and (And.intro @and_true (And.intro @false_and (And.intro @and_false (And.intro @decide_eq_true_eq (And.intro @Bool.false_eq_true (And.intro @Bool.not_true (And.intro @Bool.not_false (And.intro @Bool.true_eq_false (And.intro @Bool.and_eq_true (And.intro @Bool.or_eq_true (And.intro @Bool.or_true (And.intro @Bool.or_false (And.intro @Bool.and_true (And.intro @Bool.and_false (And.intro @Bool.true_and (And.intro @Bool.false_and (And.intro @Bool.true_or (And.intro @Bool.false_or (And.intro @decide_true (And.intro @decide_false (And.intro @Bool.not_eq_true (And.intro @Bool.not_eq_false (And.intro @not_false_eq_true (And.intro @or_false (And.intro @false_or (And.intro @or_true (And.intro @true_or (And.intro @Nat.sub_zero (And.intro @Nat.zero_add (And.intro @Nat.add_zero (And.intro @Int.toNat_natCast (And.intro @Int.toNat_zero (@Int.ofNat_zero)))))))))))))))))))))))))))))))))))))))))))))))))))))))))))))))))))))))))))))))))))))))))))))))) := And.intro (rules FF) (And.intro (digR FF) (And.intro @fulls (And.intro @callks (And.intro @nests (And.intro @unNs (And.intro @strs (And.intro (ites FF) (And.intro (nones FF) (And.intro @nones' (And.intro @merge (And.intro @upd_apply (And.intro @put_apply (And.intro @tells (And.intro @refs (And.intro @unpacks (And.intro @uns (And.intro @encs (And.intro @ats (And.intro @ops (And.intro @bins (And.intro @binb (And.intro @shs (And.intro @quos (And.intro @vals (And.intro @opts (And.intro @optites (And.intro @ints (And.intro @idxs (And.intro @stores (And.intro @cuts (And.intro @cutk (And.intro @makes (And.intro @boxes (And.intro @apps (And.intro @packs (And.intro @calls (And.intro @maps (And.intro @reps (And.intro @boolites (And.intro @boolnots (And.intro @lits (And.intro @celltells (And.intro @cellrefs (And.intro @boolq (And.intro @casts (And.intro @idxl (And.intro @idxas (And.intro @conses (And.intro @ldcs (And.intro @aliases (And.intro @frzs (And.intro @callos (And.intro @more (And.intro @more' (And.intro @sidxs (And.intro @lends (And.intro @ends (And.intro @endites (And.intro @endnones (And.intro @tellr (And.intro @listc (And.intro @true_and (And.intro @and_true (And.intro @false_and (And.intro @and_false (And.intro @decide_eq_true_eq (And.intro @Bool.false_eq_true (And.intro @Bool.not_true (And.intro @Bool.not_false (And.intro @Bool.true_eq_false (And.intro @Bool.and_eq_true (And.intro @Bool.or_eq_true (And.intro @Bool.or_true (And.intro @Bool.or_false (And.intro @Bool.and_true (And.intro @Bool.and_false (And.intro @Bool.true_and (And.intro @Bool.false_and (And.intro @Bool.true_or (And.intro @Bool.false_or (And.intro @decide_true (And.intro @decide_false (And.intro @Bool.not_eq_true (And.intro @Bool.not_eq_false (And.intro @not_false_eq_true (And.intro @or_false (And.intro @false_or (And.intro @or_true (And.intro @true_or (And.intro @Nat.sub_zero (And.intro @Nat.zero_add (And.intro @Nat.add_zero (And.intro @Int.toNat_natCast (And.intro @Int.toNat_zero (@Int.ofNat_zero)))))))))))))))))))))))))))))))))))))))))))))))))))))))))))))))))))))))))))))))))))))))))))))))
theorem RL : type_of% (And.intro @List.not_mem_nil.{0} (And.intro @List.mem_cons.{0} (And.intro @List.map_nil.{0,0} (And.intro @List.flatMap_nil.{0,0} (And.intro @List.append_nil.{0} (And.intro @List.nil_append.{0} (And.intro @List.drop_zero.{0} (And.intro @List.length_set.{0} (And.intro @List.length_replicate.{0} (And.intro @List.length_append.{0} (And.intro @List.take_length.{0} (And.intro @List.take_zero.{0} (And.intro @List.drop_length.{0} (And.intro @Option.isNone_none.{0} (And.intro @ite_self.{1} (And.intro @ite_self.{0} (And.intro @eq_self.{1} (And.intro @if_true.{1} (And.intro @if_false.{1} (And.intro @if_true.{0} @if_false.{0})))))))))))))))))))) := (And.intro @List.not_mem_nil.{0} (And.intro @List.mem_cons.{0} (And.intro @List.map_nil.{0,0} (And.intro @List.flatMap_nil.{0,0} (And.intro @List.append_nil.{0} (And.intro @List.nil_append.{0} (And.intro @List.drop_zero.{0} (And.intro @List.length_set.{0} (And.intro @List.length_replicate.{0} (And.intro @List.length_append.{0} (And.intro @List.take_length.{0} (And.intro @List.take_zero.{0} (And.intro @List.drop_length.{0} (And.intro @Option.isNone_none.{0} (And.intro @ite_self.{1} (And.intro @ite_self.{0} (And.intro @eq_self.{1} (And.intro @if_true.{1} (And.intro @if_false.{1} (And.intro @if_true.{0} @if_false.{0}))))))))))))))))))))
theorem take_set_len (l : List Int) (i : Nat) (v : Int) : (l.set i v).take l.length = l.set i v := by rw [zp]; rw [zU]; exact zz _
theorem take_app_len {α : Type} (l m : List α) : (l ++ m).take (l.length + m.length) = l ++ m := by rw [← zx,zt]
theorem take_snoc_len {α : Type} (l : List α) (x : α) : (l ++ [x]).take (l.length + 1) = l ++ [x] := take_app_len l [x]
theorem take_rep_len {α : Type} (n : Nat) (v : α) : (zL n v).take n = zL n v := by rw [zp]; rw [zP]; exact zz _
theorem take_set2_len (l : List Int) (i j : Nat) (v x : Int) : ((l.set i v).set j x).take l.length = (l.set i v).set j x := by rw [zp]; rw [zU,zU]; exact zz _
theorem top_take {l : List Int} {n : Nat} (hn : n < l.length) (h : l.getD n 0 ≠ 0) : Dg.Top (l.take (n + 1)) := by
 intro _
 have hl : (l.take (n + 1)).length = n + 1 := by rw [zD]; omega
 rw [hl,Nat.add_sub_cancel]
 rw [zo,List.getElem?_take_of_lt (by omega),← zo]
 exact h
theorem trim_l0 {l : List Int} (hd : Dg.Dig 4294967296 l) (hl : l.length ≤ 35184372088832) : ∀ n : Nat,n ≤ l.length →
  ∃ m,m ≤ n ∧ l.take m = D (Dg.vl 4294967296 (l.take n)).toNat ∧ LP FF [(0,0),(3,0)] [(0,0),(3,0)] b114_0 [(AV.l 1 (List.map u l)),(AV.i .i64 ((n : Int)))] = some (.exit 0,[(AV.l 1 (List.map u l)),(AV.i .i64 ((m : Int)))]) := by
 intro n
 induction n with
 | zero =>
  intro _
  refine ⟨0,zz _,by simp only [jk,Dg.vl,Int.toNat_zero,D_zero],?_⟩
  rw [LP_go FF b114_0.eq_1]
  simp only [RB,RL,un,St.none,za,zd,ze,zf,zb,zj,zk,zm,zn,zc,zg,zh,zi,↓reduceIte,reduceCtorEq,pack,pid,parN,lid,chkK,apartV,Heap.none]
 | succ n ih =>
  intro hn
  have e : IntKind.i64.wrap (((n + 1 : Nat) : Int) - 1) = (n : Int) := by rw [w64 (by omega) (by omega)]; omega
  rw [LP_go FF b114_0.eq_1]
  simp only [RB,RL,un,St.none,za,zd,ze,zf,zb,zj,zk,zm,zn,zc,zg,zh,zi,↓reduceIte,reduceCtorEq,pack,pid,parN,lid,chkK,apartV,Heap.none,e]
  rw [if_pos (by omega)]
  by_cases h : l.getD n 0 = 0
  ·obtain ⟨m,hm,h1,h2⟩ := ih (by omega)
   refine ⟨m,by omega,?_,?_⟩
   ·rw [h1,Dg.vl_take_succ,h]; simp
   ·rw [if_pos (by omega)]; exact h2
  ·refine ⟨n + 1,zz _,?_,?_⟩
   ·have hdd := hd.take (n + 1)
    refine D_of hdd (top_take (by omega) h) ?_
    have := Dg.vl_nonneg hdd (by decide)
    omega
   ·rw [if_neg (by omega)]
theorem trim_c {l : List Int} (hd : Dg.Dig 4294967296 l) (hl : l.length ≤ 35184372088832) {n : Nat} (hv : Dg.vl 4294967296 l = n) : R FF 114 [(AV.l 1 (List.map u l))] = some (AV.l 1 (List.map u (D n))) := by
 obtain ⟨m,hm,h1,h2⟩ := trim_l0 hd hl l.length (zz _)
 rw [zt,hv,Int.toNat_natCast] at h1
 rw [R_go FF F114 c114.eq_1]
 simp only [RB,RL,un,St.none,za,zd,ze,zf,zb,zj,zk,zm,zn,zc,zg,zh,zi,↓reduceIte,reduceCtorEq,pack,pid,parN,lid,chkK,apartV,Heap.none,h2]
 by_cases h0 : (m : Int) = 0
 ·rw [if_pos h0,← h1,show m = 0 by omega]; rfl
 ·rw [if_neg h0,if_pos (by omega),h1]
theorem rtrim_l0 {l : List Int} (hd : Dg.Dig 10000 l) (hl : l.length ≤ 35184372088832) : ∀ n : Nat,n ≤ l.length →
  ∃ m,m ≤ n ∧ l.take m = E (Dg.vl 10000 (l.take n)).toNat ∧ LP FF [(0,0),(3,0)] [(0,0),(3,0)] b119_0 [(AV.l 1 (List.map n64 l)),(AV.i .i64 ((n : Int)))] = some (.exit 0,[(AV.l 1 (List.map n64 l)),(AV.i .i64 ((m : Int)))]) := by
 intro n
 induction n with
 | zero =>
  intro _
  refine ⟨0,zz _,by simp only [jk,Dg.vl,Int.toNat_zero,E_zero],?_⟩
  rw [LP_go FF b119_0.eq_1]
  simp only [RB,RL,un,St.none,za,zd,ze,zf,zb,zj,zk,zm,zn,zc,zg,zh,zi,↓reduceIte,reduceCtorEq,pack,pid,parN,lid,chkK,apartV,Heap.none]
 | succ n ih =>
  intro hn
  have e : IntKind.i64.wrap (((n + 1 : Nat) : Int) - 1) = (n : Int) := by rw [w64 (by omega) (by omega)]; omega
  rw [LP_go FF b119_0.eq_1]
  simp only [RB,RL,un,St.none,za,zd,ze,zf,zb,zj,zk,zm,zn,zc,zg,zh,zi,↓reduceIte,reduceCtorEq,pack,pid,parN,lid,chkK,apartV,Heap.none,e]
  rw [if_pos (by omega)]
  by_cases h : l.getD n 0 = 0
  ·obtain ⟨m,hm,h1,h2⟩ := ih (by omega)
   refine ⟨m,by omega,?_,?_⟩
   ·rw [h1,Dg.vl_take_succ,h]; simp
   ·rw [if_pos (by omega)]; exact h2
  ·refine ⟨n + 1,zz _,?_,?_⟩
   ·have hdd := hd.take (n + 1)
    refine E_of hdd (top_take (by omega) h) ?_
    have := Dg.vl_nonneg hdd (by decide)
    omega
   ·rw [if_neg (by omega)]
theorem rtrim_c {l : List Int} (hd : Dg.Dig 10000 l) (hl : l.length ≤ 35184372088832) {n : Nat} (hv : Dg.vl 10000 l = n) : R FF 119 [(AV.l 1 (List.map n64 l))] = some (AV.l 1 (List.map n64 (E n))) := by
 obtain ⟨m,hm,h1,h2⟩ := rtrim_l0 hd hl l.length (zz _)
 rw [zt,hv,Int.toNat_natCast] at h1
 rw [R_go FF F119 c119.eq_1]
 simp only [RB,RL,un,St.none,za,zd,ze,zf,zb,zj,zk,zm,zn,zc,zg,zh,zi,↓reduceIte,reduceCtorEq,pack,pid,parN,lid,chkK,apartV,Heap.none,h2]
 rw [if_pos (by omega),h1]
theorem set_take {l : List Int} {n : Nat} (v : Int) (h : n < l.length) : (l.set n v).take (n + 1) = l.take n ++ [v] := by
 rw [List.take_add_one,List.take_set_of_le (zz _),List.getElem?_set_self h,Option.toList_some]
theorem map_take_succ {l : List Int} {n : Nat} (f : Int → Int) (h : n < l.length) : (l.map f).take (n + 1) = (l.map f).take n ++ [f (l.getD n 0)] := by
 rw [List.take_add_one,List.getElem?_map,zr h,zo,zr h]; rfl
theorem U_get {l : List Int} (h : U l) (n : Nat) : 0 ≤ l.getD n 0 ∧ l.getD n 0 ≤ 18446744073709551615 := by
 rw [zo]
 rcases jl n l.length with hn | hn
 ·rw [zr hn]; exact h _ (List.getElem_mem hn)
 ·rw [jf hn]; simp
theorem clean_l0 {l : List Int} (hu : U l) (hl : l.length ≤ 35184372088832) : ∀ (d i : Nat) (out : List Int),i + d = l.length → out.length = l.length → out.take i = (l.map (· % 4294967296)).take i →
  LP FF [(3,1),(9,0),(10,0),(11,0)] [(3,0)] b106_0 [.own true 1 (out.map u),(AV.l 1 (List.map u l)),(AV.i .i64 ((l.length : Int))),(AV.i .i64 ((i : Int)))] = some (.exit 0,[(AV.l 1 (List.map u (l.map (· % 4294967296))))]) := by
 intro d
 induction d with
 | zero =>
  intro i out hi ho ht
  have e : out = l.map (· % 4294967296) := by
   rw [zp (by omega),zp (by rw [zC]; omega)] at ht
   exact ht
  rw [LP_go FF b106_0.eq_1]
  simp only [RB,RL,un,St.none,za,zd,ze,zf,zb,zj,zk,zm,zn,zc,zg,zh,zi,↓reduceIte,reduceCtorEq,pack,pid,parN,lid,chkK,apartV,Heap.none]
  simp (disch := omega) only [if_pos,if_neg,zt,take_set_len,take_set2_len,take_rep_len,take_snoc_len,take_app_len]
  rw [e]
 | succ d ih =>
  intro i out hi ho ht
  have hg := U_get hu i
  have e : IntKind.i64.wrap ((i : Int) + 1) = ((i + 1 : Nat) : Int) := by rw [w64 (by omega) (by omega)]; omega
  rw [LP_go FF b106_0.eq_1]
  simp only [RB,RL,un,St.none,za,zd,ze,zf,zb,zj,zk,zm,zn,zc,zg,zh,zi,↓reduceIte,reduceCtorEq,pack,pid,parN,lid,chkK,apartV,Heap.none,e,and32 hg.1 hg.2]
  simp (disch := omega) only [if_pos,if_neg,zt,take_set_len,take_set2_len,take_rep_len,take_snoc_len,take_app_len]
  refine ih (i + 1) _ (by omega) (by rw [zU]; exact ho) ?_
  rw [set_take _ (by omega),map_take_succ _ (by omega),ht]
theorem clean_c {l : List Int} (hu : U l) (hl : l.length ≤ 35184372088832) : R FF 106 [(AV.l 1 (List.map u l))] = some (AV.l 1 (List.map u (D (W l)))) := by
 have h0 := clean_l0 hu hl l.length 0 (zL l.length 0) (by omega) (by rw [zP]) (by simp)
 have h1 := trim_c (map_dig l) (by rw [zC]; exact hl) (W_map l).symm
 rw [R_go FF F106 c106.eq_1]
 simp only [RB,RL,un,St.none,za,zd,ze,zf,zb,zj,zk,zm,zn,zc,zg,zh,zi,↓reduceIte,reduceCtorEq,pack,pid,parN,lid,chkK,apartV,Heap.none,h1]
 rw [zI] at h0
 simp (disch := omega) only [if_pos,if_neg,zt,take_set_len,take_set2_len,take_rep_len,take_snoc_len,take_app_len,h0]
 simp only [RB,RL,un,St.none,za,zd,ze,zf,zb,zj,zk,zm,zn,zc,zg,zh,zi,↓reduceIte,reduceCtorEq,pack,pid,parN,lid,chkK,apartV,Heap.none,h1]
theorem order_l0 {a b : List Int} (ha : Dg.Dig 4294967296 a) (hb : Dg.Dig 4294967296 b) (hl : a.length = b.length) (hs : a.length ≤ 35184372088832) : ∀ n : Nat,n ≤ a.length →
  ∃ ex x,LP FF [(0,0),(1,0),(5,0)] [(4,0)] b110_0 [(AV.l 1 (List.map u a)),(AV.l 1 (List.map u b)),(AV.i .i64 ((n : Int) - 1))] = some (ex,[x]) ∧ (ex = .ret ∧ x = (AV.i .i64 (cmp (Dg.vl 4294967296 (a.take n)) (Dg.vl 4294967296 (b.take n)))) ∨ ex = .exit 1 ∧ cmp (Dg.vl 4294967296 (a.take n)) (Dg.vl 4294967296 (b.take n)) = 0) := by
 intro n
 induction n with
 | zero =>
  intro _
  rw [LP_go FF b110_0.eq_1]
  simp only [RB,RL,un,St.none,za,zd,ze,zf,zb,zj,zk,zm,zn,zc,zg,zh,zi,↓reduceIte,reduceCtorEq,pack,pid,parN,lid,chkK,apartV,Heap.none]
  exact ⟨_,_,rfl,.inr ⟨rfl,rfl⟩⟩
 | succ n ih =>
  intro hn
  have e0 : ((n + 1 : Nat) : Int) - 1 = (n : Int) := by omega
  have e : IntKind.i64.wrap ((n : Int) - 1) = (n : Int) - 1 := w64 (by omega) (by omega)
  have ga := ha.getD (by decide) n
  have gb := hb.getD (by decide) n
  have a0 := Dg.vl_nonneg (ha.take n) (by decide)
  have b0 := Dg.vl_nonneg (hb.take n) (by decide)
  have a1 := Dg.vl_lt (ha.take n) (by decide)
  have b1 := Dg.vl_lt (hb.take n) (by decide)
  have hla : (a.take n).length = n := by rw [zD]; omega
  have hlb : (b.take n).length = n := by rw [zD]; omega
  rw [hla] at a1
  rw [hlb] at b1
  rw [LP_go FF b110_0.eq_1]
  simp only [RB,RL,un,St.none,za,zd,ze,zf,zb,zj,zk,zm,zn,zc,zg,zh,zi,↓reduceIte,reduceCtorEq,pack,pid,parN,lid,chkK,apartV,Heap.none,e0,e]
  simp (disch := omega) only [if_pos,if_neg,zt,take_set_len,take_set2_len,take_rep_len,take_snoc_len,take_app_len]
  rw [Dg.vl_take_succ,Dg.vl_take_succ]
  by_cases h1 : a.getD n 0 < b.getD n 0
  ·rw [if_pos h1]
   exact ⟨_,_,rfl,.inl ⟨rfl,by rw [cmp_lt (cmp_top (B := 0) a0 a1 b0 b1 h1)]⟩⟩
  ·rw [if_neg h1]
   by_cases h2 : b.getD n 0 < a.getD n 0
   ·rw [if_pos h2]
    exact ⟨_,_,rfl,.inl ⟨rfl,by rw [cmp_gt (cmp_top (B := 0) b0 b1 a0 a1 h2)]⟩⟩
   ·rw [if_neg h2]
    have h3 : a.getD n 0 = b.getD n 0 := by omega
    have h4 : cmp (Dg.vl 4294967296 (a.take n) + a.getD n 0 * 4294967296 ^ n) (Dg.vl 4294967296 (b.take n) + b.getD n 0 * 4294967296 ^ n) = cmp (Dg.vl 4294967296 (a.take n)) (Dg.vl 4294967296 (b.take n)) := by
     rw [h3]
     unfold cmp
     split <;> split <;> (try split) <;> (try split) <;> first | rfl | omega
    rw [h4]
    exact ih (by omega)
theorem order_c {m n : Nat} (hm : L m ≤ 35184372088832) (hn : L n ≤ 35184372088832) : R FF 110 [(AV.l 1 (List.map u (D m))),(AV.l 1 (List.map u (D n)))] = some (AV.i .i64 (cmp m n)) := by
 have hm' : (D m).length ≤ 35184372088832 := hm
 have hn' : (D n).length ≤ 35184372088832 := hn
 have e : IntKind.i64.wrap (((D m).length : Int) - 1) = ((D m).length : Int) - 1 := w64 (by omega) (by omega)
 rw [R_go FF F110 c110.eq_1]
 simp only [RB,RL,un,St.none,za,zd,ze,zf,zb,zj,zk,zm,zn,zc,zg,zh,zi,↓reduceIte,reduceCtorEq,pack,pid,parN,lid,chkK,apartV,Heap.none,e]
 by_cases h1 : ((D m).length : Int) < ((D n).length : Int)
 ·rw [if_pos h1,cmp_lt (by have := len_lt_imp _ (by decide) (show (D m).length < (D n).length by omega); omega)]
 ·rw [if_neg h1]
  by_cases h2 : ((D n).length : Int) < ((D m).length : Int)
  ·rw [if_pos h2,cmp_gt (by have := len_lt_imp _ (by decide) (show (D n).length < (D m).length by omega); omega)]
  ·rw [if_neg h2]
   obtain ⟨ex,x,h3,h4⟩ := order_l0 (D_dig m) (D_dig n) (by omega) hm' (D m).length (zz _)
   rw [zt,show (D m).length = (D n).length by omega,zt,D_vl,D_vl] at h4
   rcases h4 with ⟨rfl,rfl⟩ | ⟨rfl,h4⟩
   ·simp only [RB,RL,un,St.none,za,zd,ze,zf,zb,zj,zk,zm,zn,zc,zg,zh,zi,↓reduceIte,reduceCtorEq,pack,pid,parN,lid,chkK,apartV,Heap.none,h3]
   ·simp only [RB,RL,un,St.none,za,zd,ze,zf,zb,zj,zk,zm,zn,zc,zg,zh,zi,↓reduceIte,reduceCtorEq,pack,pid,parN,lid,chkK,apartV,Heap.none,h3]
    rw [h4]
theorem limb_c (l : List Int) (i : Nat) : R FF 129 [(AV.l 1 (List.map u l)),(AV.i .i64 ((i : Int)))] = some (AV.i .u64 (l.getD i 0)) := by
 rw [R_go FF F129 c129.eq_1]
 simp only [RB,RL,un,St.none,za,zd,ze,zf,zb,zj,zk,zm,zn,zc,zg,zh,zi,↓reduceIte,reduceCtorEq,pack,pid,parN,lid,chkK,apartV,Heap.none]
 by_cases h : (i : Int) < (l.length : Int)
 ·simp (disch := omega) only [if_pos,if_neg,zt,take_set_len,take_set2_len,take_rep_len,take_snoc_len,take_app_len]
 ·rw [zo,jf (by omega)]
  simp (disch := omega) only [if_pos,if_neg,zt,take_set_len,take_set2_len,take_rep_len,take_snoc_len,take_app_len]
  rfl
theorem cmp_c {a b : List Int} (ha : U a) (hb : U b) (hla : a.length ≤ 35184372088832) (hlb : b.length ≤ 35184372088832) : R FF 72 [(AV.l 1 (List.map u a)),(AV.l 1 (List.map u b))] = some (AV.i .i64 (cmp (W a) (W b))) := by
 rw [R_go FF F72 c72.eq_1]
 simp only [RB,RL,un,St.none,za,zd,ze,zf,zb,zj,zk,zm,zn,zc,zg,zh,zi,↓reduceIte,reduceCtorEq,pack,pid,parN,lid,chkK,apartV,Heap.none,clean_c ha hla,clean_c hb hlb,order_c (zE (L_W a) hla) (zE (L_W b) hlb)]
theorem shr32 {x : Int} (h0 : 0 ≤ x) : x.fdiv (2 ^ Nat.min 32 IntKind.u64.bits) = x / 4294967296 := by
 rw [show Nat.min 32 IntKind.u64.bits = 32 by decide,Int.fdiv_eq_ediv_of_nonneg _ (by decide)]; rfl
theorem of_c {x : Int} (h0 : 0 ≤ x) (h1 : x ≤ 18446744073709551615) {n : Nat} (hn : (n : Int) = x) : R FF 73 [(AV.i .u64 x)] = some (AV.l 1 (List.map u (D n))) := by
 have h2 := trim_c (l := [x % 4294967296,x / 4294967296]) (n := n) (Dg.Dig.cons (by omega) (by omega) (Dg.Dig.cons (by omega) (by omega) Dg.Dig.nil)) (by simp) (by simp only [Dg.vl]; omega)
 simp only [List.map_cons,zR] at h2
 rw [R_go FF F73 c73.eq_1]
 simp only [RB,RL,un,St.none,za,zd,ze,zf,zb,zj,zk,zm,zn,zc,zg,zh,zi,↓reduceIte,reduceCtorEq,pack,pid,parN,lid,chkK,apartV,Heap.none,and32 h0 h1,shr32 h0,h2]
theorem D_small {n : Nat} (h0 : n ≠ 0) (h : n < 4294967296) : D n = [(n : Int)] := by
 unfold D
 rw [Dg.dg_succ (by decide) h0,Nat.mod_eq_of_lt h,Nat.div_eq_of_lt h,Dg.dg_zero]
theorem D_two {n : Nat} (h0 : 4294967296 ≤ n) (h : n < 18446744073709551616) : D n = [((n % 4294967296 : Nat) : Int),((n / 4294967296 : Nat) : Int)] := by
 unfold D
 rw [Dg.dg_succ (by decide) (by omega)]
 have : Dg.dg 4294967296 (n / 4294967296) = D (n / 4294967296) := rfl
 rw [this,D_small (by omega) (by omega)]
theorem D_more {n : Nat} (h : 18446744073709551616 ≤ n) : 3 ≤ (D n).length := by
 unfold D
 rw [Dg.dg_succ (by decide) (by omega),Dg.dg_succ (by decide) (by omega),Dg.dg_succ (by decide) (by omega)]
 simp
theorem mul_bound {x y M : Int} (hx0 : 0 ≤ x) (hx : x ≤ M) (hy0 : 0 ≤ y) (hy : y ≤ M) : 0 ≤ x * y ∧ x * y ≤ M * M :=
 ⟨Int.mul_nonneg hx0 hy0,Int.le_trans (zJ hx hy0) (Int.mul_le_mul_of_nonneg_left hy (by omega))⟩
theorem tdiv_pos {x y : Int} (h : 0 ≤ x) : Int.tdiv x y = x / y := Int.tdiv_eq_ediv_of_nonneg h
theorem tmod_pos {x y : Int} (h : 0 ≤ x) : Int.tmod x y = x % y := Int.tmod_eq_emod_of_nonneg h
theorem mul_step {B : Int} {out : List Int} {p : Nat} {c x S t : Int} (hlt : p < out.length) (hv : Dg.vl B out + c * B ^ p = S) (ht : t = c + out.getD p 0 + x) :
  Dg.vl B (out.set p (t % B)) + (t / B) * B ^ (p + 1) = S + x * B ^ p := by
 rw [Dg.vl_set _ _ _ _ hlt,Int.pow_succ]
 have h := Int.mul_ediv_add_emod t B
 have e : (t % B - out.getD p 0) * B ^ p + t / B * (B ^ p * B) = (t - out.getD p 0) * B ^ p := by
  have : t % B = t - B * (t / B) := by omega
  rw [this]
  grind
 rw [Int.add_assoc,e,ht,← hv]
 grind
theorem zero_set {out : List Int} {p q : Nat} (v : Int) (h : p < q) (hz : ∀ j,q ≤ j → out.getD j 0 = 0) : ∀ j,q ≤ j → (out.set p v).getD j 0 = 0 := by
 intro j hj
 rw [zo,List.getElem?_set_ne (by omega),← zo]
 exact hz j hj
theorem times_l1 {a b : List Int} (ha : Dg.Dig 10000 a) (hb : Dg.Dig 10000 b) (hl : a.length + b.length ≤ 35184372088832) {i : Nat} (hi : i < a.length) (out : List Int) : ∀ (e m : Nat) (o : List Int) (c : Int),m + e = b.length → o.length = a.length + b.length → Dg.Dig 10000 o → 0 ≤ c → c ≤ 9999 → (∀ j,i + b.length ≤ j → o.getD j 0 = 0) →
  Dg.vl 10000 o + c * 10000 ^ (i + m) = Dg.vl 10000 out + a.getD i 0 * Dg.vl 10000 (b.take m) * 10000 ^ i →
  ∃ o' c',LP FF [(5,1),(0,0),(1,0),(6,0),(7,0),(8,0)] [(5,1),(0,0),(1,0),(6,0),(7,0)] b90_1 [.own true 1 (o.map n64),(AV.l 1 (List.map n64 a)),(AV.l 1 (List.map n64 b)),(AV.i .i64 ((i : Int))),(AV.i .i64 c),(AV.i .i64 ((m : Int)))] = some (.exit 2,[.own true 1 (o'.map n64),(AV.l 1 (List.map n64 a)),(AV.l 1 (List.map n64 b)),(AV.i .i64 ((i : Int))),(AV.i .i64 (c'))]) ∧
   o'.length = a.length + b.length ∧ Dg.Dig 10000 o' ∧ 0 ≤ c' ∧ c' ≤ 9999 ∧ (∀ j,i + b.length ≤ j → o'.getD j 0 = 0) ∧ Dg.vl 10000 o' + c' * 10000 ^ (i + b.length) = Dg.vl 10000 out + a.getD i 0 * Dg.vl 10000 b * 10000 ^ i := by
 have gi := ha.getD (by decide) i
 intro e
 induction e with
 | zero =>
  intro m o c hm ho2 hd2 hc0 hc1 hz2 hv2
  have hmb : m = b.length := by omega
  subst hmb
  rw [zt] at hv2
  refine ⟨o,c,?_,ho2,hd2,hc0,hc1,hz2,hv2⟩
  rw [LP_go FF b90_1.eq_1]
  simp only [RB,RL,un,St.none,za,zd,ze,zf,zb,zj,zk,zm,zn,zc,zg,zh,zi,↓reduceIte,reduceCtorEq,pack,pid,parN,lid,chkK,apartV,Heap.none]
  simp (disch := omega) only [if_pos,if_neg,zt,take_set_len,take_set2_len,take_rep_len,take_snoc_len,take_app_len]
 | succ e ih2 =>
  intro m o c hm ho2 hd2 hc0 hc1 hz2 hv2
  have gm := hb.getD (by decide) m
  have go := hd2.getD (by decide) (i + m)
  have hx := mul_bound gi.1 (show a.getD i 0 ≤ 9999 by omega) gm.1 (show b.getD m 0 ≤ 9999 by omega)
  have h9 := ih2 (m + 1) (o.set (i + m) ((c + o.getD (i + m) 0 + a.getD i 0 * b.getD m 0) % 10000)) ((c + o.getD (i + m) 0 + a.getD i 0 * b.getD m 0) / 10000) (by omega) (by rw [zU]; exact ho2) (hd2.set _ (by omega) (by omega)) (by omega) (by omega) (zero_set _ (by omega) hz2) (by
   have := mul_step (B := 10000) (x := a.getD i 0 * b.getD m 0) (show i + m < o.length by omega) hv2 (t := c + o.getD (i + m) 0 + a.getD i 0 * b.getD m 0) rfl
   rw [show i + (m + 1) = i + m + 1 by omega,this,Dg.vl_take_succ,Int.pow_add]
   grind)
  have e1 : IntKind.i64.wrap ((i : Int) + (m : Int)) = ((i + m : Nat) : Int) := w64add (by omega)
  have e2 : IntKind.i64.wrap ((m : Int) + 1) = ((m + 1 : Nat) : Int) := w64succ (by omega)
  have e3 : IntKind.i64.wrap (c + o.getD (i + m) 0) = c + o.getD (i + m) 0 := w64 (by omega) (by omega)
  have e4 : IntKind.i64.wrap (a.getD i 0 * b.getD m 0) = a.getD i 0 * b.getD m 0 := w64 (by omega) (by omega)
  have e5 : IntKind.i64.wrap (c + o.getD (i + m) 0 + a.getD i 0 * b.getD m 0) = c + o.getD (i + m) 0 + a.getD i 0 * b.getD m 0 := w64 (by omega) (by omega)
  have e6 : Int.tmod (c + o.getD (i + m) 0 + a.getD i 0 * b.getD m 0) 10000 = (c + o.getD (i + m) 0 + a.getD i 0 * b.getD m 0) % 10000 := tmod_pos (by omega)
  have e7 : IntKind.i64.wrap (Int.tdiv (c + o.getD (i + m) 0 + a.getD i 0 * b.getD m 0) 10000) = (c + o.getD (i + m) 0 + a.getD i 0 * b.getD m 0) / 10000 := by rw [tdiv_pos (by omega)]; exact w64 (by omega) (by omega)
  rw [LP_go FF b90_1.eq_1]
  simp only [RB,RL,un,St.none,za,zd,ze,zf,zb,zj,zk,zm,zn,zc,zg,zh,zi,↓reduceIte,reduceCtorEq,pack,pid,parN,lid,chkK,apartV,Heap.none,e1,e2,e3,e4,e5,e6,e7]
  simp (disch := omega) only [if_pos,if_neg,zt,take_set_len,take_set2_len,take_rep_len,take_snoc_len,take_app_len]
  exact h9
theorem times_l0 {a b : List Int} (ha : Dg.Dig 10000 a) (hb : Dg.Dig 10000 b) (hl : a.length + b.length ≤ 35184372088832) :
  ∀ (d i : Nat) (out : List Int),i + d = a.length → out.length = a.length + b.length → Dg.Dig 10000 out → Dg.vl 10000 out = Dg.vl 10000 (a.take i) * Dg.vl 10000 b → (∀ j,i + b.length ≤ j → out.getD j 0 = 0) →
  ∃ o,LP FF [(5,1),(0,0),(1,0),(6,0)] [(5,0)] b90_0 [.own true 1 (out.map n64),(AV.l 1 (List.map n64 a)),(AV.l 1 (List.map n64 b)),(AV.i .i64 ((i : Int)))] = some (.exit 0,[(AV.l 1 (List.map n64 o))]) ∧ Dg.Dig 10000 o ∧ o.length = a.length + b.length ∧ Dg.vl 10000 o = Dg.vl 10000 a * Dg.vl 10000 b := by
 intro d
 induction d with
 | zero =>
  intro i out hi ho hd hv hz
  rw [zp (by omega)] at hv
  refine ⟨out,?_,hd,ho,hv⟩
  rw [LP_go FF b90_0.eq_1]
  simp only [RB,RL,un,St.none,za,zd,ze,zf,zb,zj,zk,zm,zn,zc,zg,zh,zi,↓reduceIte,reduceCtorEq,pack,pid,parN,lid,chkK,apartV,Heap.none]
  simp (disch := omega) only [if_pos,if_neg,zt,take_set_len,take_set2_len,take_rep_len,take_snoc_len,take_app_len]
 | succ d ih =>
  intro i out hi ho hd hv hz
  obtain ⟨o,c,h1,h2,h3,h4,h5,h6,h7⟩ := times_l1 ha hb hl (show i < a.length by omega) out b.length 0 out 0 (by omega) ho hd (by omega) (by omega) hz (by simp [Dg.vl])
  have h9 := ih (i + 1) (o.set (i + b.length) c) (by omega) (by rw [zU]; exact h2) (h3.set _ h4 (by omega)) (by
   rw [Dg.vl_set _ _ _ _ (by omega),h6 _ (zz _),Int.sub_zero,h7,hv,Dg.vl_take_succ]
   grind) (fun j hj => zero_set c (q := i + b.length + 1) (by omega) (fun j hj => h6 j (by omega)) j (by omega))
  have e1 : IntKind.i64.wrap ((i : Int) + (b.length : Int)) = ((i + b.length : Nat) : Int) := w64add (by omega)
  have e2 : IntKind.i64.wrap ((i : Int) + 1) = ((i + 1 : Nat) : Int) := w64succ (by omega)
  rw [zI] at h1
  rw [LP_go FF b90_0.eq_1]
  simp only [RB,RL,un,St.none,za,zd,ze,zf,zb,zj,zk,zm,zn,zc,zg,zh,zi,↓reduceIte,reduceCtorEq,pack,pid,parN,lid,chkK,apartV,Heap.none]
  simp (disch := omega) only [if_pos,if_neg,zt,take_set_len,take_set2_len,take_rep_len,take_snoc_len,take_app_len,h1]
  simp only [RB,RL,un,St.none,za,zd,ze,zf,zb,zj,zk,zm,zn,zc,zg,zh,zi,↓reduceIte,reduceCtorEq,pack,pid,parN,lid,chkK,apartV,Heap.none,e1,e2]
  simp (disch := omega) only [if_pos,if_neg,zt,take_set_len,take_set2_len,take_rep_len,take_snoc_len,take_app_len]
  exact h9
theorem times_c {x y : Nat} (hl : LE x + LE y ≤ 35184372088832) : R FF 90 [(AV.l 1 (List.map n64 (E x))),(AV.l 1 (List.map n64 (E y)))] = some (AV.l 1 (List.map n64 (E (x * y)))) := by
 have hl' : (E x).length + (E y).length ≤ 35184372088832 := hl
 obtain ⟨o,h1,h2,h3,h4⟩ := times_l0 (E_dig x) (E_dig y) hl' (E x).length 0 (zL ((E x).length + (E y).length) 0) (by omega) (by rw [zP]) (Dg.Dig.replicate (by decide) _) (by rw [Dg.vl_replicate_zero]; simp [Dg.vl]) (fun j hj => by
  rw [zo]
  by_cases h : j < (E x).length + (E y).length <;> simp [List.getElem?_replicate,h])
 have h5 := rtrim_c h2 (by omega) (n := x * y) (by rw [h4,E_vl,E_vl]; exact (Int.natCast_mul x y).symm)
 have e1 : IntKind.i64.wrap (((E x).length : Int) + ((E y).length : Int)) = (((E x).length + (E y).length : Nat) : Int) := w64add (by omega)
 rw [zI] at h1
 rw [R_go FF F90 c90.eq_1]
 simp only [RB,RL,un,St.none,za,zd,ze,zf,zb,zj,zk,zm,zn,zc,zg,zh,zi,↓reduceIte,reduceCtorEq,pack,pid,parN,lid,chkK,apartV,Heap.none,e1]
 simp (disch := omega) only [if_pos,if_neg,zt,take_set_len,take_set2_len,take_rep_len,take_snoc_len,take_app_len,h1]
 simp only [RB,RL,un,St.none,za,zd,ze,zf,zb,zj,zk,zm,zn,zc,zg,zh,zi,↓reduceIte,reduceCtorEq,pack,pid,parN,lid,chkK,apartV,Heap.none,h5]
theorem rdigit_c (l : List Int) (i : Nat) : R FF 120 [(AV.l 1 (List.map n64 l)),(AV.i .i64 ((i : Int)))] = some (AV.i .i64 (l.getD i 0)) := by
 rw [R_go FF F120 c120.eq_1]
 simp only [RB,RL,un,St.none,za,zd,ze,zf,zb,zj,zk,zm,zn,zc,zg,zh,zi,↓reduceIte,reduceCtorEq,pack,pid,parN,lid,chkK,apartV,Heap.none]
 by_cases h : (i : Int) < (l.length : Int)
 ·simp (disch := omega) only [if_pos,if_neg,zt,take_set_len,take_set2_len,take_rep_len,take_snoc_len,take_app_len]
 ·rw [zo,jf (by omega)]
  simp (disch := omega) only [if_pos,if_neg,zt,take_set_len,take_set2_len,take_rep_len,take_snoc_len,take_app_len]
  rfl
theorem getD_beyond {l : List Int} {i : Nat} (h : l.length ≤ i) : l.getD i 0 = 0 := by rw [zo,jf h]; rfl
theorem getD_snoc {l : List Int} {i : Nat} (x : Int) (h : l.length = i) : (l ++ [x]).getD i 0 = x := by
 subst h
 rw [zo,jc (zz _),Nat.sub_self]
 rfl
theorem vl_snoc (B : Int) (l : List Int) (x : Int) : Dg.vl B (l ++ [x]) = Dg.vl B l + x * B ^ l.length := by
 rw [Dg.vl_append]
 simp [Dg.vl]
 exact Int.mul_comm _ _
theorem plus_l0 {a b : List Int} (ha : Dg.Dig 10000 a) (hb : Dg.Dig 10000 b) (ta : Dg.Top a) (tb : Dg.Top b) (hla : a.length ≤ 4398046511104) (hlb : b.length ≤ 4398046511104) {n : Nat} (hn : Dg.vl 10000 a + Dg.vl 10000 b = n) :
  ∀ (d i : Nat) (out : List Int) (c : Int),max a.length b.length + 1 ≤ i + d → i ≤ max a.length b.length + 1 → (i = max a.length b.length + 1 → c = 0) → out.length = i → Dg.Dig 10000 out → 0 ≤ c → c ≤ 1 → Dg.vl 10000 out + c * 10000 ^ i = Dg.vl 10000 (a.take i) + Dg.vl 10000 (b.take i) →
  (i = 0 ∨ i < max a.length b.length ∨ c ≠ 0 ∨ out.getD (i - 1) 0 ≠ 0) → LP FF [(5,1),(0,0),(1,0),(6,0),(7,0)] [(5,0)] b87_0 [.own true 1 (out.map n64),(AV.l 1 (List.map n64 a)),(AV.l 1 (List.map n64 b)),(AV.i .i64 c),(AV.i .i64 ((i : Int)))] = some (.exit 0,[(AV.l 1 (List.map n64 (E n)))]) := by
 intro d
 induction d with
 | zero =>
  intro i out c hid hi2 hc9 ho hd hc0 hc1 hv ht
  have hi : i = max a.length b.length + 1 := by omega
  have hc := hc9 hi
  subst hc
  have he : out = E n := by
   refine E_of hd ?_ ?_
   ·intro _
    rw [ho]
    rcases ht with h | h | h | h
    ·omega
    ·omega
    ·exact absurd rfl h
    ·exact h
   ·rw [zp (by omega),zp (by omega),hn] at hv
    simpa using hv
  rw [← he]
  rw [LP_go FF b87_0.eq_1]
  simp only [RB,RL,un,St.none,za,zd,ze,zf,zb,zj,zk,zm,zn,zc,zg,zh,zi,↓reduceIte,reduceCtorEq,pack,pid,parN,lid,chkK,apartV,Heap.none]
  simp (disch := omega) only [if_pos,if_neg,zt,take_set_len,take_set2_len,take_rep_len,take_snoc_len,take_app_len]
 | succ d ih =>
  intro i out c hid hi2 hc9 ho hd hc0 hc1 hv ht
  have ga := ha.getD (by decide) i
  have gb := hb.getD (by decide) i
  have e1 : IntKind.i64.wrap (c + a.getD i 0) = c + a.getD i 0 := w64 (by omega) (by omega)
  have e2 : IntKind.i64.wrap (c + a.getD i 0 + b.getD i 0) = c + a.getD i 0 + b.getD i 0 := w64 (by omega) (by omega)
  have e3 : IntKind.i64.wrap ((i : Int) + 1) = ((i + 1 : Nat) : Int) := w64succ (by omega)
  have e6 : Int.tmod (c + a.getD i 0 + b.getD i 0) 10000 = (c + a.getD i 0 + b.getD i 0) % 10000 := tmod_pos (by omega)
  have e7 : IntKind.i64.wrap (Int.tdiv (c + a.getD i 0 + b.getD i 0) 10000) = (c + a.getD i 0 + b.getD i 0) / 10000 := by rw [tdiv_pos (by omega)]; exact w64 (by omega) (by omega)
  rw [LP_go FF b87_0.eq_1]
  simp only [RB,RL,un,St.none,za,zd,ze,zf,zb,zj,zk,zm,zn,zc,zg,zh,zi,↓reduceIte,reduceCtorEq,pack,pid,parN,lid,chkK,apartV,Heap.none,rdigit_c,e1,e2,e3,e6,e7]
  by_cases hgo : (i : Int) < (a.length : Int) ∨ (i : Int) < (b.length : Int) ∨ 0 < c
  ·have hig : i ≤ max a.length b.length := by
    rcases jl (max a.length b.length) i with h | h
    ·have := hc9 (by omega); omega
    ·exact h
   simp (disch := omega) only [if_pos,if_neg,zt,take_set_len,take_set2_len,take_rep_len,take_snoc_len,take_app_len]
   refine ih (i + 1) _ _ (by omega) (by omega) ?_ (by simp [ho]) (hd.append (Dg.Dig.cons (by omega) (by omega) Dg.Dig.nil)) (by omega) (by omega) ?_ ?_
   ·intro h9
    have h1 := getD_beyond (l := a) (i := i) (by omega)
    have h2 := getD_beyond (l := b) (i := i) (by omega)
    rw [h1,h2]
    omega
   ·rw [vl_snoc,ho,Dg.vl_take_succ,Dg.vl_take_succ,Int.pow_succ]
    have h := Int.mul_ediv_add_emod (c + a.getD i 0 + b.getD i 0) 10000
    grind
   ·by_cases h9 : i + 1 < max a.length b.length
    ·exact .inr (.inl h9)
    ·refine .inr (.inr ?_)
     rw [Nat.add_sub_cancel,getD_snoc _ ho]
     have hs : 0 < c + a.getD i 0 + b.getD i 0 := by
      rcases jl i (max a.length b.length) with h | h
      ·by_cases hab : a.length = max a.length b.length
       ·have := ta (fun e => by have h0 : a.length = 0 := (by rw [e]; rfl); omega)
        rw [show a.length - 1 = i by omega] at this
        omega
       ·have := tb (fun e => by have h0 : b.length = 0 := (by rw [e]; rfl); omega)
        rw [show b.length - 1 = i by omega] at this
        omega
      ·omega
     by_cases hq : (c + a.getD i 0 + b.getD i 0) / 10000 = 0
     ·right; omega
     ·left; exact hq
  ·have hc : c = 0 := by omega
   subst hc
   have he : out = E n := by
    refine E_of hd ?_ ?_
    ·intro hne
     rw [ho]
     rcases ht with h | h | h | h
     ·subst h
      exact absurd (List.length_eq_zero_iff.1 ho) hne
     ·omega
     ·exact absurd rfl h
     ·exact h
    ·rw [zp (by omega),zp (by omega),hn] at hv
     simpa using hv
   simp (disch := omega) only [if_pos,if_neg,zt,take_set_len,take_set2_len,take_rep_len,take_snoc_len,take_app_len]
   rw [he]
theorem plus_c {x y : Nat} (hx : LE x ≤ 4398046511104) (hy : LE y ≤ 4398046511104) : R FF 87 [(AV.l 1 (List.map n64 (E x))),(AV.l 1 (List.map n64 (E y)))] = some (AV.l 1 (List.map n64 (E (x + y)))) := by
 have h := plus_l0 (E_dig x) (E_dig y) (E_top x) (E_top y) hx hy (n := x + y) (by rw [E_vl,E_vl]; omega) (max (E x).length (E y).length + 1) 0 [] 0 (by omega) (by omega) (by omega) rfl Dg.Dig.nil (by omega) (by omega) (by simp [Dg.vl]) (.inl rfl)
 rw [zI,zR] at h
 rw [R_go FF F87 c87.eq_1]
 simp only [RB,RL,un,St.none,za,zd,ze,zf,zb,zj,zk,zm,zn,zc,zg,zh,zi,↓reduceIte,reduceCtorEq,pack,pid,parN,lid,chkK,apartV,Heap.none,h]
theorem minus_l0 {a b : List Int} (ha : Dg.Dig 10000 a) (hb : Dg.Dig 10000 b) (hla : a.length ≤ 4398046511104) (hlb : b.length ≤ a.length) {n : Nat} (hn : Dg.vl 10000 a - Dg.vl 10000 b = n) :
  ∀ (d i : Nat) (out : List Int) (c : Int),i + d = a.length → out.length = i → Dg.Dig 10000 out → 0 ≤ c → c ≤ 1 → Dg.vl 10000 out - c * 10000 ^ i = Dg.vl 10000 (a.take i) - Dg.vl 10000 (b.take i) →
  ∃ o,LP FF [(5,1),(0,0),(1,0),(6,0),(7,0)] [(5,0)] b89_0 [.own true 1 (out.map n64),(AV.l 1 (List.map n64 a)),(AV.l 1 (List.map n64 b)),(AV.i .i64 c),(AV.i .i64 ((i : Int)))] = some (.exit 0,[(AV.l 1 (List.map n64 o))]) ∧ Dg.Dig 10000 o ∧ o.length = a.length ∧ Dg.vl 10000 o = n := by
 intro d
 induction d with
 | zero =>
  intro i out c hi ho hd hc0 hc1 hv
  refine ⟨out,?_,hd,by omega,?_⟩
  ·rw [LP_go FF b89_0.eq_1]
   simp only [RB,RL,un,St.none,za,zd,ze,zf,zb,zj,zk,zm,zn,zc,zg,zh,zi,↓reduceIte,reduceCtorEq,pack,pid,parN,lid,chkK,apartV,Heap.none]
   simp (disch := omega) only [if_pos,if_neg,zt,take_set_len,take_set2_len,take_rep_len,take_snoc_len,take_app_len]
  rw [zp (by omega),zp (by omega),hn] at hv
  have h1 := Dg.vl_lt hd (by decide)
  rw [ho] at h1
  rcases (show c = 0 ∨ c = 1 by omega) with h | h
  ·subst h
   simpa using hv
  ·subst h
   omega
 | succ d ih =>
  intro i out c hi ho hd hc0 hc1 hv
  have ga := ha.getD (by decide) i
  have gb := hb.getD (by decide) i
  have e1 : IntKind.i64.wrap (a.getD i 0 - b.getD i 0) = a.getD i 0 - b.getD i 0 := w64 (by omega) (by omega)
  have e2 : IntKind.i64.wrap (a.getD i 0 - b.getD i 0 - c) = a.getD i 0 - b.getD i 0 - c := w64 (by omega) (by omega)
  have e3 : IntKind.i64.wrap ((i : Int) + 1) = ((i + 1 : Nat) : Int) := w64succ (by omega)
  have e4 : IntKind.i64.wrap (a.getD i 0 - b.getD i 0 - c + 10000) = a.getD i 0 - b.getD i 0 - c + 10000 := w64 (by omega) (by omega)
  rw [LP_go FF b89_0.eq_1]
  simp only [RB,RL,un,St.none,za,zd,ze,zf,zb,zj,zk,zm,zn,zc,zg,zh,zi,↓reduceIte,reduceCtorEq,pack,pid,parN,lid,chkK,apartV,Heap.none,rdigit_c,e1,e2,e3,e4]
  by_cases h : a.getD i 0 - b.getD i 0 - c < 0
  ·simp (disch := omega) only [if_pos,if_neg,zt,take_set_len,take_set2_len,take_rep_len,take_snoc_len,take_app_len]
   refine ih (i + 1) _ _ (by omega) (by simp [ho]) (hd.append (Dg.Dig.cons (by omega) (by omega) Dg.Dig.nil)) (by omega) (by omega) ?_
   rw [vl_snoc,ho,Dg.vl_take_succ,Dg.vl_take_succ,Int.pow_succ]
   grind
  ·simp (disch := omega) only [if_pos,if_neg,zt,take_set_len,take_set2_len,take_rep_len,take_snoc_len,take_app_len]
   refine ih (i + 1) _ _ (by omega) (by simp [ho]) (hd.append (Dg.Dig.cons (by omega) (by omega) Dg.Dig.nil)) (by omega) (by omega) ?_
   rw [vl_snoc,ho,Dg.vl_take_succ,Dg.vl_take_succ,Int.pow_succ]
   grind
theorem minus_c {x y : Nat} (h : y ≤ x) (hx : LE x ≤ 4398046511104) : R FF 89 [(AV.l 1 (List.map n64 (E x))),(AV.l 1 (List.map n64 (E y)))] = some (AV.l 1 (List.map n64 (E (x - y)))) := by
 obtain ⟨o,h1,h2,h3,h4⟩ := minus_l0 (E_dig x) (E_dig y) hx (LE_mono h) (n := x - y) (by rw [E_vl,E_vl]; omega) (E x).length 0 [] 0 (by omega) rfl Dg.Dig.nil (by omega) (by omega) (by simp [Dg.vl])
 have hx' : (E x).length ≤ 4398046511104 := hx
 rw [zI,zR] at h1
 rw [R_go FF F89 c89.eq_1]
 simp only [RB,RL,un,St.none,za,zd,ze,zf,zb,zj,zk,zm,zn,zc,zg,zh,zi,↓reduceIte,reduceCtorEq,pack,pid,parN,lid,chkK,apartV,Heap.none,h1,rtrim_c h2 (by omega) h4]
theorem small_l0 : ∀ (n : Nat) (out : List Int),out.length + LE n ≤ 4398046511104 → n ≤ 9223372036854775807 → LP FF [(3,1),(0,0)] [(3,0)] b118_0 [.own true 1 (out.map n64),(AV.i .i64 ((n : Int)))] = some (.exit 0,[(AV.l 1 (List.map n64 (out ++ E n)))]) := by
 intro n
 induction n using Nat.strongRecOn with
 | _ n ih =>
  intro out hl hn
  rw [LP_go FF b118_0.eq_1]
  simp only [RB,RL,un,St.none,za,zd,ze,zf,zb,zj,zk,zm,zn,zc,zg,zh,zi,↓reduceIte,reduceCtorEq,pack,pid,parN,lid,chkK,apartV,Heap.none]
  by_cases h0 : n = 0
  ·subst h0
   simp (disch := omega) only [if_pos,if_neg,zt,take_set_len,take_set2_len,take_rep_len,take_snoc_len,take_app_len]
   rw [E_zero,List.append_nil]
  ·have hE : E n = ((n % 10000 : Nat) : Int) :: E (n / 10000) := Dg.dg_succ (by decide) h0
   have hLE : LE n = LE (n / 10000) + 1 := by unfold LE; rw [hE]; rfl
   have := ih (n / 10000) (Nat.div_lt_self (by omega) (by omega)) (out ++ [((n % 10000 : Nat) : Int)]) (by rw [zx,jg]; omega) (by omega)
   rw [hE]
   have e1 : ((n / 10000 : Nat) : Int) = (n : Int) / 10000 := by omega
   have e2 : ((n % 10000 : Nat) : Int) = (n : Int) % 10000 := by omega
   rw [e1,e2] at this
   rw [e2,tmod_pos (by omega),tdiv_pos (by omega),w64 (by omega) (by omega)]
   rw [List.append_assoc] at this
   simp (disch := omega) only [if_pos,if_neg,zt,take_set_len,take_set2_len,take_rep_len,take_snoc_len,take_app_len]
   exact this
theorem LE_u64 {n : Nat} (h : n ≤ 18446744073709551615) : LE n ≤ 5 := LE_le (by omega)
theorem small_c {x : Int} {n : Nat} (h : x = n) (hn : n ≤ 9223372036854775807) : R FF 118 [(AV.i .i64 x)] = some (AV.l 1 (List.map n64 (E n))) := by
 subst h
 have h1 := LE_u64 (n := n) (by omega)
 have h := small_l0 n [] (by simp; omega) hn
 rw [zR,List.nil_append] at h
 rw [R_go FF F118 c118.eq_1]
 simp only [RB,RL,un,St.none,za,zd,ze,zf,zb,zj,zk,zm,zn,zc,zg,zh,zi,↓reduceIte,reduceCtorEq,pack,pid,parN,lid,chkK,apartV,Heap.none,h]
theorem rorder_l0 {a b : List Int} (ha : Dg.Dig 10000 a) (hb : Dg.Dig 10000 b) (hl : a.length = b.length) (hs : a.length ≤ 35184372088832) : ∀ n : Nat,n ≤ a.length →
  ∃ ex x,LP FF [(0,0),(1,0),(5,0)] [(4,0)] b88_0 [(AV.l 1 (List.map n64 a)),(AV.l 1 (List.map n64 b)),(AV.i .i64 ((n : Int) - 1))] = some (ex,[x]) ∧ (ex = .ret ∧ x = (AV.i .i64 (cmp (Dg.vl 10000 (a.take n)) (Dg.vl 10000 (b.take n)))) ∨ ex = .exit 0 ∧ cmp (Dg.vl 10000 (a.take n)) (Dg.vl 10000 (b.take n)) = 0) := by
 intro n
 induction n with
 | zero =>
  intro _
  rw [LP_go FF b88_0.eq_1]
  simp only [RB,RL,un,St.none,za,zd,ze,zf,zb,zj,zk,zm,zn,zc,zg,zh,zi,↓reduceIte,reduceCtorEq,pack,pid,parN,lid,chkK,apartV,Heap.none]
  exact ⟨_,_,rfl,.inr ⟨rfl,rfl⟩⟩
 | succ n ih =>
  intro hn
  have e0 : ((n + 1 : Nat) : Int) - 1 = (n : Int) := by omega
  have e : IntKind.i64.wrap ((n : Int) - 1) = (n : Int) - 1 := w64 (by omega) (by omega)
  have ga := ha.getD (by decide) n
  have gb := hb.getD (by decide) n
  have a0 := Dg.vl_nonneg (ha.take n) (by decide)
  have b0 := Dg.vl_nonneg (hb.take n) (by decide)
  have a1 := Dg.vl_lt (ha.take n) (by decide)
  have b1 := Dg.vl_lt (hb.take n) (by decide)
  have hla : (a.take n).length = n := by rw [zD]; omega
  have hlb : (b.take n).length = n := by rw [zD]; omega
  rw [hla] at a1
  rw [hlb] at b1
  rw [LP_go FF b88_0.eq_1]
  simp only [RB,RL,un,St.none,za,zd,ze,zf,zb,zj,zk,zm,zn,zc,zg,zh,zi,↓reduceIte,reduceCtorEq,pack,pid,parN,lid,chkK,apartV,Heap.none,e0,e]
  simp (disch := omega) only [if_pos,if_neg,zt,take_set_len,take_set2_len,take_rep_len,take_snoc_len,take_app_len]
  rw [Dg.vl_take_succ,Dg.vl_take_succ]
  by_cases h1 : a.getD n 0 < b.getD n 0
  ·rw [if_pos h1]
   exact ⟨_,_,rfl,.inl ⟨rfl,by rw [cmp_lt (cmp_top (B := 0) a0 a1 b0 b1 h1)]⟩⟩
  ·rw [if_neg h1]
   by_cases h2 : b.getD n 0 < a.getD n 0
   ·rw [if_pos h2]
    exact ⟨_,_,rfl,.inl ⟨rfl,by rw [cmp_gt (cmp_top (B := 0) b0 b1 a0 a1 h2)]⟩⟩
   ·rw [if_neg h2]
    have h3 : a.getD n 0 = b.getD n 0 := by omega
    have h4 : cmp (Dg.vl 10000 (a.take n) + a.getD n 0 * 10000 ^ n) (Dg.vl 10000 (b.take n) + b.getD n 0 * 10000 ^ n) = cmp (Dg.vl 10000 (a.take n)) (Dg.vl 10000 (b.take n)) := by
     rw [h3]
     unfold cmp
     split <;> split <;> (try split) <;> (try split) <;> first | rfl | omega
    rw [h4]
    exact ih (by omega)
theorem rorder_c {m n : Nat} (hm : LE m ≤ 35184372088832) (hn : LE n ≤ 35184372088832) : R FF 88 [(AV.l 1 (List.map n64 (E m))),(AV.l 1 (List.map n64 (E n)))] = some (AV.i .i64 (cmp m n)) := by
 have hm' : (E m).length ≤ 35184372088832 := hm
 have hn' : (E n).length ≤ 35184372088832 := hn
 have e : IntKind.i64.wrap (((E m).length : Int) - 1) = ((E m).length : Int) - 1 := w64 (by omega) (by omega)
 rw [R_go FF F88 c88.eq_1]
 simp only [RB,RL,un,St.none,za,zd,ze,zf,zb,zj,zk,zm,zn,zc,zg,zh,zi,↓reduceIte,reduceCtorEq,pack,pid,parN,lid,chkK,apartV,Heap.none,e]
 by_cases h1 : ((E m).length : Int) < ((E n).length : Int)
 ·rw [cmp_lt (by have := len_lt_imp _ (by decide) (show (E m).length < (E n).length by omega); omega)]
  simp (disch := omega) only [if_pos,if_neg,zt,take_set_len,take_set2_len,take_rep_len,take_snoc_len,take_app_len]
 ·by_cases h2 : ((E n).length : Int) < ((E m).length : Int)
  ·rw [cmp_gt (by have := len_lt_imp _ (by decide) (show (E n).length < (E m).length by omega); omega)]
   simp (disch := omega) only [if_pos,if_neg,zt,take_set_len,take_set2_len,take_rep_len,take_snoc_len,take_app_len]
  ·obtain ⟨ex,x,h3,h4⟩ := rorder_l0 (E_dig m) (E_dig n) (by omega) hm' (E m).length (zz _)
   rw [zt,show (E m).length = (E n).length by omega,zt,E_vl,E_vl] at h4
   simp (disch := omega) only [if_pos,if_neg,zt,take_set_len,take_set2_len,take_rep_len,take_snoc_len,take_app_len]
   rcases h4 with ⟨rfl,rfl⟩ | ⟨rfl,h4⟩
   ·simp only [RB,RL,un,St.none,za,zd,ze,zf,zb,zj,zk,zm,zn,zc,zg,zh,zi,↓reduceIte,reduceCtorEq,pack,pid,parN,lid,chkK,apartV,Heap.none,h3]
   ·simp only [RB,RL,un,St.none,za,zd,ze,zf,zb,zj,zk,zm,zn,zc,zg,zh,zi,↓reduceIte,reduceCtorEq,pack,pid,parN,lid,chkK,apartV,Heap.none,h3]
    rw [h4]
theorem LE_L (n : Nat) : LE n ≤ 3 * L n := by
 refine LE_le (je (L_lt n) ?_)
 rw [Nat.pow_mul]
 exact Nat.pow_le_pow_left (by decide) _
theorem W_drop_succ (l : List Int) (n : Nat) (h : n < l.length) : W (l.drop n) = (l.getD n 0 % 4294967296).toNat + 4294967296 * W (l.drop (n + 1)) := by
 have h1 := W_map (l.drop n)
 have h2 := W_map (l.drop (n + 1))
 rw [List.map_drop,Dg.vl_drop_succ,← List.map_drop] at h1
 rw [← h2] at h1
 have h3 : (l.map (· % 4294967296)).getD n 0 = l.getD n 0 % 4294967296 := by
  rw [zo,zo,List.getElem?_map,zr h]
  rfl
 rw [h3] at h1
 omega
theorem from_l0 {l : List Int} (hu : U l) (hl : l.length ≤ 1000000000000) : ∀ n : Nat,n ≤ l.length → LP FF [(0,0),(3,0),(4,0),(5,0)] [(3,0)] b79_0 [(AV.l 1 (List.map u l)),(AV.l 1 (List.map n64 (E (W (l.drop n))))),(AV.l 1 (List.map n64 (E 4294967296))),(AV.i .i64 ((n : Int) - 1))] = some (.exit 0,[(AV.l 1 (List.map n64 (E (W l))))]) := by
 intro n
 induction n with
 | zero =>
  intro _
  rw [LP_go FF b79_0.eq_1]
  simp only [RB,RL,un,St.none,za,zd,ze,zf,zb,zj,zk,zm,zn,zc,zg,zh,zi,↓reduceIte,reduceCtorEq,pack,pid,parN,lid,chkK,apartV,Heap.none]
 | succ n ih =>
  intro hn
  have e0 : ((n + 1 : Nat) : Int) - 1 = (n : Int) := by omega
  have hg := U_get hu n
  have hL1 : LE (W (l.drop (n + 1))) ≤ 3 * l.length := zE (LE_L _) (Nat.mul_le_mul_left _ (zE (L_W _) (by rw [jd]; omega)))
  have h5 : LE 4294967296 ≤ 5 := LE_u64 (by omega)
  have hL2 := LE_mul (W (l.drop (n + 1))) 4294967296
  have hv := W_drop_succ l n (by omega)
  have hs : LE (l.getD n 0 % 4294967296).toNat ≤ 5 := LE_u64 (by omega)
  have h1 := times_c (x := W (l.drop (n + 1))) (y := 4294967296) (by omega)
  have h2 := small_c (x := l.getD n 0 % 4294967296) (n := (l.getD n 0 % 4294967296).toNat) (by omega) (by omega)
  have h3 := plus_c (x := W (l.drop (n + 1)) * 4294967296) (y := (l.getD n 0 % 4294967296).toNat) (by omega) (by omega)
  rw [show W (l.drop (n + 1)) * 4294967296 + (l.getD n 0 % 4294967296).toNat = W (l.drop n) by omega] at h3
  have e1 : IntKind.i64.wrap (l.getD n 0 % 4294967296) = l.getD n 0 % 4294967296 := w64 (by omega) (by omega)
  have e2 : IntKind.i64.wrap ((n : Int) - 1) = (n : Int) - 1 := w64 (by omega) (by omega)
  rw [LP_go FF b79_0.eq_1]
  simp only [RB,RL,un,St.none,za,zd,ze,zf,zb,zj,zk,zm,zn,zc,zg,zh,zi,↓reduceIte,reduceCtorEq,pack,pid,parN,lid,chkK,apartV,Heap.none,e0,h1,and32 hg.1 hg.2,e1,h2,h3,e2]
  simp (disch := omega) only [if_pos,if_neg,zt,take_set_len,take_set2_len,take_rep_len,take_snoc_len,take_app_len]
  exact ih (by omega)
theorem from_c {l : List Int} (hu : U l) (hl : l.length ≤ 1000000000000) : R FF 79 [(AV.l 1 (List.map u l))] = some (AV.l 1 (List.map n64 (E (W l)))) := by
 have h1 := small_c (x := 4294967296) (n := 4294967296) rfl (by omega)
 have h2 := from_l0 hu hl l.length (zz _)
 rw [List.drop_length,W_nil,E_zero,zR] at h2
 have e1 : IntKind.i64.wrap ((l.length : Int) - 1) = (l.length : Int) - 1 := w64 (by omega) (by omega)
 rw [R_go FF F79 c79.eq_1]
 simp only [RB,RL,un,St.none,za,zd,ze,zf,zb,zj,zk,zm,zn,zc,zg,zh,zi,↓reduceIte,reduceCtorEq,pack,pid,parN,lid,chkK,apartV,Heap.none,h1,e1,h2]
theorem from_D {n : Nat} (hl : L n ≤ 1000000000000) : R FF 79 [(AV.l 1 (List.map u (D n)))] = some (AV.l 1 (List.map n64 (E n))) := by
 have := from_c (D_U n) hl
 rwa [W_D] at this
theorem getD_rep (n j : Nat) : (zL n (0 : Int)).getD j 0 = 0 := by
 rw [zo]
 by_cases h : j < n <;> simp [List.getElem?_replicate,h]
theorem mul_l1 {a b : List Int} (ha : Dg.Dig 4294967296 a) (hb : Dg.Dig 4294967296 b) (hl : a.length + b.length ≤ 35184372088832) {i : Nat} (hi : i < a.length) (out : List Int) : ∀ (e m : Nat) (o : List Int) (c : Int),m + e = b.length → o.length = a.length + b.length → Dg.Dig 4294967296 o → 0 ≤ c → c ≤ 4294967295 → (∀ j,i + b.length ≤ j → o.getD j 0 = 0) →
  Dg.vl 4294967296 o + c * 4294967296 ^ (i + m) = Dg.vl 4294967296 out + a.getD i 0 * Dg.vl 4294967296 (b.take m) * 4294967296 ^ i →
  ∃ o' c',LP FF [(5,1),(1,0),(6,0),(7,0),(8,0),(21,0),(22,0),(23,0),(28,0),(29,0),(30,0)] [(5,1),(1,0),(6,0),(8,0),(21,0),(22,0),(23,0)] b77_1 [.own true 1 (o.map u),(AV.l 1 (List.map u b)),(AV.i .i64 ((i : Int))),(AV.i .u64 (a.getD i 0)),(AV.i .u64 c),(AV.l 1 (List.map u a)),(AV.i .i64 ((a.length : Int))),(AV.i .i64 ((i : Int))),(AV.l 1 (List.map u b)),(AV.i .i64 ((b.length : Int))),(AV.i .i64 ((m : Int)))] = some (.exit 2,[.own true 1 (o'.map u),(AV.l 1 (List.map u b)),(AV.i .i64 ((i : Int))),(AV.i .u64 (c')),(AV.l 1 (List.map u a)),(AV.i .i64 ((a.length : Int))),(AV.i .i64 ((i : Int)))]) ∧
   o'.length = a.length + b.length ∧ Dg.Dig 4294967296 o' ∧ 0 ≤ c' ∧ c' ≤ 4294967295 ∧ (∀ j,i + b.length ≤ j → o'.getD j 0 = 0) ∧ Dg.vl 4294967296 o' + c' * 4294967296 ^ (i + b.length) = Dg.vl 4294967296 out + a.getD i 0 * Dg.vl 4294967296 b * 4294967296 ^ i := by
 have gi := ha.getD (by decide) i
 intro e
 induction e with
 | zero =>
  intro m o c hm ho2 hd2 hc0 hc1 hz2 hv2
  have hmb : m = b.length := by omega
  subst hmb
  rw [zt] at hv2
  refine ⟨o,c,?_,ho2,hd2,hc0,hc1,hz2,hv2⟩
  rw [LP_go FF b77_1.eq_1]
  simp only [RB,RL,un,St.none,za,zd,ze,zf,zb,zj,zk,zm,zn,zc,zg,zh,zi,↓reduceIte,reduceCtorEq,pack,pid,parN,lid,chkK,apartV,Heap.none]
  simp (disch := omega) only [if_pos,if_neg,zt,take_set_len,take_set2_len,take_rep_len,take_snoc_len,take_app_len]
 | succ e ih2 =>
  intro m o c hm ho2 hd2 hc0 hc1 hz2 hv2
  have gm := hb.getD (by decide) m
  have go := hd2.getD (by decide) (i + m)
  have hx := mul_bound gi.1 (show a.getD i 0 ≤ 4294967295 by omega) gm.1 (show b.getD m 0 ≤ 4294967295 by omega)
  have ht : c + (o.getD (i + m) 0 + a.getD i 0 * b.getD m 0) = c + o.getD (i + m) 0 + a.getD i 0 * b.getD m 0 := by omega
  have h9 := ih2 (m + 1) (o.set (i + m) ((c + (o.getD (i + m) 0 + a.getD i 0 * b.getD m 0)) % 4294967296)) ((c + (o.getD (i + m) 0 + a.getD i 0 * b.getD m 0)) / 4294967296) (by omega) (by rw [zU]; exact ho2) (hd2.set _ (by omega) (by omega)) (by omega) (by omega) (zero_set _ (by omega) hz2) (by
   have := mul_step (B := 4294967296) (x := a.getD i 0 * b.getD m 0) (show i + m < o.length by omega) hv2 (t := c + o.getD (i + m) 0 + a.getD i 0 * b.getD m 0) rfl
   rw [ht,show i + (m + 1) = i + m + 1 by omega,this,Dg.vl_take_succ,Int.pow_add]
   grind)
  have e1 : IntKind.i64.wrap ((i : Int) + (m : Int)) = ((i + m : Nat) : Int) := w64add (by omega)
  have e2 : IntKind.i64.wrap ((m : Int) + 1) = ((m + 1 : Nat) : Int) := w64succ (by omega)
  have e3 : IntKind.u64.wrap (a.getD i 0 * b.getD m 0) = a.getD i 0 * b.getD m 0 := u64w (by omega) (by omega)
  have e4 : IntKind.u64.wrap (o.getD (i + m) 0 + a.getD i 0 * b.getD m 0) = o.getD (i + m) 0 + a.getD i 0 * b.getD m 0 := u64w (by omega) (by omega)
  have e5 : IntKind.u64.wrap (c + (o.getD (i + m) 0 + a.getD i 0 * b.getD m 0)) = c + (o.getD (i + m) 0 + a.getD i 0 * b.getD m 0) := u64w (by omega) (by omega)
  have e6 := and32 (x := c + (o.getD (i + m) 0 + a.getD i 0 * b.getD m 0)) (by omega) (by omega)
  have e7 := shr32 (x := c + (o.getD (i + m) 0 + a.getD i 0 * b.getD m 0)) (by omega)
  rw [LP_go FF b77_1.eq_1]
  simp only [RB,RL,un,St.none,za,zd,ze,zf,zb,zj,zk,zm,zn,zc,zg,zh,zi,↓reduceIte,reduceCtorEq,pack,pid,parN,lid,chkK,apartV,Heap.none,e1,e2,e3,e4,e5,e6,e7]
  simp (disch := omega) only [if_pos,if_neg,zt,take_set_len,take_set2_len,take_rep_len,take_snoc_len,take_app_len]
  exact h9
theorem mul_l0 {a b : List Int} (ha : Dg.Dig 4294967296 a) (hb : Dg.Dig 4294967296 b) (hl : a.length + b.length ≤ 35184372088832) :
  ∀ (d i : Nat) (out : List Int),i + d = a.length → out.length = a.length + b.length → Dg.Dig 4294967296 out → Dg.vl 4294967296 out = Dg.vl 4294967296 (a.take i) * Dg.vl 4294967296 b → (∀ j,i + b.length ≤ j → out.getD j 0 = 0) →
  ∃ o,LP FF [(5,1),(1,0),(21,0),(22,0),(23,0)] [(5,0)] b77_0 [.own true 1 (out.map u),(AV.l 1 (List.map u b)),(AV.l 1 (List.map u a)),(AV.i .i64 ((a.length : Int))),(AV.i .i64 ((i : Int)))] = some (.exit 0,[(AV.l 1 (List.map u o))]) ∧ Dg.Dig 4294967296 o ∧ o.length = a.length + b.length ∧ Dg.vl 4294967296 o = Dg.vl 4294967296 a * Dg.vl 4294967296 b := by
 intro d
 induction d with
 | zero =>
  intro i out hi ho hd hv hz
  rw [zp (by omega)] at hv
  refine ⟨out,?_,hd,ho,hv⟩
  rw [LP_go FF b77_0.eq_1]
  simp only [RB,RL,un,St.none,za,zd,ze,zf,zb,zj,zk,zm,zn,zc,zg,zh,zi,↓reduceIte,reduceCtorEq,pack,pid,parN,lid,chkK,apartV,Heap.none]
  simp (disch := omega) only [if_pos,if_neg,zt,take_set_len,take_set2_len,take_rep_len,take_snoc_len,take_app_len]
 | succ d ih =>
  intro i out hi ho hd hv hz
  obtain ⟨o,c,h1,h2,h3,h4,h5,h6,h7⟩ := mul_l1 ha hb hl (show i < a.length by omega) out b.length 0 out 0 (by omega) ho hd (by omega) (by omega) hz (by simp [Dg.vl])
  have h9 := ih (i + 1) (o.set (i + b.length) c) (by omega) (by rw [zU]; exact h2) (h3.set _ h4 (by omega)) (by
   rw [Dg.vl_set _ _ _ _ (by omega),h6 _ (zz _),Int.sub_zero,h7,hv,Dg.vl_take_succ]
   grind) (fun j hj => zero_set c (q := i + b.length + 1) (by omega) (fun j hj => h6 j (by omega)) j (by omega))
  have e1 : IntKind.i64.wrap ((i : Int) + (b.length : Int)) = ((i + b.length : Nat) : Int) := w64add (by omega)
  have e2 : IntKind.i64.wrap ((i : Int) + 1) = ((i + 1 : Nat) : Int) := w64succ (by omega)
  rw [zI] at h1
  rw [LP_go FF b77_0.eq_1]
  simp only [RB,RL,un,St.none,za,zd,ze,zf,zb,zj,zk,zm,zn,zc,zg,zh,zi,↓reduceIte,reduceCtorEq,pack,pid,parN,lid,chkK,apartV,Heap.none]
  simp (disch := omega) only [if_pos,if_neg,zt,take_set_len,take_set2_len,take_rep_len,take_snoc_len,take_app_len,h1]
  simp only [RB,RL,un,St.none,za,zd,ze,zf,zb,zj,zk,zm,zn,zc,zg,zh,zi,↓reduceIte,reduceCtorEq,pack,pid,parN,lid,chkK,apartV,Heap.none,e1,e2]
  simp (disch := omega) only [if_pos,if_neg,zt,take_set_len,take_set2_len,take_rep_len,take_snoc_len,take_app_len]
  exact h9
theorem mul_c {a b : List Int} (ha : U a) (hb : U b) (hl : a.length + b.length ≤ 35184372088832) : R FF 77 [(AV.l 1 (List.map u a)),(AV.l 1 (List.map u b))] = some (AV.l 1 (List.map u (D (W a * W b)))) := by
 have g1 : (D (W a)).length ≤ a.length := L_W a
 have g2 : (D (W b)).length ≤ b.length := L_W b
 obtain ⟨o,h1,h2,h3,h4⟩ := mul_l0 (D_dig (W a)) (D_dig (W b)) (by omega) (D (W a)).length 0 (zL ((D (W a)).length + (D (W b)).length) 0) (by omega) (by rw [zP]) (Dg.Dig.replicate (by decide) _) (by rw [Dg.vl_replicate_zero]; simp [Dg.vl]) (fun j _ => getD_rep _ j)
 have h5 := trim_c h2 (by omega) (n := W a * W b) (by rw [h4,D_vl,D_vl]; exact (Int.natCast_mul _ _).symm)
 have e1 : IntKind.i64.wrap (((D (W a)).length : Int) + ((D (W b)).length : Int)) = (((D (W a)).length + (D (W b)).length : Nat) : Int) := w64add (by omega)
 rw [zI] at h1
 rw [R_go FF F77 c77.eq_1]
 simp only [RB,RL,un,St.none,za,zd,ze,zf,zb,zj,zk,zm,zn,zc,zg,zh,zi,↓reduceIte,reduceCtorEq,pack,pid,parN,lid,chkK,apartV,Heap.none,clean_c ha (by omega),clean_c hb (by omega),e1]
 simp (disch := omega) only [if_pos,if_neg,zt,take_set_len,take_set2_len,take_rep_len,take_snoc_len,take_app_len,h1]
 simp only [RB,RL,un,St.none,za,zd,ze,zf,zb,zj,zk,zm,zn,zc,zg,zh,zi,↓reduceIte,reduceCtorEq,pack,pid,parN,lid,chkK,apartV,Heap.none,h5]
theorem mul_D {m n : Nat} (hl : L m + L n ≤ 35184372088832) : R FF 77 [(AV.l 1 (List.map u (D m))),(AV.l 1 (List.map u (D n)))] = some (AV.l 1 (List.map u (D (m * n)))) := by
 have := mul_c (D_U m) (D_U n) hl
 rwa [W_D,W_D] at this
theorem add_l0 {a b : List Int} (ha : Dg.Dig 4294967296 a) (hb : Dg.Dig 4294967296 b) (hl : max a.length b.length + 1 ≤ 35184372088832) {n : Nat} (hn : Dg.vl 4294967296 a + Dg.vl 4294967296 b = n) :
  ∀ (d i : Nat) (out : List Int) (c : Int),i + d = max a.length b.length + 1 → out.length = max a.length b.length + 1 → Dg.Dig 4294967296 out → 0 ≤ c → c ≤ 1 → (i = max a.length b.length + 1 → c = 0) → Dg.vl 4294967296 (out.take i) + c * 4294967296 ^ i = Dg.vl 4294967296 (a.take i) + Dg.vl 4294967296 (b.take i) →
  ∃ o,LP FF [(5,1),(0,0),(1,0),(6,0),(20,0),(21,0)] [(5,0)] b116_0 [.own true 1 (out.map u),(AV.l 1 (List.map u a)),(AV.l 1 (List.map u b)),(AV.i .u64 c),(AV.i .i64 ((out.length : Int))),(AV.i .i64 ((i : Int)))] = some (.exit 0,[(AV.l 1 (List.map u o))]) ∧ Dg.Dig 4294967296 o ∧ o.length = max a.length b.length + 1 ∧ Dg.vl 4294967296 o = n := by
 intro d
 induction d with
 | zero =>
  intro i out c hi ho hd hc0 hc1 hc9 hv
  have hc := hc9 (by omega)
  subst hc
  refine ⟨out,?_,hd,ho,?_⟩
  ·rw [LP_go FF b116_0.eq_1]
   simp only [RB,RL,un,St.none,za,zd,ze,zf,zb,zj,zk,zm,zn,zc,zg,zh,zi,↓reduceIte,reduceCtorEq,pack,pid,parN,lid,chkK,apartV,Heap.none]
   simp (disch := omega) only [if_pos,if_neg,zt,take_set_len,take_set2_len,take_rep_len,take_snoc_len,take_app_len]
  rw [zp (by omega),zp (by omega),zp (by omega),hn] at hv
  simpa using hv
 | succ d ih =>
  intro i out c hi ho hd hc0 hc1 hc9 hv
  have ga := ha.getD (by decide) i
  have gb := hb.getD (by decide) i
  have e1 : IntKind.u64.wrap (a.getD i 0 + b.getD i 0) = a.getD i 0 + b.getD i 0 := u64w (by omega) (by omega)
  have e2 : IntKind.u64.wrap (c + (a.getD i 0 + b.getD i 0)) = c + (a.getD i 0 + b.getD i 0) := u64w (by omega) (by omega)
  have e3 : IntKind.i64.wrap ((i : Int) + 1) = ((i + 1 : Nat) : Int) := w64succ (by omega)
  have e6 := and32 (x := c + (a.getD i 0 + b.getD i 0)) (by omega) (by omega)
  have e7 := shr32 (x := c + (a.getD i 0 + b.getD i 0)) (by omega)
  have h9 := ih (i + 1) (out.set i ((c + (a.getD i 0 + b.getD i 0)) % 4294967296)) ((c + (a.getD i 0 + b.getD i 0)) / 4294967296) (by omega) (by rw [zU]; exact ho) (hd.set _ (by omega) (by omega)) (by omega) (by omega) (by
   intro h9
   have h1 := getD_beyond (l := a) (i := i) (by omega)
   have h2 := getD_beyond (l := b) (i := i) (by omega)
   rw [h1,h2]
   omega) (by
   rw [set_take _ (by omega),vl_snoc,zD,jh (by omega),Dg.vl_take_succ,Dg.vl_take_succ,Int.pow_succ]
   have h := Int.mul_ediv_add_emod (c + (a.getD i 0 + b.getD i 0)) 4294967296
   grind)
  rw [zU] at h9
  rw [LP_go FF b116_0.eq_1]
  simp only [RB,RL,un,St.none,za,zd,ze,zf,zb,zj,zk,zm,zn,zc,zg,zh,zi,↓reduceIte,reduceCtorEq,pack,pid,parN,lid,chkK,apartV,Heap.none,limb_c,e1,e2,e3,e6,e7]
  simp (disch := omega) only [if_pos,if_neg,zt,take_set_len,take_set2_len,take_rep_len,take_snoc_len,take_app_len]
  exact h9
theorem add_c {a b : List Int} (ha : U a) (hb : U b) (hla : a.length + 1 ≤ 35184372088832) (hlb : b.length + 1 ≤ 35184372088832) : R FF 116 [(AV.l 1 (List.map u a)),(AV.l 1 (List.map u b))] = some (AV.l 1 (List.map u (D (W a + W b)))) := by
 have g1 : (D (W a)).length ≤ a.length := L_W a
 have g2 : (D (W b)).length ≤ b.length := L_W b
 obtain ⟨o,h1,h2,h3,h4⟩ := add_l0 (D_dig (W a)) (D_dig (W b)) (by omega) (n := W a + W b) (by rw [D_vl,D_vl]; omega) (max (D (W a)).length (D (W b)).length + 1) 0 (zL (max (D (W a)).length (D (W b)).length + 1) 0) 0 (by omega) (by rw [zP]) (Dg.Dig.replicate (by decide) _) (by omega) (by omega) (by omega) (by simp [Dg.vl])
 have h5 := trim_c h2 (by omega) h4
 have e0 : (if ((D (W b)).length : Int) > ((D (W a)).length : Int) then ((D (W b)).length : Int) else ((D (W a)).length : Int)) = ((max (D (W a)).length (D (W b)).length : Nat) : Int) := by split <;> omega
 have e1 : IntKind.i64.wrap (((max (D (W a)).length (D (W b)).length : Nat) : Int) + 1) = ((max (D (W a)).length (D (W b)).length + 1 : Nat) : Int) := w64succ (by omega)
 rw [zI,zP] at h1
 rw [R_go FF F116 c116.eq_1]
 simp only [RB,RL,un,St.none,za,zd,ze,zf,zb,zj,zk,zm,zn,zc,zg,zh,zi,↓reduceIte,reduceCtorEq,pack,pid,parN,lid,chkK,apartV,Heap.none,clean_c ha (by omega),clean_c hb (by omega),e0,e1]
 simp (disch := omega) only [if_pos,if_neg,zt,take_set_len,take_set2_len,take_rep_len,take_snoc_len,take_app_len,h1]
 simp only [RB,RL,un,St.none,za,zd,ze,zf,zb,zj,zk,zm,zn,zc,zg,zh,zi,↓reduceIte,reduceCtorEq,pack,pid,parN,lid,chkK,apartV,Heap.none,h5]
theorem add_D {m n : Nat} (hm : L m + 1 ≤ 35184372088832) (hn : L n + 1 ≤ 35184372088832) : R FF 116 [(AV.l 1 (List.map u (D m))),(AV.l 1 (List.map u (D n)))] = some (AV.l 1 (List.map u (D (m + n)))) := by
 have := add_c (D_U m) (D_U n) hm hn
 rwa [W_D,W_D] at this
theorem nminus_l0 {a b : List Int} (ha : Dg.Dig 4294967296 a) (hb : Dg.Dig 4294967296 b) (hl : a.length ≤ 35184372088832) (hlb : b.length ≤ a.length) {n : Nat} (hn : Dg.vl 4294967296 a - Dg.vl 4294967296 b = n) :
  ∀ (d i : Nat) (out : List Int) (c : Int),i + d = a.length → out.length = a.length → Dg.Dig 4294967296 out → 0 ≤ c → c ≤ 1 → Dg.vl 4294967296 (out.take i) - c * 4294967296 ^ i = Dg.vl 4294967296 (a.take i) - Dg.vl 4294967296 (b.take i) →
  ∃ o,LP FF [(5,1),(0,0),(1,0),(6,0),(13,0),(14,0)] [(5,0)] b113_0 [.own true 1 (out.map u),(AV.l 1 (List.map u a)),(AV.l 1 (List.map u b)),(AV.i .u64 c),(AV.i .i64 ((out.length : Int))),(AV.i .i64 ((i : Int)))] = some (.exit 0,[(AV.l 1 (List.map u o))]) ∧ Dg.Dig 4294967296 o ∧ o.length = a.length ∧ Dg.vl 4294967296 o = n := by
 intro d
 induction d with
 | zero =>
  intro i out c hi ho hd hc0 hc1 hv
  refine ⟨out,?_,hd,ho,?_⟩
  ·rw [LP_go FF b113_0.eq_1]
   simp only [RB,RL,un,St.none,za,zd,ze,zf,zb,zj,zk,zm,zn,zc,zg,zh,zi,↓reduceIte,reduceCtorEq,pack,pid,parN,lid,chkK,apartV,Heap.none]
   simp (disch := omega) only [if_pos,if_neg,zt,take_set_len,take_set2_len,take_rep_len,take_snoc_len,take_app_len]
  rw [zp (by omega),zp (by omega),zp (by omega),hn] at hv
  have h1 := Dg.vl_lt hd (by decide)
  rw [ho,show a.length = i by omega] at h1
  rcases (show c = 0 ∨ c = 1 by omega) with h | h
  ·subst h
   simpa using hv
  ·subst h
   omega
 | succ d ih =>
  intro i out c hi ho hd hc0 hc1 hv
  have ga := ha.getD (by decide) i
  have gb := hb.getD (by decide) i
  have e0 : IntKind.u64.wrap (4294967296 + a.getD i 0) = 4294967296 + a.getD i 0 := u64w (by omega) (by omega)
  have e1 : IntKind.u64.wrap (4294967296 + a.getD i 0 - b.getD i 0) = 4294967296 + a.getD i 0 - b.getD i 0 := u64w (by omega) (by omega)
  have e2 : IntKind.u64.wrap (4294967296 + a.getD i 0 - b.getD i 0 - c) = 4294967296 + a.getD i 0 - b.getD i 0 - c := u64w (by omega) (by omega)
  have e3 : IntKind.i64.wrap ((i : Int) + 1) = ((i + 1 : Nat) : Int) := w64succ (by omega)
  have e6 := and32 (x := 4294967296 + a.getD i 0 - b.getD i 0 - c) (by omega) (by omega)
  have e7 := shr32 (x := 4294967296 + a.getD i 0 - b.getD i 0 - c) (by omega)
  have e8 : IntKind.u64.wrap (1 - (4294967296 + a.getD i 0 - b.getD i 0 - c) / 4294967296) = 1 - (4294967296 + a.getD i 0 - b.getD i 0 - c) / 4294967296 := u64w (by omega) (by omega)
  have h9 := ih (i + 1) (out.set i ((4294967296 + a.getD i 0 - b.getD i 0 - c) % 4294967296)) (1 - (4294967296 + a.getD i 0 - b.getD i 0 - c) / 4294967296) (by omega) (by rw [zU]; exact ho) (hd.set _ (by omega) (by omega)) (by omega) (by omega) (by
   rw [set_take _ (by omega),vl_snoc,zD,jh (by omega),Dg.vl_take_succ,Dg.vl_take_succ,Int.pow_succ]
   have h := Int.mul_ediv_add_emod (4294967296 + a.getD i 0 - b.getD i 0 - c) 4294967296
   grind)
  rw [zU] at h9
  rw [LP_go FF b113_0.eq_1]
  simp only [RB,RL,un,St.none,za,zd,ze,zf,zb,zj,zk,zm,zn,zc,zg,zh,zi,↓reduceIte,reduceCtorEq,pack,pid,parN,lid,chkK,apartV,Heap.none,limb_c,e0,e1,e2,e3,e6,e7,e8]
  simp (disch := omega) only [if_pos,if_neg,zt,take_set_len,take_set2_len,take_rep_len,take_snoc_len,take_app_len]
  exact h9
theorem nminus_c {m n : Nat} (h : n ≤ m) (hl : L m ≤ 35184372088832) : R FF 113 [(AV.l 1 (List.map u (D m))),(AV.l 1 (List.map u (D n)))] = some (AV.l 1 (List.map u (D (m - n)))) := by
 have hl' : (D m).length ≤ 35184372088832 := hl
 obtain ⟨o,h1,h2,h3,h4⟩ := nminus_l0 (D_dig m) (D_dig n) hl' (L_mono h) (n := m - n) (by rw [D_vl,D_vl]; omega) (D m).length 0 (zL (D m).length 0) 0 (by omega) (by rw [zP]) (Dg.Dig.replicate (by decide) _) (by omega) (by omega) (by simp [Dg.vl])
 rw [zI,zP] at h1
 rw [R_go FF F113 c113.eq_1]
 simp only [RB,RL,un,St.none,za,zd,ze,zf,zb,zj,zk,zm,zn,zc,zg,zh,zi,↓reduceIte,reduceCtorEq,pack,pid,parN,lid,chkK,apartV,Heap.none]
 simp (disch := omega) only [if_pos,if_neg,zt,take_set_len,take_set2_len,take_rep_len,take_snoc_len,take_app_len,h1]
 simp only [RB,RL,un,St.none,za,zd,ze,zf,zb,zj,zk,zm,zn,zc,zg,zh,zi,↓reduceIte,reduceCtorEq,pack,pid,parN,lid,chkK,apartV,Heap.none,trim_c h2 (by omega) h4]
theorem sub_ge {a b : List Int} (ha : U a) (hb : U b) (hla : a.length ≤ 35184372088832) (hlb : b.length ≤ 35184372088832) (h : W b ≤ W a) : R FF 117 [(AV.l 1 (List.map u a)),(AV.l 1 (List.map u b))] = some (.tup [(AV.l 1 (List.map u (D (W a - W b)))),(AV.i .i64 0)]) := by
 have hc := cmp_lt_iff (a := (W a : Int)) (b := W b)
 rw [R_go FF F117 c117.eq_1]
 simp only [RB,RL,un,St.none,za,zd,ze,zf,zb,zj,zk,zm,zn,zc,zg,zh,zi,↓reduceIte,reduceCtorEq,pack,pid,parN,lid,chkK,apartV,Heap.none,clean_c ha hla,clean_c hb hlb,order_c (zE (L_W a) hla) (zE (L_W b) hlb)]
 rw [if_neg (fun h2 => by have := hc.1 h2; omega)]
 simp only [RB,RL,un,St.none,za,zd,ze,zf,zb,zj,zk,zm,zn,zc,zg,zh,zi,↓reduceIte,reduceCtorEq,pack,pid,parN,lid,chkK,apartV,Heap.none,nminus_c h (zE (L_W a) hla)]
theorem shl32 {x : Int} (h0 : 0 ≤ x) (h1 : x ≤ 4294967295) : IntKind.u64.wrap (x * 2 ^ Nat.min 32 IntKind.u64.bits) = x * 4294967296 := by
 rw [show Nat.min 32 IntKind.u64.bits = 32 by decide,show (2 : Int) ^ 32 = 4294967296 by decide]; exact u64w (by omega) (by omega)
theorem small_div {a : List Int} (ha : Dg.Dig 4294967296 a) (hl : a.length ≤ 35184372088832) {d : Int} (hd0 : 0 < d) (hd1 : d ≤ 4294967295) {q r : Nat} (hq : Dg.vl 4294967296 a = q * d + r) (hr : (r : Int) < d) :
  ∀ (n : Nat) (out : List Int) (c : Int),n ≤ a.length → out.length = a.length → Dg.Dig 4294967296 out → 0 ≤ c → c < d → Dg.vl 4294967296 (out.drop n) * d + c = Dg.vl 4294967296 (a.drop n) →
  ∃ o,LP FF [(6,1),(0,0),(1,0),(7,0),(8,0)] [(6,0),(7,0)] b130_0 [.own true 1 (out.map u),(AV.l 1 (List.map u a)),(AV.i .u64 d),(AV.i .u64 c),(AV.i .i64 ((n : Int) - 1))] = some (.exit 0,[(AV.l 1 (List.map u o)),(AV.i .u64 ((r : Int)))]) ∧ Dg.Dig 4294967296 o ∧ o.length = a.length ∧ Dg.vl 4294967296 o = q := by
 intro n
 induction n with
 | zero =>
  intro out c hn ho hd hc0 hc1 hv
  rw [List.drop_zero,List.drop_zero,hq] at hv
  have h1 : Dg.vl 4294967296 out = q := by
   have e1 : (Dg.vl 4294967296 out - q) * d = r - c := by grind
   rcases Int.lt_trichotomy (Dg.vl 4294967296 out - q) 0 with h | h | h
   ·have : (Dg.vl 4294967296 out - q) * d ≤ -1 * d := zJ (by omega) (by omega)
    omega
   ·omega
   ·have : 1 * d ≤ (Dg.vl 4294967296 out - q) * d := zJ (by omega) (by omega)
    omega
  have h2 : c = r := by rw [h1] at hv; omega
  refine ⟨out,?_,hd,ho,h1⟩
  rw [← h2]
  rw [LP_go FF b130_0.eq_1]
  simp only [RB,RL,un,St.none,za,zd,ze,zf,zb,zj,zk,zm,zn,zc,zg,zh,zi,↓reduceIte,reduceCtorEq,pack,pid,parN,lid,chkK,apartV,Heap.none]
  try simp (disch := omega) only [if_pos,if_neg,zt,take_set_len,take_set2_len,take_rep_len,take_snoc_len,take_app_len]
 | succ n ih =>
  intro out c hn ho hd hc0 hc1 hv
  have e0 : ((n + 1 : Nat) : Int) - 1 = (n : Int) := by omega
  have ga := ha.getD (by decide) n
  have t0 : 0 ≤ c * 4294967296 + a.getD n 0 := by omega
  have q0 : (c * 4294967296 + a.getD n 0) / d < 4294967296 := by
   apply Int.ediv_lt_of_lt_mul hd0
   have : (c + 1) * 4294967296 ≤ d * 4294967296 := zJ (by omega) (by omega)
   omega
  have q1 : 0 ≤ (c * 4294967296 + a.getD n 0) / d := Int.ediv_nonneg t0 (by omega)
  have r0 := Int.emod_nonneg (c * 4294967296 + a.getD n 0) (show d ≠ 0 by omega)
  have r1 := Int.emod_lt_of_pos (c * 4294967296 + a.getD n 0) hd0
  have hqr := Int.mul_ediv_add_emod (c * 4294967296 + a.getD n 0) d
  have h9 := ih (out.set n ((c * 4294967296 + a.getD n 0) / d)) ((c * 4294967296 + a.getD n 0) % d) (by omega) (by rw [zU]; exact ho) (hd.set _ q1 q0) r0 r1 (by
   rw [Dg.vl_drop_succ,Dg.vl_drop_succ 4294967296 a,Dg.vl_drop_set _ _ _ _ _ (Nat.lt_succ_self _),Dg.getD_set _ _ _ _ (by omega),if_pos rfl,← hv]
   grind)
  have e1 := shl32 (x := c) hc0 (by omega)
  have e2 := or32 (x := c) (y := a.getD n 0) hc0 (by omega) (by omega) (by omega)
  have e3 : IntKind.u64.wrap (Int.tdiv (c * 4294967296 + a.getD n 0) d) = (c * 4294967296 + a.getD n 0) / d := by rw [tdiv_pos t0]; exact u64w q1 (by omega)
  have e4 : Int.tmod (c * 4294967296 + a.getD n 0) d = (c * 4294967296 + a.getD n 0) % d := tmod_pos t0
  have e5 : IntKind.i64.wrap ((n : Int) - 1) = (n : Int) - 1 := w64 (by omega) (by omega)
  rw [LP_go FF b130_0.eq_1]
  simp only [RB,RL,un,St.none,za,zd,ze,zf,zb,zj,zk,zm,zn,zc,zg,zh,zi,↓reduceIte,reduceCtorEq,pack,pid,parN,lid,chkK,apartV,Heap.none,e0,e1,e2,e3,e4,e5]
  simp (disch := omega) only [if_pos,if_neg,zt,take_set_len,take_set2_len,take_rep_len,take_snoc_len,take_app_len]
  exact h9
theorem small_D {m d : Nat} (hd0 : 0 < d) (hd1 : d ≤ 4294967295) (hl : L m ≤ 35184372088832) : R FF 130 [(AV.l 1 (List.map u (D m))),(AV.i .u64 ((d : Int)))] = some (.tup [(AV.l 1 (List.map u (D (m / d)))),(AV.i .u64 (((m % d : Nat) : Int)))]) := by
 have hl' : (D m).length ≤ 35184372088832 := hl
 have hm := Nat.mod_lt m hd0
 have hq : Dg.vl 4294967296 (D m) = ((m / d : Nat) : Int) * (d : Int) + ((m % d : Nat) : Int) := by
  rw [D_vl]
  have := Nat.div_add_mod m d
  rw [Nat.mul_comm] at this
  exact_mod_cast this.symm
 obtain ⟨o,h1,h2,h3,h4⟩ := small_div (D_dig m) hl' (d := (d : Int)) (by omega) (by omega) hq (by omega) (D m).length (zL (D m).length 0) 0 (zz _) (by rw [zP]) (Dg.Dig.replicate (by decide) _) (by omega) (by omega) (by
  rw [List.drop_length,zW (by rw [zP]; omega)]
  simp [Dg.vl])
 have e1 : IntKind.i64.wrap (((D m).length : Int) - 1) = ((D m).length : Int) - 1 := w64 (by omega) (by omega)
 rw [R_go FF F130 c130.eq_1]
 simp only [RB,RL,un,St.none,za,zd,ze,zf,zb,zj,zk,zm,zn,zc,zg,zh,zi,↓reduceIte,reduceCtorEq,pack,pid,parN,lid,chkK,apartV,Heap.none,e1]
 simp (disch := omega) only [if_pos,if_neg,zt,take_set_len,take_set2_len,take_rep_len,take_snoc_len,take_app_len,h1]
 simp only [RB,RL,un,St.none,za,zd,ze,zf,zb,zj,zk,zm,zn,zc,zg,zh,zi,↓reduceIte,reduceCtorEq,pack,pid,parN,lid,chkK,apartV,Heap.none,trim_c h2 (by omega) h4]
theorem bits_or_comm (k : IntKind) (x y : Int) : Go.bits .or k x y = Go.bits .or k y x := by simp [Go.bits,BitVec.or_comm]
theorem shift_parts (x s : Nat) (hs : s < 32) : (x * 2 ^ s) % 4294967296 = (x % 2 ^ (32 - s)) * 2 ^ s ∧ (x * 2 ^ s) / 4294967296 = x / 2 ^ (32 - s) := by
 have e : 4294967296 = 2 ^ (32 - s) * 2 ^ s := by rw [← Nat.pow_add,Nat.sub_add_cancel (by omega)]
 constructor
 ·rw [e,Nat.mul_mod_mul_right]
 ·rw [e,Nat.mul_div_mul_right _ _ (Nat.two_pow_pos s)]
theorem trimw_l0 {l : List Int} (hd : Dg.Dig 4294967296 l) (hl : l.length ≤ 35184372088832) : ∀ n : Nat,n ≤ l.length →
  ∃ m,m ≤ n ∧ l.take m = D (Dg.vl 4294967296 (l.take n)).toNat ∧ LP FF [(200000,2),(0,1),(3,0)] [(200000,2),(0,1),(3,0)] b285_0 [.own false 1 (l.map u),.sl 200000 1 0 l.length,(AV.i .i64 ((n : Int)))] = some (.exit 0,[.own false 1 (l.map u),.sl 200000 1 0 l.length,(AV.i .i64 ((m : Int)))]) := by
 intro n
 induction n with
 | zero =>
  intro _
  refine ⟨0,zz _,by simp only [jk,Dg.vl,Int.toNat_zero,D_zero],?_⟩
  rw [LP_go FF b285_0.eq_1]
  simp only [RB,RL,un,St.none,za,zd,ze,zf,zb,zj,zk,zm,zn,zc,zg,zh,zi,↓reduceIte,reduceCtorEq,pack,pid,parN,lid,chkK,apartV,Heap.none]
 | succ n ih =>
  intro hn
  have e : IntKind.i64.wrap (((n + 1 : Nat) : Int) - 1) = (n : Int) := by rw [w64 (by omega) (by omega)]; omega
  rw [LP_go FF b285_0.eq_1]
  simp only [RB,RL,un,St.none,za,zd,ze,zf,zb,zj,zk,zm,zn,zc,zg,zh,zi,↓reduceIte,reduceCtorEq,pack,pid,parN,lid,chkK,apartV,Heap.none,e]
  rw [if_pos (by omega)]
  by_cases h : l.getD n 0 = 0
  ·obtain ⟨m,hm,h1,h2⟩ := ih (by omega)
   refine ⟨m,by omega,?_,?_⟩
   ·rw [h1,Dg.vl_take_succ,h]; simp
   ·simp (disch := omega) only [if_pos,if_neg,zt,take_set_len,take_set2_len,take_rep_len,take_snoc_len,take_app_len]
    exact h2
  ·refine ⟨n + 1,zz _,?_,?_⟩
   ·have hdd := hd.take (n + 1)
    refine D_of hdd (top_take (by omega) h) ?_
    have := Dg.vl_nonneg hdd (by decide)
    omega
   ·simp (disch := omega) only [if_pos,if_neg,zt,take_set_len,take_set2_len,take_rep_len,take_snoc_len,take_app_len]
theorem trimw_c {l : List Int} (hd : Dg.Dig 4294967296 l) (hl : l.length ≤ 35184372088832) {n : Nat} (hv : Dg.vl 4294967296 l = n) (hn : n ≠ 0) :
  R FF 285 [.own false 1 (l.map u)] = some (.back (.sl 200000 1 0 (L n)) [.own false 1 (l.map u)]) ∧ 0 < L n ∧ l.take (L n) = D n ∧ L n ≤ l.length := by
 obtain ⟨m,hm,h1,h2⟩ := trimw_l0 hd hl l.length (zz _)
 rw [zt,hv,Int.toNat_natCast] at h1
 have hL : L n = m := by
  show (D n).length = m
  rw [← h1,zD]
  omega
 have h0 : m ≠ 0 := fun h => hn (D_nil.1 (List.eq_nil_of_length_eq_zero (hL.trans h)))
 rw [hL]
 refine ⟨?_,by omega,h1,by omega⟩
 rw [R_go FF F285 c285.eq_1]
 simp only [RB,RL,un,St.none,za,zd,ze,zf,zb,zj,zk,zm,zn,zc,zg,zh,zi,↓reduceIte,reduceCtorEq,pack,pid,parN,lid,chkK,apartV,Heap.none,h2]
 rw [if_neg (by omega),if_pos (by omega)]
theorem shl_l0 {a : List Int} (ha : Dg.Dig 4294967296 a) {w s : Nat} (hs : s < 32) (hl : a.length + w + 1 ≤ 35184372088832) {n : Nat} (hn : Dg.vl 4294967296 a * 2 ^ s * 4294967296 ^ w = n) :
  ∀ (d i : Nat) (out : List Int),i + d = a.length → out.length = a.length + w + 1 → Dg.Dig 4294967296 out → Dg.vl 4294967296 out = Dg.vl 4294967296 (a.take i) * 2 ^ s * 4294967296 ^ w → out.getD (i + w) 0 < 2 ^ s → (∀ j,i + w < j → out.getD j 0 = 0) →
  ∃ o,LP FF [(7,1),(5,0),(6,0),(20,0),(21,0),(22,0)] [(7,1)] b111_0 [.own true 1 (out.map u),(AV.i .i64 ((w : Int))),(AV.i .i64 ((s : Int))),(AV.l 1 (List.map u a)),(AV.i .i64 ((a.length : Int))),(AV.i .i64 ((i : Int)))] = some (.exit 0,[.own true 1 (o.map u)]) ∧ Dg.Dig 4294967296 o ∧ o.length = a.length + w + 1 ∧ Dg.vl 4294967296 o = n := by
 intro d
 induction d with
 | zero =>
  intro i out hi ho hd hv hp hz
  refine ⟨out,?_,hd,ho,?_⟩
  ·rw [LP_go FF b111_0.eq_1]
   simp only [RB,RL,un,St.none,za,zd,ze,zf,zb,zj,zk,zm,zn,zc,zg,zh,zi,↓reduceIte,reduceCtorEq,pack,pid,parN,lid,chkK,apartV,Heap.none]
   simp (disch := omega) only [if_pos,if_neg,zt,take_set_len,take_set2_len,take_rep_len,take_snoc_len,take_app_len]
  rw [hv,zp (by omega),hn]
 | succ d ih =>
  intro i out hi ho hd hv hp hz
  have ga := ha.getD (by decide) i
  have go := hd.getD (by decide) (i + w)
  obtain ⟨x,hx⟩ := Int.eq_ofNat_of_zero_le ga.1
  obtain ⟨y,hy⟩ := Int.eq_ofNat_of_zero_le go.1
  have hxlt : x < 4294967296 := by omega
  have hylt : y < 2 ^ s := by rw [hy] at hp; exact_mod_cast hp
  obtain ⟨p1,p2⟩ := shift_parts x s hs
  have hps : 2 ^ s ≤ 2 ^ 31 := Nat.pow_le_pow_right (by decide) (by omega)
  have hxs : x * 2 ^ s ≤ 4294967295 * 2 ^ 31 := Nat.mul_le_mul (by omega) hps
  have hsp := Nat.two_pow_pos s
  have hhi : x * 2 ^ s / 4294967296 < 2 ^ s := by
   rw [Nat.div_lt_iff_lt_mul (by decide),Nat.mul_comm (2 ^ s)]
   exact (Nat.mul_lt_mul_right hsp).2 hxlt
  have hlo : y + x * 2 ^ s % 4294967296 < 4294967296 := by
   rw [p1]
   have h1 : x % 2 ^ (32 - s) + 1 ≤ 2 ^ (32 - s) := Nat.mod_lt _ (Nat.two_pow_pos _)
   have h2 := zK (2 ^ s) h1
   rw [← Nat.pow_add,Nat.sub_add_cancel (by omega),zZ] at h2
   omega
  have hsh : IntKind.u64.wrap ((x : Int) * 2 ^ Nat.min s IntKind.u64.bits) = ((x * 2 ^ s : Nat) : Int) := by
   rw [show Nat.min s IntKind.u64.bits = s from jh (by simp [IntKind.bits]; omega)]
   rw [show (x : Int) * 2 ^ s = ((x * 2 ^ s : Nat) : Int) by rw [Int.natCast_mul,Int.natCast_pow]; rfl]
   rw [u64w (by omega) (by omega)]
  have hor : Go.bits .or .u64 (y : Int) ((x * 2 ^ s % 4294967296 : Nat) : Int) = ((y + x * 2 ^ s % 4294967296 : Nat) : Int) := by
   rw [bits_or_comm,bits_join .u64 64 (by decide) u64_id s _ _ (by omega) ?_ (by omega) (by omega) (by exact_mod_cast hylt) (by omega)]
   ·omega
   ·rw [p1]
    exact_mod_cast Nat.mul_mod_left _ _
  have hand : Go.bits .and .u64 ((x * 2 ^ s : Nat) : Int) 4294967295 = ((x * 2 ^ s % 4294967296 : Nat) : Int) := by rw [and32 (by omega) (by omega)]; omega
  have hdv := shr32 (x := ((x * 2 ^ s : Nat) : Int)) (by omega)
  rw [show ((x * 2 ^ s : Nat) : Int) / 4294967296 = ((x * 2 ^ s / 4294967296 : Nat) : Int) by omega] at hdv
  have e1 : IntKind.i64.wrap ((i : Int) + (w : Int)) = ((i + w : Nat) : Int) := w64add (by omega)
  have e2 : IntKind.i64.wrap (((i + w : Nat) : Int) + 1) = ((i + w + 1 : Nat) : Int) := w64succ (by omega)
  have e3 : IntKind.i64.wrap ((i : Int) + 1) = ((i + 1 : Nat) : Int) := w64succ (by omega)
  have ho1 : (out.set (i + w) ((y + x * 2 ^ s % 4294967296 : Nat) : Int)).length = a.length + w + 1 := by rw [zU]; exact ho
  have hz1 : (out.set (i + w) ((y + x * 2 ^ s % 4294967296 : Nat) : Int)).getD (i + w + 1) 0 = 0 := by
   rw [Dg.getD_set _ _ _ _ (by omega),if_neg (by omega)]
   exact hz _ (by omega)
  have h9 := ih (i + 1) ((out.set (i + w) ((y + x * 2 ^ s % 4294967296 : Nat) : Int)).set (i + w + 1) ((x * 2 ^ s / 4294967296 : Nat) : Int)) (by omega) (by rw [zU]; exact ho1) ((hd.set _ (by omega) (by omega)).set _ (by omega) (by omega)) ?_ ?_ ?_
  rotate_left
  ·rw [Dg.vl_set _ _ _ _ (by omega),hz1,Dg.vl_set _ _ _ _ (by omega),hv,hy,Dg.vl_take_succ,hx]
   have h := Nat.mod_add_div (x * 2 ^ s) 4294967296
   have h' : ((x * 2 ^ s % 4294967296 : Nat) : Int) + 4294967296 * ((x * 2 ^ s / 4294967296 : Nat) : Int) = (x : Int) * 2 ^ s := by
    have e : (x : Int) * 2 ^ s = ((x * 2 ^ s : Nat) : Int) := by rw [Int.natCast_mul,Int.natCast_pow]; rfl
    rw [e]
    omega
   rw [Int.natCast_add,Int.pow_succ,Int.pow_add]
   grind
  ·rw [show i + 1 + w = i + w + 1 by omega,Dg.getD_set _ _ _ _ (by omega),if_pos rfl]
   exact_mod_cast hhi
  ·intro j hj
   rw [Dg.getD_set _ _ _ _ (by omega),if_neg (by omega),Dg.getD_set _ _ _ _ (by omega),if_neg (by omega)]
   exact hz j (by omega)
  rw [LP_go FF b111_0.eq_1]
  simp only [RB,RL,un,St.none,za,zd,ze,zf,zb,zj,zk,zm,zn,zc,zg,zh,zi,↓reduceIte,reduceCtorEq,pack,pid,parN,lid,chkK,apartV,Heap.none,e1,e2,e3,hx,hsh,hand,hdv,hy,hor]
  simp (disch := omega) only [if_pos,if_neg,zt,take_set_len,take_set2_len,take_rep_len,take_snoc_len,take_app_len]
  exact h9
theorem shl_D {m n : Nat} (hm : m ≠ 0) (hl : L m + n / 32 + 1 ≤ 35184372088832) (hn : n ≤ 9223372036854775807) : R FF 111 [(AV.l 1 (List.map u (D m))),(AV.i .i64 ((n : Int)))] = some (.own true 1 ((D (m * 2 ^ n)).map u)) := by
 have hl' : (D m).length + n / 32 + 1 ≤ 35184372088832 := hl
 have e1 : IntKind.i64.wrap (Int.tdiv (n : Int) 32) = ((n / 32 : Nat) : Int) := by rw [tdiv_pos (by omega),w64 (by omega) (by omega)]; omega
 have e2 : Int.tmod (n : Int) 32 = ((n % 32 : Nat) : Int) := by rw [tmod_pos (by omega)]; omega
 have e3 : IntKind.i64.wrap (((D m).length : Int) + ((n / 32 : Nat) : Int)) = (((D m).length + n / 32 : Nat) : Int) := w64add (by omega)
 have e4 : IntKind.i64.wrap ((((D m).length + n / 32 : Nat) : Int) + 1) = (((D m).length + n / 32 + 1 : Nat) : Int) := w64succ (by omega)
 obtain ⟨o,h1,h2,h3,h4⟩ := shl_l0 (D_dig m) (Nat.mod_lt n (by decide)) hl' (n := m * 2 ^ n) (by
  rw [D_vl]
  have e : m * 2 ^ (n % 32) * 4294967296 ^ (n / 32) = m * 2 ^ n := by
   rw [show (4294967296 : Nat) = 2 ^ 32 from rfl,← Nat.pow_mul,Nat.mul_assoc,← Nat.pow_add,show n % 32 + 32 * (n / 32) = n by omega]
  rw [← e]
  simp only [Int.natCast_mul,Int.natCast_pow]
  rfl) (D m).length 0 (zL ((D m).length + n / 32 + 1) 0) (by omega) (by rw [zP]) (Dg.Dig.replicate (by decide) _) (by rw [Dg.vl_replicate_zero]; simp [Dg.vl]) (by rw [getD_rep]; exact Int.pow_pos (by decide)) (fun j _ => getD_rep _ j)
 rw [zI] at h1
 obtain ⟨t1,t0,t2,t3⟩ := trimw_c h2 (by omega) h4 (Nat.mul_ne_zero hm (Nat.ne_of_gt (Nat.two_pow_pos n)))
 rw [R_go FF F111 c111.eq_1]
 simp only [RB,RL,un,St.none,za,zd,ze,zf,zb,zj,zk,zm,zn,zc,zg,zh,zi,↓reduceIte,reduceCtorEq,pack,pid,parN,lid,chkK,apartV,Heap.none,e1,e2,e3,e4]
 simp (disch := omega) only [if_pos,if_neg,zt,take_set_len,take_set2_len,take_rep_len,take_snoc_len,take_app_len,h1]
 simp only [RB,RL,un,St.none,za,zd,ze,zf,zb,zj,zk,zm,zn,zc,zg,zh,zi,↓reduceIte,reduceCtorEq,pack,pid,parN,lid,chkK,apartV,Heap.none,t1,aliases,t0]
 rw [t2]
theorem vl_drop_D (m w : Nat) : Dg.vl 4294967296 ((D m).drop w) = ((m / 4294967296 ^ w : Nat) : Int) := by
 have h := Dg.vl_take_drop 4294967296 (D m) w
 rw [D_vl] at h
 have h0 := Dg.vl_nonneg ((D_dig m).take w) (by decide)
 have h1 := Dg.vl_lt ((D_dig m).take w) (by decide)
 have h2 := Dg.vl_nonneg ((D_dig m).drop w) (by decide)
 have h3 : 4294967296 ^ ((D m).take w).length ≤ 4294967296 ^ w := Nat.pow_le_pow_right (by decide) (by rw [zD]; omega)
 obtain ⟨x,hx⟩ := Int.eq_ofNat_of_zero_le h0
 obtain ⟨y,hy⟩ := Int.eq_ofNat_of_zero_le h2
 rw [hx,hy] at h
 rw [hx] at h1
 have e : ∀ k : Nat,(4294967296 : Int) ^ k = ((4294967296 ^ k : Nat) : Int) := fun k => by rw [Int.natCast_pow]; rfl
 rw [e,← Int.natCast_mul,← Int.natCast_add] at h
 rw [e] at h1
 have h4 : m = x + 4294967296 ^ w * y := Int.ofNat_inj.1 h
 have h5 : x < 4294967296 ^ w := je (Int.ofNat_lt.1 h1) h3
 rw [hy,h4,Nat.add_mul_div_left _ _ (Nat.pow_pos (by decide)),Nat.div_eq_of_lt h5,zX]
theorem shr_parts (x u v s : Nat) (hs : s < 32) (hu : u < 4294967296) : (u + 4294967296 * x) / 2 ^ s = (u + 4294967296 * (x % 2 ^ s)) / 2 ^ s + 4294967296 * (x / 2 ^ s) ∧ (u + 4294967296 * (x % 2 ^ s)) / 2 ^ s < 4294967296 := by
 have hp := Nat.two_pow_pos s
 constructor
 ·have h := Nat.mod_add_div x (2 ^ s)
  have e : u + 4294967296 * x = u + 4294967296 * (x % 2 ^ s) + 2 ^ s * (4294967296 * (x / 2 ^ s)) := by
   have : 4294967296 * x = 4294967296 * (x % 2 ^ s) + 4294967296 * (2 ^ s * (x / 2 ^ s)) := by rw [← Nat.mul_add,h]
   rw [this,Nat.mul_left_comm]
   omega
  rw [e,Nat.add_mul_div_left _ _ hp]
 ·rw [Nat.div_lt_iff_lt_mul hp]
  have h1 : x % 2 ^ s + 1 ≤ 2 ^ s := Nat.mod_lt _ hp
  have h2 := Nat.mul_le_mul_left 4294967296 h1
  omega
theorem mod_pow_limb (x s : Nat) (u : Nat) (hs : s < 32) : (u + 4294967296 * x) % 2 ^ s = u % 2 ^ s := by
 have e : 4294967296 = 2 ^ s * 2 ^ (32 - s) := by rw [← Nat.pow_add,Nat.add_sub_cancel' (by omega)]
 rw [e,Nat.mul_assoc,Nat.add_mul_mod_self_left]
theorem and_part {t r c : Nat} (h : t = r + 4294967296 * c) (hr : r < 4294967296) (ht : t ≤ 18446744073709551615) : Go.bits .and .u64 (t : Int) 4294967295 = (r : Int) := by
 rw [and32 (by omega) (by omega)]
 omega
theorem shr_l0 {m : Nat} (hl : (D m).length ≤ 35184372088832) {w s : Nat} (hs : s < 32) (hw : w < (D m).length) :
  ∀ (d i : Nat) (out : List Int),i + d = (D m).length - w → out.length = (D m).length - w → Dg.Dig 4294967296 out → Dg.vl 4294967296 (out.take i) + 4294967296 ^ i * ((m / 4294967296 ^ (w + i) / 2 ^ s : Nat) : Int) = ((m / 4294967296 ^ w / 2 ^ s : Nat) : Int) →
  ∃ o,LP FF [(7,1),(0,0),(5,0),(6,0),(23,0),(24,0)] [(7,0)] b109_0 [.own true 1 (out.map u),(AV.l 1 (List.map u (D m))),(AV.i .i64 ((w : Int))),(AV.i .i64 ((s : Int))),(AV.i .i64 ((out.length : Int))),(AV.i .i64 ((i : Int)))] = some (.exit 0,[(AV.l 1 (List.map u o))]) ∧ Dg.Dig 4294967296 o ∧ o.length = (D m).length - w ∧ Dg.vl 4294967296 o = ((m / 4294967296 ^ w / 2 ^ s : Nat) : Int) := by
 intro d
 induction d with
 | zero =>
  intro i out hi ho hd hv
  refine ⟨out,?_,hd,ho,?_⟩
  ·rw [LP_go FF b109_0.eq_1]
   simp only [RB,RL,un,St.none,za,zd,ze,zf,zb,zj,zk,zm,zn,zc,zg,zh,zi,↓reduceIte,reduceCtorEq,pack,pid,parN,lid,chkK,apartV,Heap.none]
   simp (disch := omega) only [if_pos,if_neg,zt,take_set_len,take_set2_len,take_rep_len,take_snoc_len,take_app_len]
  have h0 : m / 4294967296 ^ (w + i) = 0 := by
   apply Nat.div_eq_of_lt
   have := L_lt m
   rwa [show w + i = L m by unfold L; omega]
  rw [h0,Nat.zero_div,zp (by omega)] at hv
  simpa using hv
 | succ d ih =>
  intro i out hi ho hd hv
  have g1 := D_get m (i + w)
  have g2 := D_get m (i + w + 1)
  obtain ⟨u,hu⟩ := Int.eq_ofNat_of_zero_le g1.1
  obtain ⟨v,hv1⟩ := Int.eq_ofNat_of_zero_le g2.1
  have hul : u < 4294967296 := by omega
  have hvl : v < 4294967296 := by omega
  have hd1 : m / 4294967296 ^ (w + i) = u + 4294967296 * (m / 4294967296 ^ (w + i + 1)) := by
   have h1 := Dg.vl_drop_succ 4294967296 (D m) (i + w)
   rw [vl_drop_D,vl_drop_D,hu] at h1
   rw [show w + i = i + w by omega]
   omega
  have hd2 : m / 4294967296 ^ (w + i + 1) = v + 4294967296 * (m / 4294967296 ^ (w + i + 2)) := by
   have h1 := Dg.vl_drop_succ 4294967296 (D m) (i + w + 1)
   rw [vl_drop_D,vl_drop_D,hv1] at h1
   rw [show w + i + 1 = i + w + 1 by omega,show w + i + 2 = i + w + 1 + 1 by omega]
   omega
  have hmod : m / 4294967296 ^ (w + i + 1) % 2 ^ s = v % 2 ^ s := by rw [hd2,mod_pow_limb _ _ _ hs]
  obtain ⟨q1,q2⟩ := shr_parts (m / 4294967296 ^ (w + i + 1)) u 0 s hs hul
  obtain ⟨q3,q4⟩ := shr_parts v u 0 s hs hul
  rw [hmod] at q1 q2
  have hsh : ((v : Int) * 4294967296 + u).fdiv (2 ^ Nat.min s IntKind.u64.bits) = (((u + 4294967296 * v) / 2 ^ s : Nat) : Int) := by
   rw [show Nat.min s IntKind.u64.bits = s from jh (by simp [IntKind.bits]; omega),Int.fdiv_eq_ediv_of_nonneg _ (Int.le_of_lt (Int.pow_pos (by decide))),Int.natCast_ediv,Int.natCast_pow]
   congr 1
   omega
  have hle : (u + 4294967296 * v) / 2 ^ s ≤ u + 4294967296 * v := Nat.div_le_self _ _
  have hand : Go.bits .and .u64 (((u + 4294967296 * v) / 2 ^ s : Nat) : Int) 4294967295 = (((u + 4294967296 * (v % 2 ^ s)) / 2 ^ s : Nat) : Int) :=
   and_part q3 q4 (zE hle (by omega))
  have e1 : IntKind.i64.wrap ((i : Int) + (w : Int)) = ((i + w : Nat) : Int) := w64add (by omega)
  have e2 : IntKind.i64.wrap (((i + w : Nat) : Int) + 1) = ((i + w + 1 : Nat) : Int) := w64succ (by omega)
  have e3 : IntKind.i64.wrap ((i : Int) + 1) = ((i + 1 : Nat) : Int) := w64succ (by omega)
  have e4 := shl32 (x := (v : Int)) (by omega) (by omega)
  have e5 := or32 (x := (v : Int)) (y := (u : Int)) (by omega) (by omega) (by omega) (by omega)
  rw [LP_go FF b109_0.eq_1]
  simp only [RB,RL,un,St.none,za,zd,ze,zf,zb,zj,zk,zm,zn,zc,zg,zh,zi,↓reduceIte,reduceCtorEq,pack,pid,parN,lid,chkK,apartV,Heap.none,e1,e2,e3,limb_c,hu,hv1,e4,e5,hsh,hand]
  clear hsh hand hle q3 q4 hmod hd2 e1 e2 e4 e5
  generalize (u + 4294967296 * (v % 2 ^ s)) / 2 ^ s = r at *
  have h9 := ih (i + 1) (out.set i (r : Int)) (by omega) (by rw [zU]; exact ho) (hd.set _ (by omega) (by omega)) (by
   rw [set_take _ (by omega),vl_snoc,zD,jh (by omega),← hv,hd1,q1,Int.pow_succ,Int.natCast_add,Int.natCast_mul]
   rw [show w + (i + 1) = w + i + 1 by omega]
   grind)
  rw [zU] at h9
  simp (disch := omega) only [if_pos,if_neg,zt,take_set_len,take_set2_len,take_rep_len,take_snoc_len,take_app_len]
  exact h9
theorem shr_D {m n : Nat} (hl : L m ≤ 35184372088832) (hn : n ≤ 9223372036854775807) : R FF 109 [(AV.l 1 (List.map u (D m))),(AV.i .i64 ((n : Int)))] = some (AV.l 1 (List.map u (D (m / 2 ^ n)))) := by
 have hl' : (D m).length ≤ 35184372088832 := hl
 have e : m / 2 ^ n = m / 4294967296 ^ (n / 32) / 2 ^ (n % 32) := by
  rw [Nat.div_div_eq_div_mul,show (4294967296 : Nat) = 2 ^ 32 from rfl,← Nat.pow_mul,← Nat.pow_add,show 32 * (n / 32) + n % 32 = n by omega]
 have e1 : IntKind.i64.wrap (Int.tdiv (n : Int) 32) = ((n / 32 : Nat) : Int) := by rw [tdiv_pos (by omega),w64 (by omega) (by omega)]; omega
 have e2 : Int.tmod (n : Int) 32 = ((n % 32 : Nat) : Int) := by rw [tmod_pos (by omega)]; omega
 by_cases h : n / 32 ≥ (D m).length
 ·have : m / 4294967296 ^ (n / 32) = 0 := by
   apply Nat.div_eq_of_lt
   exact je (L_lt m) (Nat.pow_le_pow_right (by decide) h)
  rw [R_go FF F109 c109.eq_1]
  simp only [RB,RL,un,St.none,za,zd,ze,zf,zb,zj,zk,zm,zn,zc,zg,zh,zi,↓reduceIte,reduceCtorEq,pack,pid,parN,lid,chkK,apartV,Heap.none,e1,e2]
  simp (disch := omega) only [if_pos,if_neg,zt,take_set_len,take_set2_len,take_rep_len,take_snoc_len,take_app_len]
  rw [e,this,Nat.zero_div,D_zero]
  rfl
 ·have e4 : IntKind.i64.wrap (((D m).length : Int) - ((n / 32 : Nat) : Int)) = (((D m).length - n / 32 : Nat) : Int) := by rw [w64 (by omega) (by omega)]; omega
  obtain ⟨o,h1,h2,h3,h4⟩ := shr_l0 hl' (Nat.mod_lt n (by decide)) (show n / 32 < (D m).length by omega) ((D m).length - n / 32) 0 (zL ((D m).length - n / 32) 0) (by omega) (by rw [zP]) (Dg.Dig.replicate (by decide) _) (by simp [Dg.vl])
  rw [zI,zP] at h1
  rw [R_go FF F109 c109.eq_1]
  simp only [RB,RL,un,St.none,za,zd,ze,zf,zb,zj,zk,zm,zn,zc,zg,zh,zi,↓reduceIte,reduceCtorEq,pack,pid,parN,lid,chkK,apartV,Heap.none,e1,e2,e4]
  simp (disch := omega) only [if_pos,if_neg,zt,take_set_len,take_set2_len,take_rep_len,take_snoc_len,take_app_len,h1]
  simp only [RB,RL,un,St.none,za,zd,ze,zf,zb,zj,zk,zm,zn,zc,zg,zh,zi,↓reduceIte,reduceCtorEq,pack,pid,parN,lid,chkK,apartV,Heap.none,trim_c h2 (by omega) h4]
  rw [e]
end Go.Pe
namespace Dg
theorem pow_mono {B : Int} (hB : 1 ≤ B) {m n : Nat} (h : m ≤ n) : B ^ m ≤ B ^ n := by
 obtain ⟨d,rfl⟩ := Nat.exists_eq_add_of_le h
 rw [Int.pow_add]
 have h1 : 0 < B ^ m := Int.pow_pos (by omega)
 have h2 : 1 ≤ B ^ d := by
  have : 0 < B ^ d := Int.pow_pos (by omega)
  omega
 have := Int.mul_le_mul_of_nonneg_left h2 (Int.le_of_lt h1)
 omega
end Dg
namespace Go.Pe
theorem take_l0 {uu v : List Int} (hu : Dg.Dig 4294967296 uu) (hv : Dg.Dig 4294967296 v) (hl : uu.length ≤ 35184372088832) (hlv : v.length < uu.length) {g : Int} (hg0 : 0 ≤ g) (hg1 : g ≤ 4294967295) :
  ∀ (d i : Nat) (out : List Int) (c e : Int),i + d = uu.length → out.length = uu.length → Dg.Dig 4294967296 out → 0 ≤ c → c ≤ 4294967295 → (i = uu.length → c = 0) → 0 ≤ e → e ≤ 1 → (∀ j,i ≤ j → out.getD j 0 = uu.getD j 0) →
  Dg.vl 4294967296 (out.take i) = Dg.vl 4294967296 (uu.take i) - g * Dg.vl 4294967296 (v.take i) + (c + e) * 4294967296 ^ i →
  ∃ o e',LP FF [(200000,2),(0,1),(1,0),(2,0),(7,0),(8,0),(12,0),(13,0)] [(200000,2),(0,1),(8,0)] b140_0 [.own false 1 (out.map u),.sl 200000 1 0 out.length,(AV.l 1 (List.map u v)),(AV.i .u64 g),(AV.i .u64 c),(AV.i .u64 e),(AV.i .i64 ((uu.length : Int))),(AV.i .i64 ((i : Int)))] = some (.exit 0,[.own false 1 (o.map u),.sl 200000 1 0 o.length,(AV.i .u64 (e'))]) ∧
   o.length = uu.length ∧ Dg.Dig 4294967296 o ∧ 0 ≤ e' ∧ e' ≤ 1 ∧ Dg.vl 4294967296 o = Dg.vl 4294967296 uu - g * Dg.vl 4294967296 v + e' * 4294967296 ^ uu.length := by
 intro d
 induction d with
 | zero =>
  intro i out c e hi ho hd hc0 hc1 hc9 he0 he1 hsame hval
  have hc := hc9 (by omega)
  subst hc
  refine ⟨out,e,?_,ho,hd,he0,he1,?_⟩
  ·rw [LP_go FF b140_0.eq_1]
   simp only [RB,RL,un,St.none,za,zd,ze,zf,zb,zj,zk,zm,zn,zc,zg,zh,zi,↓reduceIte,reduceCtorEq,pack,pid,parN,lid,chkK,apartV,Heap.none]
   simp (disch := omega) only [if_pos,if_neg,zt,take_set_len,take_set2_len,take_rep_len,take_snoc_len,take_app_len]
  rw [zp (by omega),zp (by omega),zp (by omega),show i = uu.length by omega] at hval
  rw [hval,Int.zero_add]
 | succ d ih =>
  intro i out c e hi ho hd hc0 hc1 hc9 he0 he1 hsame hval
  have gu := hu.getD (by decide) i
  have gv := hv.getD (by decide) i
  have hs := hsame i (zz _)
  have hx := mul_bound hg0 hg1 gv.1 (show v.getD i 0 ≤ 4294967295 by omega)
  have hx2 : g * v.getD i 0 ≤ 4294967295 * 4294967295 := hx.2
  have e1 : IntKind.u64.wrap (g * v.getD i 0) = g * v.getD i 0 := u64w hx.1 (by omega)
  have e2 : IntKind.u64.wrap (c + g * v.getD i 0) = c + g * v.getD i 0 := u64w (by omega) (by omega)
  have e3 := and32 (x := c + g * v.getD i 0) (by omega) (by omega)
  have e4 := shr32 (x := c + g * v.getD i 0) (by omega)
  have e5 : IntKind.u64.wrap (4294967296 + uu.getD i 0) = 4294967296 + uu.getD i 0 := u64w (by omega) (by omega)
  have e6 : IntKind.u64.wrap (4294967296 + uu.getD i 0 - (c + g * v.getD i 0) % 4294967296) = 4294967296 + uu.getD i 0 - (c + g * v.getD i 0) % 4294967296 := u64w (by omega) (by omega)
  have e7 : IntKind.u64.wrap (4294967296 + uu.getD i 0 - (c + g * v.getD i 0) % 4294967296 - e) = 4294967296 + uu.getD i 0 - (c + g * v.getD i 0) % 4294967296 - e := u64w (by omega) (by omega)
  have e8 := and32 (x := 4294967296 + uu.getD i 0 - (c + g * v.getD i 0) % 4294967296 - e) (by omega) (by omega)
  have e9 := shr32 (x := 4294967296 + uu.getD i 0 - (c + g * v.getD i 0) % 4294967296 - e) (by omega)
  have e10 : IntKind.u64.wrap (1 - (4294967296 + uu.getD i 0 - (c + g * v.getD i 0) % 4294967296 - e) / 4294967296) = 1 - (4294967296 + uu.getD i 0 - (c + g * v.getD i 0) % 4294967296 - e) / 4294967296 := u64w (by omega) (by omega)
  have e11 : IntKind.i64.wrap ((i : Int) + 1) = ((i + 1 : Nat) : Int) := w64succ (by omega)
  rw [LP_go FF b140_0.eq_1]
  simp only [RB,RL,un,St.none,za,zd,ze,zf,zb,zj,zk,zm,zn,zc,zg,zh,zi,↓reduceIte,reduceCtorEq,pack,pid,parN,lid,chkK,apartV,Heap.none,limb_c,hs,e1,e2,e3,e4,e5,e6,e7,e8,e9,e10,e11]
  simp (disch := omega) only [if_pos,if_neg,zt,take_set_len,take_set2_len,take_rep_len,take_snoc_len,take_app_len]
  clear e1 e2 e3 e4 e5 e6 e7 e8 e9 e10 e11
  generalize hp : g * v.getD i 0 = p at *
  have hcz : i + 1 = uu.length → (c + p) / 4294967296 = 0 := by
   intro h1
   have h2 := getD_beyond (l := v) (i := i) (by omega)
   rw [h2,Int.mul_zero] at hp
   omega
  have h9 := ih (i + 1) (out.set i ((4294967296 + uu.getD i 0 - (c + p) % 4294967296 - e) % 4294967296)) ((c + p) / 4294967296) (1 - (4294967296 + uu.getD i 0 - (c + p) % 4294967296 - e) / 4294967296) (by omega) (by rw [zU]; exact ho) (hd.set _ (by omega) (by omega)) (by omega) (by omega) hcz (by omega) (by omega) (by
   intro j hj
   rw [Dg.getD_set _ _ _ _ (by omega),if_neg (by omega)]
   exact hsame j (by omega)) (by
   rw [set_take _ (by omega),vl_snoc,zD,jh (by omega),hval,Dg.vl_take_succ,Dg.vl_take_succ,Int.pow_succ]
   have h1 := Int.mul_ediv_add_emod (c + p) 4294967296
   have h2 := Int.mul_ediv_add_emod (4294967296 + uu.getD i 0 - (c + p) % 4294967296 - e) 4294967296
   generalize (4294967296 + uu.getD i 0 - (c + p) % 4294967296 - e) / 4294967296 = y at *
   generalize (4294967296 + uu.getD i 0 - (c + p) % 4294967296 - e) % 4294967296 = z at *
   generalize (c + p) / 4294967296 = cq at *
   generalize (c + p) % 4294967296 = cr at *
   rw [Int.mul_add,← Int.mul_assoc g,hp]
   grind)
  rw [zU] at h9
  exact h9
theorem take_c {uu v : List Int} (hu : Dg.Dig 4294967296 uu) (hv : Dg.Dig 4294967296 v) (hl : uu.length ≤ 35184372088832) (hlv : v.length < uu.length) {g : Int} (hg0 : 0 ≤ g) (hg1 : g ≤ 4294967295) :
  ∃ (out : List Int) (c : Int),R FF 140 [.own false 1 (uu.map u),(AV.l 1 (List.map u v)),(AV.i .u64 g)] = some (.back ((AV.b (decide (c = 1)))) [.own false 1 (out.map u)]) ∧ out.length = uu.length ∧ Dg.Dig 4294967296 out ∧ 0 ≤ c ∧ c ≤ 1 ∧ Dg.vl 4294967296 out = Dg.vl 4294967296 uu - g * Dg.vl 4294967296 v + c * 4294967296 ^ uu.length := by
 obtain ⟨o,c,h1,h2,h3,h4,h5,h6⟩ := take_l0 hu hv hl hlv hg0 hg1 uu.length 0 uu 0 0 (by omega) rfl hu (by omega) (by omega) (by omega) (by omega) (by omega) (fun j _ => rfl) (by simp [Dg.vl])
 refine ⟨o,c,?_,h2,h3,h4,h5,h6⟩
 rw [zI] at h1
 rw [R_go FF F140 c140.eq_1]
 simp only [RB,RL,un,St.none,za,zd,ze,zf,zb,zj,zk,zm,zn,zc,zg,zh,zi,↓reduceIte,reduceCtorEq,pack,pid,parN,lid,chkK,apartV,Heap.none,h1]
theorem give_l0 {uu v : List Int} (hu : Dg.Dig 4294967296 uu) (hv : Dg.Dig 4294967296 v) (hl : uu.length ≤ 35184372088832) :
  ∀ (d i : Nat) (out : List Int) (c : Int),i + d = uu.length → out.length = uu.length → Dg.Dig 4294967296 out → 0 ≤ c → c ≤ 1 → (∀ j,i ≤ j → out.getD j 0 = uu.getD j 0) →
  Dg.vl 4294967296 (out.take i) + c * 4294967296 ^ i = Dg.vl 4294967296 (uu.take i) + Dg.vl 4294967296 (v.take i) →
  ∃ o c',LP FF [(200000,2),(0,1),(1,0),(4,0),(7,0),(8,0)] [(200000,2),(0,1)] b141_0 [.own false 1 (out.map u),.sl 200000 1 0 out.length,(AV.l 1 (List.map u v)),(AV.i .u64 c),(AV.i .i64 ((uu.length : Int))),(AV.i .i64 ((i : Int)))] = some (.exit 0,[.own false 1 (o.map u),.sl 200000 1 0 o.length]) ∧
   o.length = uu.length ∧ Dg.Dig 4294967296 o ∧ 0 ≤ c' ∧ c' ≤ 1 ∧ Dg.vl 4294967296 o + c' * 4294967296 ^ uu.length = Dg.vl 4294967296 uu + Dg.vl 4294967296 (v.take uu.length) := by
 intro d
 induction d with
 | zero =>
  intro i out c hi ho hd hc0 hc1 hsame hval
  refine ⟨out,c,?_,ho,hd,hc0,hc1,?_⟩
  ·rw [LP_go FF b141_0.eq_1]
   simp only [RB,RL,un,St.none,za,zd,ze,zf,zb,zj,zk,zm,zn,zc,zg,zh,zi,↓reduceIte,reduceCtorEq,pack,pid,parN,lid,chkK,apartV,Heap.none]
   simp (disch := omega) only [if_pos,if_neg,zt,take_set_len,take_set2_len,take_rep_len,take_snoc_len,take_app_len]
  rw [zp (by omega),zp (l := uu) (by omega),show i = uu.length by omega] at hval
  exact hval
 | succ d ih =>
  intro i out c hi ho hd hc0 hc1 hsame hval
  have gu := hu.getD (by decide) i
  have gv := hv.getD (by decide) i
  have hs := hsame i (zz _)
  have e1 : IntKind.u64.wrap (uu.getD i 0 + v.getD i 0) = uu.getD i 0 + v.getD i 0 := u64w (by omega) (by omega)
  have e2 : IntKind.u64.wrap (c + (uu.getD i 0 + v.getD i 0)) = c + (uu.getD i 0 + v.getD i 0) := u64w (by omega) (by omega)
  have e3 := and32 (x := c + (uu.getD i 0 + v.getD i 0)) (by omega) (by omega)
  have e4 := shr32 (x := c + (uu.getD i 0 + v.getD i 0)) (by omega)
  have e5 : IntKind.i64.wrap ((i : Int) + 1) = ((i + 1 : Nat) : Int) := w64succ (by omega)
  have h9 := ih (i + 1) (out.set i ((c + (uu.getD i 0 + v.getD i 0)) % 4294967296)) ((c + (uu.getD i 0 + v.getD i 0)) / 4294967296) (by omega) (by rw [zU]; exact ho) (hd.set _ (by omega) (by omega)) (by omega) (by omega) (by
   intro j hj
   rw [Dg.getD_set _ _ _ _ (by omega),if_neg (by omega)]
   exact hsame j (by omega)) (by
   rw [set_take _ (by omega),vl_snoc,zD,jh (by omega),Dg.vl_take_succ,Dg.vl_take_succ,Int.pow_succ]
   have h1 := Int.mul_ediv_add_emod (c + (uu.getD i 0 + v.getD i 0)) 4294967296
   grind)
  rw [zU] at h9
  rw [LP_go FF b141_0.eq_1]
  simp only [RB,RL,un,St.none,za,zd,ze,zf,zb,zj,zk,zm,zn,zc,zg,zh,zi,↓reduceIte,reduceCtorEq,pack,pid,parN,lid,chkK,apartV,Heap.none,limb_c,hs,e1,e2,e3,e4,e5]
  simp (disch := omega) only [if_pos,if_neg,zt,take_set_len,take_set2_len,take_rep_len,take_snoc_len,take_app_len]
  exact h9
theorem give_c {uu v : List Int} (hu : Dg.Dig 4294967296 uu) (hv : Dg.Dig 4294967296 v) (hl : uu.length ≤ 35184372088832) :
  ∃ (out : List Int) (c : Int),R FF 141 [.own false 1 (uu.map u),(AV.l 1 (List.map u v))] = some (.back (.tup []) [.own false 1 (out.map u)]) ∧ out.length = uu.length ∧ Dg.Dig 4294967296 out ∧ 0 ≤ c ∧ c ≤ 1 ∧ Dg.vl 4294967296 out + c * 4294967296 ^ uu.length = Dg.vl 4294967296 uu + Dg.vl 4294967296 (v.take uu.length) := by
 obtain ⟨o,c,h1,h2,h3,h4,h5,h6⟩ := give_l0 hu hv hl uu.length 0 uu 0 (by omega) rfl hu (by omega) (by omega) (fun j _ => rfl) (by simp [Dg.vl])
 refine ⟨o,c,?_,h2,h3,h4,h5,h6⟩
 rw [zI] at h1
 rw [R_go FF F141 c141.eq_1]
 simp only [RB,RL,un,St.none,za,zd,ze,zf,zb,zj,zk,zm,zn,zc,zg,zh,zi,↓reduceIte,reduceCtorEq,pack,pid,parN,lid,chkK,apartV,Heap.none,h1]
theorem knuth_gt {g U3 P Ul V2 Vl : Int} (hg : 0 ≤ g) (hP : 0 < P) (hUl : Ul < P) (hVl : 0 ≤ Vl) (h : U3 < g * V2) : U3 * P + Ul < g * (V2 * P + Vl) := by
 have h1 : (U3 + 1) * P ≤ g * V2 * P := zJ (by omega) (by omega)
 have h2 : 0 ≤ g * Vl := Int.mul_nonneg hg hVl
 grind
theorem knuth_le {g U3 P Ul V2 Vl B : Int} (hg : 1 ≤ g) (hgB : g ≤ B) (hP : 0 < P) (hUl : 0 ≤ Ul) (hVl0 : 0 ≤ Vl) (hVl : Vl < P) (hB : B ≤ V2) (h : g * V2 ≤ U3) : (g - 1) * (V2 * P + Vl) ≤ U3 * P + Ul := by
 have h1 : g * V2 * P ≤ U3 * P := zJ h (by omega)
 have h2 : (g - 1) * Vl ≤ (g - 1) * P := Int.mul_le_mul_of_nonneg_left (by omega) (by omega)
 have h3 : g * P ≤ V2 * P := zJ (by omega) (by omega)
 grind
theorem vl_three {l : List Int} {p : Nat} (h : l.length = p + 3) : Dg.vl 4294967296 l = (l.getD (p + 2) 0 * 4294967296 * 4294967296 + l.getD (p + 1) 0 * 4294967296 + l.getD p 0) * 4294967296 ^ p + Dg.vl 4294967296 (l.take p) := by
 have h1 : l.take (p + 3) = l := zp (by omega)
 conv => lhs; rw [← h1]
 rw [Dg.vl_take_succ,Dg.vl_take_succ,Dg.vl_take_succ,Int.pow_succ,Int.pow_succ]
 grind
theorem vl_two {l : List Int} {p : Nat} (h : l.length = p + 2) : Dg.vl 4294967296 l = (l.getD (p + 1) 0 * 4294967296 + l.getD p 0) * 4294967296 ^ p + Dg.vl 4294967296 (l.take p) := by
 have h1 : l.take (p + 2) = l := zp (by omega)
 conv => lhs; rw [← h1]
 rw [Dg.vl_take_succ,Dg.vl_take_succ,Int.pow_succ]
 grind
theorem digit_loop {uu v : List Int} (hu : Dg.Dig 4294967296 uu) (hv : Dg.Dig 4294967296 v) {p : Nat} (hul : uu.length = p + 3) (hvl : v.length = p + 2) (hl : uu.length ≤ 35184372088832) (hn : 2147483648 ≤ v.getD (p + 1) 0) {q : Int} (hq0 : 0 ≤ q) (hq1 : q ≤ 4294967295)
  (hq : 0 ≤ Dg.vl 4294967296 uu - q * Dg.vl 4294967296 v) (hq2 : Dg.vl 4294967296 uu - q * Dg.vl 4294967296 v < Dg.vl 4294967296 v) : ∀ (d : Nat) (g s : Int),g.toNat ≤ d → q ≤ g → g * v.getD (p + 1) 0 + s = uu.getD (p + 2) 0 * 4294967296 + uu.getD (p + 1) 0 → 0 ≤ s → s < 4294967296 → g ≤ 4294967297 →
  ∃ g',LP FF [(200000,2),(0,1),(1,0),(5,0),(7,0),(8,0)] [(200000,2),(0,1),(1,0),(7,0)] b138_0 [.own false 1 (uu.map u),.sl 200000 1 0 uu.length,(AV.l 1 (List.map u v)),(AV.i .i64 (((p + 2 : Nat) : Int))),(AV.i .u64 g),(AV.i .u64 s)] = some (.exit 0,[.own false 1 (uu.map u),.sl 200000 1 0 uu.length,(AV.l 1 (List.map u v)),(AV.i .u64 (g'))]) ∧ 0 ≤ g' ∧ g' ≤ 4294967295 ∧ (g' = q ∨ g' = q + 1) := by
 have gu0 := hu.getD (by decide) p
 have gu1 := hu.getD (by decide) (p + 1)
 have gu2 := hu.getD (by decide) (p + 2)
 have gv0 := hv.getD (by decide) p
 have gv1 := hv.getD (by decide) (p + 1)
 have hU := vl_three hul
 have hV := vl_two hvl
 have l0 := Dg.vl_nonneg (hu.take p) (by decide)
 have l1 := Dg.vl_lt (hu.take p) (by decide)
 have m0 := Dg.vl_nonneg (hv.take p) (by decide)
 have m1 := Dg.vl_lt (hv.take p) (by decide)
 rw [zD,jh (by omega)] at l1 m1
 have hP : 0 < (4294967296 : Int) ^ p := Int.pow_pos (by decide)
 have e1 : IntKind.i64.wrap (((p + 2 : Nat) : Int) - 2) = (p : Int) := by rw [w64 (by omega) (by omega)]; omega
 have e2 : IntKind.i64.wrap (((p + 2 : Nat) : Int) - 1) = ((p + 1 : Nat) : Int) := by rw [w64 (by omega) (by omega)]; omega
 intro d
 induction d with
 | zero =>
  intro g s hd hqg hgs hs0 hs1 hg
  have hg0 : g = 0 := by omega
  subst hg0
  have e3 : IntKind.u64.wrap (0 * v.getD p 0) = 0 := by rw [Int.zero_mul]; exact u64w (by omega) (by omega)
  have e4 := shl32 (x := s) hs0 (by omega)
  have e5 := or32 (x := s) (y := uu.getD p 0) hs0 (by omega) (by omega) (by omega)
  refine ⟨0,?_,by omega,by omega,.inl (by omega)⟩
  rw [LP_go FF b138_0.eq_1]
  simp only [RB,RL,un,St.none,za,zd,ze,zf,zb,zj,zk,zm,zn,zc,zg,zh,zi,↓reduceIte,reduceCtorEq,pack,pid,parN,lid,chkK,apartV,Heap.none,e1,e2,e3,e4,e5]
  simp (disch := omega) only [if_pos,if_neg,zt,take_set_len,take_set2_len,take_rep_len,take_snoc_len,take_app_len]
 | succ d ih =>
  intro g s hd hqg hgs hs0 hs1 hg
  have hg0 : 0 ≤ g := by omega
  have e4 := shl32 (x := s) hs0 (by omega)
  have e5 := or32 (x := s) (y := uu.getD p 0) hs0 (by omega) (by omega) (by omega)
  have hgv : 0 ≤ g * v.getD p 0 ∧ g * v.getD p 0 ≤ 4294967297 * 4294967295 :=
   ⟨Int.mul_nonneg hg0 (by omega),Int.le_trans (zJ hg (by omega)) (Int.mul_le_mul_of_nonneg_left (by omega) (by decide))⟩
  have hgv' : g * v.getD p 0 ≤ 18446744073709551615 := Int.le_trans hgv.2 (by decide)
  have e3 : IntKind.u64.wrap (g * v.getD p 0) = g * v.getD p 0 := u64w hgv.1 hgv'
  have e6 : IntKind.u64.wrap (s + v.getD (p + 1) 0) = s + v.getD (p + 1) 0 := u64w (by omega) (by omega)
  rw [LP_go FF b138_0.eq_1]
  simp only [RB,RL,un,St.none,za,zd,ze,zf,zb,zj,zk,zm,zn,zc,zg,zh,zi,↓reduceIte,reduceCtorEq,pack,pid,parN,lid,chkK,apartV,Heap.none,e1,e2,e3,e4,e5,e6]
  have c1 : (p : Int) < (v.length : Int) := by omega
  have c2 : (p : Int) < (uu.length : Int) := by omega
  have c3 : p < uu.length := by omega
  have c4 : ((p + 1 : Nat) : Int) < (v.length : Int) := by omega
  rw [if_pos (fun _ => ⟨zq p,c1⟩),if_pos (fun _ => ⟨zq p,c2⟩),if_pos (fun _ => c3),if_pos (fun _ => ⟨zq _,c4⟩)]
  clear e1 e2 e3 e4 e5 e6 c1 c2 c3 c4
  have hv0 := Dg.vl_nonneg hv (by decide)
  generalize h_u2 : uu.getD (p + 2) 0 = u2 at *
  generalize h_u1 : uu.getD (p + 1) 0 = u1 at *
  generalize h_u0 : uu.getD p 0 = u0 at *
  generalize h_v1 : v.getD (p + 1) 0 = v1 at *
  generalize h_v0 : v.getD p 0 = v0 at *
  generalize h_UL : Dg.vl 4294967296 (uu.take p) = UL at *
  generalize h_VL : Dg.vl 4294967296 (v.take p) = VL at *
  generalize h_P : (4294967296 : Int) ^ p = P at *
  have htop : u2 * 4294967296 + u1 ≤ v1 * 4294967296 + 4294967295 := by
   have hlt : Dg.vl 4294967296 uu < 4294967296 * Dg.vl 4294967296 v := by
    have : (q + 1) * Dg.vl 4294967296 v ≤ 4294967296 * Dg.vl 4294967296 v := zJ (by omega) (by
     rw [hV]
     have : 0 ≤ (v1 * 4294967296 + v0) * P := Int.mul_nonneg (by omega) (by omega)
     omega)
    rw [Int.add_mul] at this
    omega
   rw [hU,hV] at hlt
   apply Classical.byContradiction
   intro hc
   have h1 : (v1 + 1) * 4294967296 ≤ u2 * 4294967296 + u1 := by omega
   have h2 : (v1 + 1) * 4294967296 * 4294967296 * P ≤ (u2 * 4294967296 * 4294967296 + u1 * 4294967296 + u0) * P := zJ (by omega) (by omega)
   have h3 : (v1 * 4294967296 + v0 + 1) * P ≤ (v1 + 1) * 4294967296 * P := zJ (by omega) (by omega)
   grind
  by_cases hgo : 4294967296 ≤ g ∨ s * 4294967296 + u0 < g * v0
  ·rw [if_pos hgo]
   have hlt : q < g := by
    rcases hgo with h | hgt
    ·omega
    ·have h4 : u2 * 4294967296 * 4294967296 + u1 * 4294967296 + u0 < g * (v1 * 4294967296 + v0) := by
      have h2 : g * (v1 * 4294967296 + v0) = g * v1 * 4294967296 + g * v0 := by grind
      rw [h2]
      generalize g * v1 = X at *
      omega
     have h5 := knuth_gt (Ul := UL) (Vl := VL) hg0 hP l1 m0 h4
     rw [← hU,← hV] at h5
     apply Classical.byContradiction
     intro hc
     have : g * Dg.vl 4294967296 v ≤ q * Dg.vl 4294967296 v := zJ (by omega) hv0
     omega
   have hw3 : IntKind.u64.wrap (g - 1) = g - 1 := u64w (by omega) (by omega)
   have hgs2 : (g - 1) * v1 + (s + v1) = u2 * 4294967296 + u1 := by rw [← hgs]; grind
   rw [hw3]
   by_cases hbr : 4294967296 ≤ s + v1
   ·rw [if_pos hbr]
    have hgB : g - 1 ≤ 4294967295 := by
     apply Classical.byContradiction
     intro hc
     have : 4294967296 * v1 ≤ (g - 1) * v1 := zJ (by omega) (by omega)
     omega
    refine ⟨g - 1,rfl,by omega,hgB,?_⟩
    have hle : (g - 1) * (v1 * 4294967296 + v0) ≤ u2 * 4294967296 * 4294967296 + u1 * 4294967296 + u0 := by
     have h1 : (g - 1) * v0 ≤ 4294967295 * 4294967295 := Int.le_trans (zJ hgB (by omega)) (Int.mul_le_mul_of_nonneg_left (by omega) (by decide))
     have h2 : (g - 1) * (v1 * 4294967296 + v0) = (g - 1) * v1 * 4294967296 + (g - 1) * v0 := by grind
     rw [h2]
     generalize (g - 1) * v1 = X at *
     generalize (g - 1) * v0 = Y at *
     omega
    rcases Int.lt_or_le 0 (g - 1) with h0 | h0
    ·have h5 := knuth_le (g := g - 1) (U3 := u2 * 4294967296 * 4294967296 + u1 * 4294967296 + u0) (P := P) (Ul := UL) (V2 := v1 * 4294967296 + v0) (Vl := VL) (B := 4294967296) (by omega) (by omega) hP l0 m0 m1 (by omega) hle
     rw [← hU,← hV] at h5
     rcases Int.lt_or_le (g - 1) (q + 2) with h6 | h6
     ·omega
     ·have : (q + 1) * Dg.vl 4294967296 v ≤ (g - 1 - 1) * Dg.vl 4294967296 v := zJ (by omega) hv0
      rw [Int.add_mul] at this
      omega
    ·omega
   ·rw [if_neg hbr]
    exact ih (g - 1) (s + v1) (by omega) (by omega) hgs2 (by omega) (by omega) (by omega)
  ·rw [if_neg hgo]
   have hg5 : g ≤ 4294967295 := by omega
   have hgt : g * v0 ≤ s * 4294967296 + u0 := by
    apply Classical.byContradiction
    intro hc
    exact hgo (.inr (by omega))
   refine ⟨g,rfl,hg0,hg5,?_⟩
   have hle : g * (v1 * 4294967296 + v0) ≤ u2 * 4294967296 * 4294967296 + u1 * 4294967296 + u0 := by
    have h2 : g * (v1 * 4294967296 + v0) = g * v1 * 4294967296 + g * v0 := by grind
    rw [h2]
    generalize g * v1 = X at *
    omega
   rcases Int.lt_or_le 0 g with h0 | h0
   ·have h5 := knuth_le (g := g) (U3 := u2 * 4294967296 * 4294967296 + u1 * 4294967296 + u0) (P := P) (Ul := UL) (V2 := v1 * 4294967296 + v0) (Vl := VL) (B := 4294967296) (by omega) (by omega) hP l0 m0 m1 (by omega) hle
    rw [← hU,← hV] at h5
    rcases Int.lt_or_le g (q + 2) with h6 | h6
    ·omega
    ·have : (q + 1) * Dg.vl 4294967296 v ≤ (g - 1) * Dg.vl 4294967296 v := zJ (by omega) hv0
     rw [Int.add_mul] at this
     omega
   ·omega
theorem digit_first {uu v : List Int} (hu : Dg.Dig 4294967296 uu) (hv : Dg.Dig 4294967296 v) {p : Nat} (hul : uu.length = p + 3) (hvl : v.length = p + 2) (hn : 2147483648 ≤ v.getD (p + 1) 0) {q : Int} (hq0 : 0 ≤ q) (hq1 : q ≤ 4294967295)
  (hq : 0 ≤ Dg.vl 4294967296 uu - q * Dg.vl 4294967296 v) (hq2 : Dg.vl 4294967296 uu - q * Dg.vl 4294967296 v < Dg.vl 4294967296 v) :
  q ≤ (uu.getD (p + 2) 0 * 4294967296 + uu.getD (p + 1) 0) / v.getD (p + 1) 0 ∧ uu.getD (p + 2) 0 * 4294967296 + uu.getD (p + 1) 0 ≤ v.getD (p + 1) 0 * 4294967296 + 4294967295 := by
 have gu0 := hu.getD (by decide) p
 have gu1 := hu.getD (by decide) (p + 1)
 have gu2 := hu.getD (by decide) (p + 2)
 have gv0 := hv.getD (by decide) p
 have gv1 := hv.getD (by decide) (p + 1)
 have hU := vl_three hul
 have hV := vl_two hvl
 have l0 := Dg.vl_nonneg (hu.take p) (by decide)
 have l1 := Dg.vl_lt (hu.take p) (by decide)
 have m0 := Dg.vl_nonneg (hv.take p) (by decide)
 have m1 := Dg.vl_lt (hv.take p) (by decide)
 rw [zD,jh (by omega)] at l1 m1
 have hP : 0 < (4294967296 : Int) ^ p := Int.pow_pos (by decide)
 have hqr := Int.mul_ediv_add_emod (uu.getD (p + 2) 0 * 4294967296 + uu.getD (p + 1) 0) (v.getD (p + 1) 0)
 have r1 := Int.emod_lt_of_pos (uu.getD (p + 2) 0 * 4294967296 + uu.getD (p + 1) 0) (show 0 < v.getD (p + 1) 0 by omega)
 generalize h_u2 : uu.getD (p + 2) 0 = u2 at *
 generalize h_u1 : uu.getD (p + 1) 0 = u1 at *
 generalize h_u0 : uu.getD p 0 = u0 at *
 generalize h_v1 : v.getD (p + 1) 0 = v1 at *
 generalize h_v0 : v.getD p 0 = v0 at *
 generalize h_UL : Dg.vl 4294967296 (uu.take p) = UL at *
 generalize h_VL : Dg.vl 4294967296 (v.take p) = VL at *
 generalize h_P : (4294967296 : Int) ^ p = P at *
 refine ⟨?_,?_⟩
 rotate_left
 ·skip
  have htop : u2 * 4294967296 + u1 ≤ v1 * 4294967296 + 4294967295 := by
   have hlt : Dg.vl 4294967296 uu < 4294967296 * Dg.vl 4294967296 v := by
    have : (q + 1) * Dg.vl 4294967296 v ≤ 4294967296 * Dg.vl 4294967296 v := zJ (by omega) (by
     rw [hV]
     have : 0 ≤ (v1 * 4294967296 + v0) * P := Int.mul_nonneg (by omega) (by omega)
     omega)
    rw [Int.add_mul] at this
    omega
   rw [hU,hV] at hlt
   apply Classical.byContradiction
   intro hc
   have h1 : (v1 + 1) * 4294967296 ≤ u2 * 4294967296 + u1 := by omega
   have h2 : (v1 + 1) * 4294967296 * 4294967296 * P ≤ (u2 * 4294967296 * 4294967296 + u1 * 4294967296 + u0) * P := zJ (by omega) (by omega)
   have h3 : (v1 * 4294967296 + v0 + 1) * P ≤ (v1 + 1) * 4294967296 * P := zJ (by omega) (by omega)
   grind
  exact htop
 ·apply Classical.byContradiction
  intro hc
  have h1 : ((u2 * 4294967296 + u1) / v1 + 1) * v1 ≤ q * v1 := zJ (by omega) (by omega)
  have h2 : u2 * 4294967296 + u1 + 1 ≤ q * v1 := by
   rw [Int.add_mul,Int.mul_comm _ v1] at h1
   omega
  have h3 : u2 * 4294967296 * 4294967296 + u1 * 4294967296 + u0 < q * (v1 * 4294967296 + v0) := by
   have h4 : 0 ≤ q * v0 := Int.mul_nonneg hq0 (by omega)
   have h5 : q * (v1 * 4294967296 + v0) = q * v1 * 4294967296 + q * v0 := by grind
   rw [h5]
   omega
  have h6 := knuth_gt (Ul := UL) (Vl := VL) hq0 hP l1 m0 h3
  rw [← hU,← hV] at h6
  omega
theorem digit_c {uu v : List Int} (hu : Dg.Dig 4294967296 uu) (hv : Dg.Dig 4294967296 v) {p : Nat} (hul : uu.length = p + 3) (hvl : v.length = p + 2) (hl : uu.length ≤ 35184372088832) (hn : 2147483648 ≤ v.getD (p + 1) 0) {q : Int} (hq0 : 0 ≤ q) (hq1 : q ≤ 4294967295)
  (hq : 0 ≤ Dg.vl 4294967296 uu - q * Dg.vl 4294967296 v) (hq2 : Dg.vl 4294967296 uu - q * Dg.vl 4294967296 v < Dg.vl 4294967296 v) :
  ∃ r : List Int,R FF 138 [.own false 1 (uu.map u),(AV.l 1 (List.map u v))] = some (.back (AV.i .u64 q) [.own false 1 (r.map u)]) ∧ r.length = uu.length ∧ Dg.Dig 4294967296 r ∧ Dg.vl 4294967296 r = Dg.vl 4294967296 uu - q * Dg.vl 4294967296 v := by
 have gu0 := hu.getD (by decide) p
 have gu1 := hu.getD (by decide) (p + 1)
 have gu2 := hu.getD (by decide) (p + 2)
 have gv0 := hv.getD (by decide) p
 have gv1 := hv.getD (by decide) (p + 1)
 have t0 : 0 ≤ uu.getD (p + 2) 0 * 4294967296 + uu.getD (p + 1) 0 := by omega
 have d0 : 0 ≤ (uu.getD (p + 2) 0 * 4294967296 + uu.getD (p + 1) 0) / v.getD (p + 1) 0 := Int.ediv_nonneg t0 (by omega)
 have r0 := Int.emod_nonneg (uu.getD (p + 2) 0 * 4294967296 + uu.getD (p + 1) 0) (show v.getD (p + 1) 0 ≠ 0 by omega)
 have r1 := Int.emod_lt_of_pos (uu.getD (p + 2) 0 * 4294967296 + uu.getD (p + 1) 0) (show 0 < v.getD (p + 1) 0 by omega)
 have hqr := Int.mul_ediv_add_emod (uu.getD (p + 2) 0 * 4294967296 + uu.getD (p + 1) 0) (v.getD (p + 1) 0)
 have hfirst : q ≤ (uu.getD (p + 2) 0 * 4294967296 + uu.getD (p + 1) 0) / v.getD (p + 1) 0 ∧ uu.getD (p + 2) 0 * 4294967296 + uu.getD (p + 1) 0 ≤ v.getD (p + 1) 0 * 4294967296 + 4294967295 := digit_first hu hv hul hvl hn hq0 hq1 hq hq2
 have d1 : (uu.getD (p + 2) 0 * 4294967296 + uu.getD (p + 1) 0) / v.getD (p + 1) 0 ≤ 4294967297 := by
  have : (uu.getD (p + 2) 0 * 4294967296 + uu.getD (p + 1) 0) / v.getD (p + 1) 0 < 4294967298 := by
   apply Int.ediv_lt_of_lt_mul (by omega)
   omega
  omega
 obtain ⟨g,hloop,hg0,hg1,hgq⟩ := digit_loop hu hv hul hvl hl hn hq0 hq1 hq hq2 _ _ _ (zz _) hfirst.1 (by rw [Int.mul_comm]; exact hqr) r0 (by omega) d1
 obtain ⟨o,c,htake,ho,hd,hc0,hc1,hval⟩ := take_c hu hv hl (by omega) hg0 hg1
 have o0 := Dg.vl_nonneg hd (by decide)
 have o1 := Dg.vl_lt hd (by decide)
 rw [ho] at o1
 have v0 := Dg.vl_nonneg hv (by decide)
 have v1 := Dg.vl_lt hv (by decide)
 have v2 : (4294967296 : Int) ^ v.length ≤ 4294967296 ^ uu.length := Dg.pow_mono (by decide) (by omega)
 have e0 : (v.length : Int) = ((p + 2 : Nat) : Int) := by rw [hvl]
 have e2 : IntKind.i64.wrap (((p + 2 : Nat) : Int) - 1) = ((p + 1 : Nat) : Int) := by rw [w64 (by omega) (by omega)]; omega
 have e4 := shl32 (x := uu.getD (p + 2) 0) (by omega) (by omega)
 have e5 := or32 (x := uu.getD (p + 2) 0) (y := uu.getD (p + 1) 0) (by omega) (by omega) (by omega) (by omega)
 have e6 : IntKind.u64.wrap (Int.tdiv (uu.getD (p + 2) 0 * 4294967296 + uu.getD (p + 1) 0) (v.getD (p + 1) 0)) = (uu.getD (p + 2) 0 * 4294967296 + uu.getD (p + 1) 0) / v.getD (p + 1) 0 := by rw [tdiv_pos t0]; exact u64w d0 (by omega)
 have e7 : Int.tmod (uu.getD (p + 2) 0 * 4294967296 + uu.getD (p + 1) 0) (v.getD (p + 1) 0) = (uu.getD (p + 2) 0 * 4294967296 + uu.getD (p + 1) 0) % v.getD (p + 1) 0 := tmod_pos t0
 have c1 : ((p + 1 : Nat) : Int) < ((p + 2 : Nat) : Int) := by omega
 have c2 : ((p + 2 : Nat) : Int) < (uu.length : Int) := by omega
 have c3 : ((p + 1 : Nat) : Int) < (uu.length : Int) := by omega
 have c4 : p + 2 < uu.length := by omega
 have c5 : p + 1 < uu.length := by omega
 have c6 : ¬ v.getD (p + 1) 0 = 0 := by omega
 rw [R_go FF F138 c138.eq_1]
 simp only [RB,RL,un,St.none,za,zd,ze,zf,zb,zj,zk,zm,zn,zc,zg,zh,zi,↓reduceIte,reduceCtorEq,pack,pid,parN,lid,chkK,apartV,Heap.none,e0,e2,e4,e5,e6,e7,hloop,htake]
 rw [if_pos ⟨zq _,c2⟩,if_pos c4,if_pos ⟨zq _,c3⟩,if_pos c5,if_pos ⟨zq _,c1⟩,if_neg c6,if_pos ⟨zq _,c1⟩,if_neg c6]
 have hto : zQ uu.length o = o := by rw [← ho,zt]
 simp only [RB,RL,un,St.none,za,zd,ze,zf,zb,zj,zk,zm,zn,zc,zg,zh,zi,↓reduceIte,reduceCtorEq,pack,pid,parN,lid,chkK,apartV,Heap.none,htake,hto]
 rw [if_pos ho]
 rcases hgq with rfl | rfl
 ·have hc : c = 0 := by
   rcases (show c = 0 ∨ c = 1 by omega) with h | h
   ·exact h
   ·subst h
    omega
  subst hc
  exact ⟨o,by rw [if_neg (by decide)],ho,hd,by omega⟩
 ·have hc : c = 1 := by
   rcases (show c = 0 ∨ c = 1 by omega) with h | h
   ·subst h
    rw [Int.add_mul] at hval
    omega
   ·exact h
  subst hc
  rw [Int.add_mul,Int.one_mul,Int.one_mul] at hval
  obtain ⟨r,c',hgive,h1,h2,h3,h4,h5⟩ := give_c hd hv (by omega)
  have a0 := Dg.vl_nonneg h2 (by decide)
  have a1 := Dg.vl_lt h2 (by decide)
  rw [h1,ho] at a1
  rw [zp (by omega),hval,ho] at h5
  have hc' : c' = 1 := by
   rcases (show c' = 0 ∨ c' = 1 by omega) with h | h
   ·subst h
    omega
   ·exact h
  subst hc'
  have hw : IntKind.u64.wrap (q + 1 - 1) = q := by rw [u64w (by omega) (by omega)]; omega
  have htr : zQ uu.length r = r := by rw [← ho,← h1,zt]
  refine ⟨r,?_,h1.trans ho,h2,by omega⟩
  rw [if_pos rfl]
  simp only [RB,RL,un,St.none,za,zd,ze,zf,zb,zj,zk,zm,zn,zc,zg,zh,zi,↓reduceIte,reduceCtorEq,pack,pid,parN,lid,chkK,apartV,Heap.none,hgive,hw,htr]
  rw [if_pos (h1.trans ho),zW (by omega),List.append_nil]
theorem len8_all : ∀ i : Fin 256,i.val = 0 ∨ ((1 ≤ bt len8 (i.val : Int) ∧ bt len8 (i.val : Int) ≤ 8) ∧ 2 ^ ((bt len8 (i.val : Int)).toNat - 1) ≤ i.val ∧ i.val < 2 ^ (bt len8 (i.val : Int)).toNat) := by decide +kernel
theorem len8_c {i : Int} (h0 : 0 < i) (h1 : i < 256) : ∃ m : Nat,bt len8 i = (m : Int) ∧ 1 ≤ m ∧ m ≤ 8 ∧ ((2 ^ (m - 1) : Nat) : Int) ≤ i ∧ i < ((2 ^ m : Nat) : Int) := by
 obtain ⟨n,rfl⟩ := Int.eq_ofNat_of_zero_le (Int.le_of_lt h0)
 have h9 := len8_all ⟨n,by omega⟩
 simp only at h9
 generalize bt len8 (n : Int) = b at *
 rcases h9 with h | ⟨⟨h2,h3⟩,h4,h5⟩
 ·omega
 ·exact ⟨b.toNat,by omega,by omega,by omega,Int.ofNat_le.2 h4,Int.ofNat_lt.2 h5⟩
theorem fd16 {x : Int} (h : 0 ≤ x) : x.fdiv (2 ^ Nat.min 16 IntKind.u32.bits) = x / 65536 := by
 rw [show Nat.min 16 IntKind.u32.bits = 16 by decide,Int.fdiv_eq_ediv_of_nonneg _ (by decide)]; rfl
theorem fd8 {x : Int} (h : 0 ≤ x) : x.fdiv (2 ^ Nat.min 8 IntKind.u32.bits) = x / 256 := by
 rw [show Nat.min 8 IntKind.u32.bits = 8 by decide,Int.fdiv_eq_ediv_of_nonneg _ (by decide)]; rfl
theorem u8w {x : Int} (h0 : 0 ≤ x) (h1 : x ≤ 255) : IntKind.u8.wrap x = x := by
 simp only [IntKind.wrap,IntKind.bits,IntKind.signed]
 simp
 omega
theorem len8_size : (len8.size : Int) = 256 := by decide +kernel
theorem len32_c {x : Int} (h0 : 0 < x) (h1 : x < 4294967296) {y : Int} {k m : Nat} (hy : (16777216 ≤ x ∧ y = x / 16777216 ∧ k = 24) ∨ (65536 ≤ x ∧ x < 16777216 ∧ y = x / 65536 ∧ k = 16) ∨ (256 ≤ x ∧ x < 65536 ∧ y = x / 256 ∧ k = 8) ∨ (x < 256 ∧ y = x ∧ k = 0)) (hm : bt len8 y = (m : Int)) (m8 : m ≤ 8) :
  R FF 139 [.i .u32 x] = some (AV.i .i64 (((k + m : Nat) : Int))) := by
 have w24 : IntKind.i64.wrap (16 + 8) = 24 := w64 (by omega) (by omega)
 have w8 : IntKind.i64.wrap (0 + 8) = 8 := w64 (by omega) (by omega)
 have wm : IntKind.i64.wrap (m : Int) = m := w64 (by omega) (by omega)
 rw [R_go FF F139 c139.eq_1]
 simp only [RB,RL,un,St.none,za,zd,ze,zf,zb,zj,zk,zm,zn,zc,zg,zh,zi,↓reduceIte,reduceCtorEq,pack,pid,parN,lid,chkK,apartV,Heap.none,fd16 (Int.le_of_lt h0),len8_size]
 rcases hy with ⟨c1,rfl,rfl⟩ | ⟨c1,c2,rfl,rfl⟩ | ⟨c1,c2,rfl,rfl⟩ | ⟨c1,hyx,rfl⟩
 ·have a1 : 65536 ≤ x := by omega
  have a2 : 256 ≤ x / 65536 := by omega
  have a3 : x / 65536 / 256 = x / 16777216 := by omega
  simp only [a1,a2,if_true,fd8 (show 0 ≤ x / 65536 by omega),a3,u8w (show 0 ≤ x / 16777216 by omega) (by omega),hm,w24,wm]
  rw [if_pos (by omega),w64 (by omega) (by omega)]
  first | rfl | (congr 2; done) | (congr 2; omega)
 ·have a1 : 65536 ≤ x := by omega
  have a2 : ¬ 256 ≤ x / 65536 := by omega
  simp only [a1,a2,if_true,if_false,u8w (show 0 ≤ x / 65536 by omega) (by omega),hm,wm]
  rw [if_pos (by omega),w64 (by omega) (by omega)]
  first | rfl | (congr 2; done) | (congr 2; omega)
 ·have a1 : ¬ 65536 ≤ x := by omega
  simp only [a1,c1,if_true,if_false,fd8 (show 0 ≤ x by omega),u8w (show 0 ≤ x / 256 by omega) (by omega),hm,w8,wm]
  rw [if_pos (by omega),w64 (by omega) (by omega)]
  first | rfl | (congr 2; done) | (congr 2; omega)
 ·rw [hyx] at hm
  have a1 : ¬ 65536 ≤ x := by omega
  have a2 : ¬ 256 ≤ x := by omega
  simp only [a1,a2,if_true,if_false,u8w (show 0 ≤ x by omega) (by omega),hm,wm]
  rw [if_pos (by omega),w64 (by omega) (by omega)]
  first | rfl | (congr 2; done) | (congr 2; omega)
theorem lz32 {x : Int} (h0 : 0 < x) (h1 : x < 4294967296) : ∃ s : Nat,s ≤ 31 ∧ R FF 137 [.i .u32 x] = some (AV.i .i64 ((s : Int))) ∧ 2147483648 ≤ x * 2 ^ s ∧ x * 2 ^ s < 4294967296 := by
 rcases (show 16777216 ≤ x ∨ (65536 ≤ x ∧ x < 16777216) ∨ (256 ≤ x ∧ x < 65536) ∨ x < 256 by omega) with c | c | c | c
 ·obtain ⟨m,hm,m1,m8,hlo,hhi⟩ := len8_c (i := x / 16777216) (by omega) (by omega)
  refine ⟨8 - m,by omega,?_,?_⟩
  ·have h := len32_c h0 h1 (y := x / 16777216) (k := 24) (.inl ⟨c,rfl,rfl⟩) hm m8
   rw [R_go FF F137 c137.eq_1]
   have e : IntKind.i64.wrap (32 - ((24 + m : Nat) : Int)) = ((8 - m : Nat) : Int) := by rw [w64 (by omega) (by omega)]; omega
   simp only [RB,RL,un,St.none,za,zd,ze,zf,zb,zj,zk,zm,zn,zc,zg,zh,zi,↓reduceIte,reduceCtorEq,pack,pid,parN,lid,chkK,apartV,Heap.none,h,e]
  ·rcases (show m = 1 ∨ m = 2 ∨ m = 3 ∨ m = 4 ∨ m = 5 ∨ m = 6 ∨ m = 7 ∨ m = 8 by omega) with rfl | rfl | rfl | rfl | rfl | rfl | rfl | rfl <;> simp only [Nat.reducePow,Nat.reduceSub,Int.reducePow] at * <;> omega
 ·obtain ⟨m,hm,m1,m8,hlo,hhi⟩ := len8_c (i := x / 65536) (by omega) (by omega)
  refine ⟨16 - m,by omega,?_,?_⟩
  ·have h := len32_c h0 h1 (y := x / 65536) (k := 16) (.inr (.inl ⟨c.1,c.2,rfl,rfl⟩)) hm m8
   rw [R_go FF F137 c137.eq_1]
   have e : IntKind.i64.wrap (32 - ((16 + m : Nat) : Int)) = ((16 - m : Nat) : Int) := by rw [w64 (by omega) (by omega)]; omega
   simp only [RB,RL,un,St.none,za,zd,ze,zf,zb,zj,zk,zm,zn,zc,zg,zh,zi,↓reduceIte,reduceCtorEq,pack,pid,parN,lid,chkK,apartV,Heap.none,h,e]
  ·rcases (show m = 1 ∨ m = 2 ∨ m = 3 ∨ m = 4 ∨ m = 5 ∨ m = 6 ∨ m = 7 ∨ m = 8 by omega) with rfl | rfl | rfl | rfl | rfl | rfl | rfl | rfl <;> simp only [Nat.reducePow,Nat.reduceSub,Int.reducePow] at * <;> omega
 ·obtain ⟨m,hm,m1,m8,hlo,hhi⟩ := len8_c (i := x / 256) (by omega) (by omega)
  refine ⟨24 - m,by omega,?_,?_⟩
  ·have h := len32_c h0 h1 (y := x / 256) (k := 8) (.inr (.inr (.inl ⟨c.1,c.2,rfl,rfl⟩))) hm m8
   rw [R_go FF F137 c137.eq_1]
   have e : IntKind.i64.wrap (32 - ((8 + m : Nat) : Int)) = ((24 - m : Nat) : Int) := by rw [w64 (by omega) (by omega)]; omega
   simp only [RB,RL,un,St.none,za,zd,ze,zf,zb,zj,zk,zm,zn,zc,zg,zh,zi,↓reduceIte,reduceCtorEq,pack,pid,parN,lid,chkK,apartV,Heap.none,h,e]
  ·rcases (show m = 1 ∨ m = 2 ∨ m = 3 ∨ m = 4 ∨ m = 5 ∨ m = 6 ∨ m = 7 ∨ m = 8 by omega) with rfl | rfl | rfl | rfl | rfl | rfl | rfl | rfl <;> simp only [Nat.reducePow,Nat.reduceSub,Int.reducePow] at * <;> omega
 ·obtain ⟨m,hm,m1,m8,hlo,hhi⟩ := len8_c (i := x) (by omega) (by omega)
  refine ⟨32 - m,by omega,?_,?_⟩
  ·have h := len32_c h0 h1 (y := x) (k := 0) (.inr (.inr (.inr ⟨c,rfl,rfl⟩))) hm m8
   rw [R_go FF F137 c137.eq_1]
   have e : IntKind.i64.wrap (32 - (m : Int)) = ((32 - m : Nat) : Int) := by rw [w64 (by omega) (by omega)]; omega
   rw [zX] at h
   simp only [RB,RL,un,St.none,za,zd,ze,zf,zb,zj,zk,zm,zn,zc,zg,zh,zi,↓reduceIte,reduceCtorEq,pack,pid,parN,lid,chkK,apartV,Heap.none,h,e]
  ·rcases (show m = 1 ∨ m = 2 ∨ m = 3 ∨ m = 4 ∨ m = 5 ∨ m = 6 ∨ m = 7 ∨ m = 8 by omega) with rfl | rfl | rfl | rfl | rfl | rfl | rfl | rfl <;> simp only [Nat.reducePow,Nat.reduceSub,Int.reducePow] at * <;> omega
theorem vl_all_zero {B : Int} {l : List Int} (h : ∀ j,l.getD j 0 = 0) : Dg.vl B l = 0 := by
 induction l with
 | nil => rfl
 | cons x r ih =>
  have h0 := h 0
  simp at h0
  rw [Dg.vl,h0,ih (fun j => by simpa using h (j + 1))]
  simp
theorem getD_drop (l : List Int) (c j : Nat) : (l.drop c).getD j 0 = l.getD (c + j) 0 := by rw [zo,List.getElem?_drop,← zo]
theorem vl_zero_from {B : Int} {l : List Int} {c : Nat} (h : ∀ j,c ≤ j → l.getD j 0 = 0) : Dg.vl B (l.drop c) = 0 := vl_all_zero fun j => by rw [getD_drop]; exact h _ (by omega)
theorem vl_take_zero {B : Int} {l : List Int} {c : Nat} (h : ∀ j,c ≤ j → l.getD j 0 = 0) : Dg.vl B (l.take c) = Dg.vl B l := by
 rw [Dg.vl_take_drop B l c,vl_zero_from h]
 simp
theorem getD_top {n p : Nat} (h : L n = p + 1) : (D n).getD p 0 = ((n / 4294967296 ^ p : Nat) : Int) := by
 have h1 := vl_drop_D n p
 rw [Dg.vl_drop_succ,zW (by show L n ≤ p + 1; omega)] at h1
 simpa [Dg.vl] using h1
theorem long_l0 {v : List Int} (hv : Dg.Dig 4294967296 v) {p m s : Nat} (hvl : v.length = p + 2) (hn : 2147483648 ≤ v.getD (p + 1) 0) (hs : s ≤ 31) (hl : m + p + 2 ≤ 17592186044416) {Q R : Nat} (hR : (R * 2 ^ s : Nat) < Dg.vl 4294967296 v) :
  ∀ (t : Nat) (uu q : List Int),t ≤ m → uu.length = m + p + 2 → q.length = m → Dg.Dig 4294967296 uu → Dg.Dig 4294967296 q → Dg.vl 4294967296 (uu.drop t) < Dg.vl 4294967296 v → (∀ j,t + (p + 2) ≤ j → uu.getD j 0 = 0) →
  Dg.vl 4294967296 (q.drop t) * Dg.vl 4294967296 v * 4294967296 ^ t + Dg.vl 4294967296 uu = (Q : Int) * Dg.vl 4294967296 v + (R * 2 ^ s : Nat) →
  ∃ uf qf,LP FF [(8,1),(10,1),(6,0),(7,0),(9,0),(11,0)] [(6,0),(8,0),(10,0)] b131_0 [.own true 1 (uu.map u),.own true 1 (q.map u),(AV.i .i64 ((s : Int))),(AV.l 1 (List.map u v)),(AV.i .i64 (((p + 2 : Nat) : Int))),(AV.i .i64 ((t : Int) - 1))] = some (.exit 0,[(AV.i .i64 ((s : Int))),(AV.l 1 (List.map u uf)),(AV.l 1 (List.map u qf))]) ∧ Dg.Dig 4294967296 uf ∧ Dg.Dig 4294967296 qf ∧ uf.length = m + p + 2 ∧ qf.length = m ∧ Dg.vl 4294967296 qf = Q ∧ Dg.vl 4294967296 uf = (R * 2 ^ s : Nat) := by
 intro t
 have v0 := Dg.vl_nonneg hv (by decide)
 have v1 := Dg.vl_lt hv (by decide)
 induction t with
 | zero =>
  intro uu q ht hul hql hu hq hlt hz hval
  rw [List.drop_zero] at hlt
  rw [List.drop_zero,Int.pow_zero,Int.mul_one] at hval
  have u0 := Dg.vl_nonneg hu (by decide)
  have hQ : Dg.vl 4294967296 q = Q := by
   rcases Int.lt_trichotomy (Dg.vl 4294967296 q) Q with h | h | h
   ·have : (Dg.vl 4294967296 q + 1) * Dg.vl 4294967296 v ≤ Q * Dg.vl 4294967296 v := zJ (by omega) v0
    rw [Int.add_mul] at this
    omega
   ·exact h
   ·have : ((Q : Int) + 1) * Dg.vl 4294967296 v ≤ Dg.vl 4294967296 q * Dg.vl 4294967296 v := zJ (by omega) v0
    rw [Int.add_mul] at this
    omega
  rw [hQ] at hval
  refine ⟨uu,q,?_,hu,hq,hul,hql,hQ,by omega⟩
  rw [LP_go FF b131_0.eq_1]
  simp only [RB,RL,un,St.none,za,zd,ze,zf,zb,zj,zk,zm,zn,zc,zg,zh,zi,↓reduceIte,reduceCtorEq,pack,pid,parN,lid,chkK,apartV,Heap.none]
 | succ t ih =>
  intro uu q ht hul hql hu hq hlt hz hval
  -- the window
  have e0 : ((t + 1 : Nat) : Int) - 1 = (t : Int) := by omega
  have hwl : ((uu.drop t).take (p + 3)).length = p + 3 := by rw [zD,jd]; omega
  have hwd : Dg.Dig 4294967296 ((uu.drop t).take (p + 3)) := (hu.drop _).take _
  have hz' : ∀ j,t + (p + 3) ≤ j → uu.getD j 0 = 0 := fun j hj => hz j (by omega)
  have hwv : Dg.vl 4294967296 ((uu.drop t).take (p + 3)) = Dg.vl 4294967296 (uu.drop t) := vl_take_zero fun j hj => by rw [getD_drop]; exact hz' _ (by omega)
  have hstep := Dg.vl_drop_succ 4294967296 uu t
  have gu := hu.getD (by decide) t
  have d1 := Dg.vl_nonneg (hu.drop (t + 1)) (by decide)
  have hW0 : 0 ≤ Dg.vl 4294967296 (uu.drop t) := Dg.vl_nonneg (hu.drop t) (by decide)
  have hWlt : Dg.vl 4294967296 (uu.drop t) < 4294967296 * Dg.vl 4294967296 v := by omega
  have hvpos : 0 < Dg.vl 4294967296 v := by omega
  have q0 : 0 ≤ Dg.vl 4294967296 (uu.drop t) / Dg.vl 4294967296 v := Int.ediv_nonneg hW0 v0
  have q1 : Dg.vl 4294967296 (uu.drop t) / Dg.vl 4294967296 v < 4294967296 := Int.ediv_lt_of_lt_mul hvpos hWlt
  have r0 := Int.emod_nonneg (Dg.vl 4294967296 (uu.drop t)) (show Dg.vl 4294967296 v ≠ 0 by omega)
  have r1 := Int.emod_lt_of_pos (Dg.vl 4294967296 (uu.drop t)) hvpos
  have hqr := Int.mul_ediv_add_emod (Dg.vl 4294967296 (uu.drop t)) (Dg.vl 4294967296 v)
  generalize hqd : Dg.vl 4294967296 (uu.drop t) / Dg.vl 4294967296 v = qd at *
  have hcomm : qd * Dg.vl 4294967296 v = Dg.vl 4294967296 v * qd := Int.mul_comm _ _
  obtain ⟨r,hr1,hr2,hr3,hr4⟩ := digit_c hwd hv hwl hvl (by omega) hn (q := qd) q0 (by omega) (by rw [hwv]; omega) (by rw [hwv]; omega)
  rw [hwv] at hr4
  have hrl : r.length = p + 3 := by omega
  -- the new row
  have ht1 : (uu.take t).length = t := by rw [zD]; omega
  have hnl : (uu.take t ++ r ++ uu.drop (t + (p + 3))).length = m + p + 2 := by
   rw [zx,zx,ht1,jd]
   omega
  have hnd : (uu.take t ++ r ++ uu.drop (t + (p + 3))).drop t = r ++ uu.drop (t + (p + 3)) := by
   rw [List.append_assoc,List.drop_append_of_le_length (by omega),zW (by omega),List.nil_append]
  have hrv : Dg.vl 4294967296 (r ++ uu.drop (t + (p + 3))) = Dg.vl 4294967296 r := by
   rw [Dg.vl_append,vl_zero_from hz']
   simp
  have hnv : Dg.vl 4294967296 (uu.take t ++ r ++ uu.drop (t + (p + 3))) = Dg.vl 4294967296 uu - qd * Dg.vl 4294967296 v * 4294967296 ^ t := by
   rw [List.append_assoc,Dg.vl_append,hrv,ht1,hr4,Dg.vl_take_drop 4294967296 uu t]
   grind
  have h9 := ih (uu.take t ++ r ++ uu.drop (t + (p + 3))) (q.set t qd) (by omega) hnl (by rw [zU]; exact hql) (((hu.take t).append hr3).append (hu.drop _)) (hq.set _ q0 q1) ?_ ?_ ?_
  rotate_left
  ·rw [hnd,hrv,hr4]
   omega
  ·intro j hj
   rw [List.append_assoc,zo,jc (by omega),ht1,← zo]
   by_cases hjt : j = t + (p + 2)
   ·subst hjt
    rw [zo,List.getElem?_append_left (by omega),← zo,show t + (p + 2) - t = p + 2 by omega]
    -- the rest is below the divisor,so its top limb is 0
    have g := hr3.getD (by decide) (p + 2)
    have h3 : r.take (p + 3) = r := zp (by omega)
    have h4 := Dg.vl_take_succ 4294967296 r (p + 2)
    rw [h3] at h4
    have h5 := Dg.vl_nonneg (hr3.take (p + 2)) (by decide)
    rw [hvl] at v1
    apply Classical.byContradiction
    intro hc
    have h6 : 1 * 4294967296 ^ (p + 2) ≤ r.getD (p + 2) 0 * 4294967296 ^ (p + 2) := zJ (by omega) (Int.le_of_lt (Int.pow_pos (by decide)))
    omega
   ·rw [zo,jc (by omega),← zo,getD_drop]
    exact hz' _ (by omega)
  ·rw [hnv,Dg.vl_drop_succ,Dg.vl_drop_set _ _ _ _ _ (Nat.lt_succ_self _),Dg.getD_set _ _ _ _ (by omega),if_pos rfl,← hval,Int.pow_succ]
   grind
  obtain ⟨uf,qf,h10,h11⟩ := h9
  refine ⟨uf,qf,?_,h11⟩
  have e1 : IntKind.i64.wrap ((t : Int) + ((p + 2 : Nat) : Int)) = ((t + (p + 2) : Nat) : Int) := w64add (by omega)
  have e2 : IntKind.i64.wrap (((t + (p + 2) : Nat) : Int) + 1) = ((t + (p + 2) + 1 : Nat) : Int) := w64succ (by omega)
  have e3 : IntKind.i64.wrap ((t : Int) - 1) = (t : Int) - 1 := w64 (by omega) (by omega)
  have e4 : t + (p + 2) + 1 - t = p + 3 := by omega
  clear hz hz' hwl hwd hwv hstep hqr hcomm hr4 hnd hrv hnv hval hqd r0 r1 v0 v1 d1 gu hW0 hWlt hvpos
  rw [LP_go FF b131_0.eq_1]
  simp only [RB,RL,un,St.none,za,zd,ze,zf,zb,zj,zk,zm,zn,zc,zg,zh,zi,↓reduceIte,reduceCtorEq,pack,pid,parN,lid,chkK,apartV,Heap.none,e0,e1,e2,e3,e4,hr1]
  have hk : zQ uu.length (uu.take t ++ r ++ uu.drop (t + (p + 3))) = uu.take t ++ r ++ uu.drop (t + (p + 3)) := zp (by omega)
  simp (disch := omega) only [if_pos,if_neg,zt,take_set_len,take_set2_len,take_rep_len,take_snoc_len,take_app_len,hk]
  exact h10
theorem long_D {a b : Nat} (hb : 4294967296 ≤ b) (hab : b ≤ a) (hl : L a ≤ 4398046511104) : R FF 131 [(AV.l 1 (List.map u (D a))),(AV.l 1 (List.map u (D b)))] = some (.tup [(AV.l 1 (List.map u (D (a / b)))),(AV.l 1 (List.map u (D (a % b))))]) := by
 obtain ⟨p,hp⟩ : ∃ p,L b = p + 2 := by
  refine ⟨L b - 2,?_⟩
  have h1 := L_lt b
  have h2 : ¬ L b ≤ 1 := fun h => by
   have h3 : 4294967296 ^ L b ≤ 4294967296 ^ 1 := Nat.pow_le_pow_right (by decide) h
   rw [Nat.pow_one] at h3
   omega
  omega
 obtain ⟨m,hm⟩ : ∃ m,L a + 1 = m + p + 2 := ⟨L a + 1 - (p + 2),by have := L_mono hab; omega⟩
 have hbl := L_lt b
 have hal := L_lt a
 have hT := getD_top hp
 have hT1 := D_get b (p + 1)
 have hT2 : (D b).getD (p + 1) 0 ≠ 0 := by
  have := D_top b (by rw [Ne,D_nil]; omega)
  rwa [show (D b).length - 1 = p + 1 by show L b - 1 = p + 1; omega] at this
 obtain ⟨s,hs,hz,hlo,hhi⟩ := lz32 (x := (D b).getD (p + 1) 0) (by omega) (by omega)
 have hT3 : b / 4294967296 ^ (p + 1) * 2 ^ s < 4294967296 := by
  rw [hT] at hhi
  exact Int.ofNat_lt.1 (by rw [Int.natCast_mul,Int.natCast_pow]; exact hhi)
 have hT4 : 2147483648 ≤ b / 4294967296 ^ (p + 1) * 2 ^ s := by
  rw [hT] at hlo
  exact Int.ofNat_le.1 (by rw [Int.natCast_mul,Int.natCast_pow]; exact hlo)
 have hP : 0 < 4294967296 ^ (p + 1) := Nat.pow_pos (by decide)
 have h2s : 2 ^ s * 2 ^ (32 - s) = 4294967296 := by rw [← Nat.pow_add,show s + (32 - s) = 32 by omega]
 have h2p := Nat.two_pow_pos s
 -- the divisor,shifted: as long,its top bit set
 have hb1 : b * 2 ^ s < 4294967296 ^ (p + 2) := by
  have e1 : b / 4294967296 ^ (p + 1) < 2 ^ (32 - s) := by
   have h3 : b / 4294967296 ^ (p + 1) * 2 ^ s < 2 ^ (32 - s) * 2 ^ s := by rw [Nat.mul_comm (2 ^ (32 - s)),h2s]; exact hT3
   exact Nat.lt_of_mul_lt_mul_right h3
  have e2 : b < 2 ^ (32 - s) * 4294967296 ^ (p + 1) := (Nat.div_lt_iff_lt_mul hP).1 e1
  calc b * 2 ^ s < 2 ^ (32 - s) * 4294967296 ^ (p + 1) * 2 ^ s := Nat.mul_lt_mul_of_pos_right e2 h2p
   _ = (2 ^ s * 2 ^ (32 - s)) * 4294967296 ^ (p + 1) := by rw [Nat.mul_right_comm,Nat.mul_comm (2 ^ (32 - s))]
   _ = 4294967296 ^ (p + 2) := by rw [h2s,Nat.pow_succ _ (p + 1),Nat.mul_comm]
 have hbs : b ≤ b * 2 ^ s := Nat.le_mul_of_pos_right _ h2p
 have hvL : L (b * 2 ^ s) = p + 2 := by
  have := L_mono hbs
  have := L_le hb1
  omega
 have hvT : 2147483648 ≤ b * 2 ^ s / 4294967296 ^ (p + 1) := by
  rw [Nat.le_div_iff_mul_le hP]
  calc 2147483648 * 4294967296 ^ (p + 1) ≤ (b / 4294967296 ^ (p + 1) * 2 ^ s) * 4294967296 ^ (p + 1) := zK _ hT4
   _ = (b / 4294967296 ^ (p + 1) * 4294967296 ^ (p + 1)) * 2 ^ s := Nat.mul_right_comm _ _ _
   _ ≤ b * 2 ^ s := zK _ (Nat.div_mul_le_self _ _)
 have hvB : 2147483648 * 4294967296 ^ (p + 1) ≤ b * 2 ^ s := (Nat.le_div_iff_mul_le hP).1 hvT
 -- the dividend,shifted
 have has : a ≤ a * 2 ^ s := Nat.le_mul_of_pos_right _ h2p
 have h231 : 2 ^ s ≤ 2147483648 := Nat.pow_le_pow_right (by decide) hs
 have ha1 : a * 2 ^ s < 2147483648 * 4294967296 ^ L a := by
  calc a * 2 ^ s < 4294967296 ^ L a * 2 ^ s := Nat.mul_lt_mul_of_pos_right hal h2p
   _ ≤ 4294967296 ^ L a * 2147483648 := Nat.mul_le_mul_left _ h231
   _ = _ := Nat.mul_comm _ _
 have huL : L (a * 2 ^ s) ≤ L a + 1 := L_le (by
  rw [Nat.pow_succ,Nat.mul_comm (4294967296 ^ L a)]
  refine je ha1 ?_
  exact zK _ (by decide))
 have huL2 := L_mono has
 have hul : ((D (a * 2 ^ s) ++ [0,0]).take (L a + 1)).length = m + p + 2 := by
  rw [zD,zx]
  show min (L a + 1) (L (a * 2 ^ s) + 2) = _
  omega
 have hu0 : ∀ j,L a + 1 ≤ j → (D (a * 2 ^ s) ++ [0,0]).getD j 0 = 0 := fun j hj => by
  rw [zo,jc (by show L _ ≤ j; omega),← zo]
  exact getD_rep 2 _
 have hDz : Dg.Dig 4294967296 ([0,0] : List Int) := Dg.Dig.replicate (by decide) 2
 have hud : Dg.Dig 4294967296 ((D (a * 2 ^ s) ++ [0,0]).take (L a + 1)) := ((D_dig _).append hDz).take _
 have huv : Dg.vl 4294967296 ((D (a * 2 ^ s) ++ [0,0]).take (L a + 1)) = ((a * 2 ^ s : Nat) : Int) := by
  rw [vl_take_zero hu0,Dg.vl_append,D_vl,show Dg.vl 4294967296 [0,0] = 0 from rfl,Int.mul_zero,Int.add_zero]
 have hmt : Dg.vl 4294967296 (((D (a * 2 ^ s) ++ [0,0]).take (L a + 1)).drop m) < ((b * 2 ^ s : Nat) : Int) := by
  have e1 := Dg.vl_take_drop 4294967296 ((D (a * 2 ^ s) ++ [0,0]).take (L a + 1)) m
  have e2 := Dg.vl_nonneg (hud.take m) (by decide)
  rw [huv] at e1
  have e3 : a * 2 ^ s < b * 2 ^ s * 4294967296 ^ m := by
   refine je ha1 ?_
   rw [show L a = p + 1 + m by omega,Nat.pow_add,← Nat.mul_assoc]
   exact zK _ hvB
  have e4 : ((a * 2 ^ s : Nat) : Int) < ((b * 2 ^ s : Nat) : Int) * 4294967296 ^ m := by
   rw [show (4294967296 : Int) ^ m = ((4294967296 ^ m : Nat) : Int) by rw [Int.natCast_pow]; rfl,← Int.natCast_mul]
   exact Int.ofNat_lt.2 e3
  apply Classical.byContradiction
  intro hc
  have hPm : (0 : Int) ≤ 4294967296 ^ m := Int.le_of_lt (Int.pow_pos (by decide))
  have e5 := zJ (Int.not_lt.1 hc) hPm
  rw [Int.mul_comm (4294967296 ^ m)] at e1
  generalize (4294967296 : Int) ^ m = Z at *
  omega
 have hR : (((a % b) * 2 ^ s : Nat) : Int) < ((b * 2 ^ s : Nat) : Int) := Int.ofNat_lt.2 (Nat.mul_lt_mul_of_pos_right (Nat.mod_lt _ (by omega)) h2p)
 obtain ⟨uf,qf,hmain,huf,hqf,hufl,hqfl,hqfv,hufv⟩ := long_l0 (D_dig (b * 2 ^ s)) (p := p) (m := m) (s := s) hvL (by rw [getD_top hvL]; exact Int.ofNat_le.2 hvT) hs (by omega) (Q := a / b) (R := a % b) (by rw [D_vl]; exact hR) m _ (zL m 0) (zz _) hul zP hud (Dg.Dig.replicate (by decide) m) (by rw [D_vl]; exact hmt)
  (fun j hj => getD_beyond (by rw [hul]; omega)) (by
   rw [zW (by rw [zP]; exact zz _),huv,D_vl,Dg.vl_nil,Int.zero_mul,Int.zero_mul,Int.zero_add,← Int.natCast_mul,← Int.natCast_add]
   refine congrArg _ ?_
   rw [← Nat.mul_assoc,← zZ,Nat.mul_comm (a / b),Nat.div_add_mod])
 have hbL : (D b).length = p + 2 := hp
 have haL : (D a).length = m + p + 1 := by show L a = _; omega
 have hvl : (D (b * 2 ^ s)).length = p + 2 := hvL
 have hal' : (D (a * 2 ^ s)).length ≤ m + p + 2 := by show L (a * 2 ^ s) ≤ _; omega
 have hal2 : m + p + 2 ≤ (D (a * 2 ^ s)).length + 2 := by show _ ≤ L (a * 2 ^ s) + 2; omega
 have hLR : L (a % b * 2 ^ s) ≤ 35184372088832 := by
  have h1 : L (a % b * 2 ^ s) ≤ L (b * 2 ^ s) := L_mono (Nat.le_of_lt (Int.ofNat_lt.1 hR))
  omega
 have t1 := trim_c hqf (by omega) hqfv
 have t2 := trim_c huf (by omega) hufv
 have t3 := shr_D hLR (n := s) (by omega)
 rw [Nat.mul_div_cancel _ h2p] at t3
 have s1 := shl_D (m := b) (n := s) (by omega) (by omega) (by omega)
 have s2 := shl_D (m := a) (n := s) (by omega) (by omega) (by omega)
 have e1 : IntKind.i64.wrap (((p + 2 : Nat) : Int) - 1) = ((p + 1 : Nat) : Int) := by rw [w64 (by omega) (by omega)]; omega
 have e2 : IntKind.i64.wrap (((m + p + 1 : Nat) : Int) + 1) = ((m + p + 2 : Nat) : Int) := by rw [w64succ (by omega)]
 have e3 : IntKind.u32.wrap ((D b).getD (p + 1) 0) = (D b).getD (p + 1) 0 := by
  rw [show IntKind.u32.wrap ((D b).getD (p + 1) 0) = (D b).getD (p + 1) 0 % 4294967296 by simp [IntKind.wrap,IntKind.bits,IntKind.signed]]
  omega
 have e4 : IntKind.i64.wrap (((m + p + 2 : Nat) : Int) - ((p + 2 : Nat) : Int)) = (m : Int) := by rw [w64 (by omega) (by omega)]; omega
 have e5 : IntKind.i64.wrap ((m : Int) - 1) = (m : Int) - 1 := w64 (by omega) (by omega)
 clear hb1 hbs hvT hvB has ha1 hR hmt huv hu0 hhi hlo hT3 hT4 hT h2s hal hbl hP hT2
 rw [R_go FF F131 c131.eq_1]
 rw [show L a + 1 = m + p + 2 by omega] at hmain
 have e6 : List.map u (D (a * 2 ^ s)) ++ [u 0,u 0] = List.map u (D (a * 2 ^ s) ++ [0,0]) := by rw [jb]; rfl
 have hLL : (D (a * 2 ^ s)).length ≤ 17592186044416 := by show L _ ≤ _; omega
 simp only [RB,RL,un,St.none,za,zd,ze,zf,zb,zj,zk,zm,zn,zc,zg,zh,zi,↓reduceIte,reduceCtorEq,pack,pid,parN,lid,chkK,apartV,Heap.none,hbL,haL,e1,e2,e3,hz,s1,s2,hvl,e4,e5,e6]
 clear h231 h2p hT1 huL2 hLR hvL hp hz s1 s2 huL hufv hqfv hud hDz
 rw [if_pos (by omega),if_pos (by omega),if_pos (by omega),if_pos (by omega)]
 have e7 : zQ (p + 2) (D (b * 2 ^ s)) = D (b * 2 ^ s) := by rw [← hvl,zt]
 simp (disch := omega) only [if_pos,if_neg,zt,take_set_len,take_set2_len,take_rep_len,take_snoc_len,take_app_len,e7]
 rw [hmain]
 simp only [RB,RL,un,St.none,za,zd,ze,zf,zb,zj,zk,zm,zn,zc,zg,zh,zi,↓reduceIte,reduceCtorEq,pack,pid,parN,lid,chkK,apartV,Heap.none,t1,t2,t3]
theorem divmod_c {x y : List Int} (hx : U x) (hy : U y) (hla : x.length ≤ 4398046511104) (hlb : y.length ≤ 4398046511104) : R FF 115 [(AV.l 1 (List.map u x)),(AV.l 1 (List.map u y))] = some (if W y = 0 then .tup [.l 1 [],.l 1 [],(AV.i .i64 2)] else .tup [(AV.l 1 (List.map u (D (W x / W y)))),(AV.l 1 (List.map u (D (W x % W y)))),(AV.i .i64 0)]) := by
 have h1 := clean_c hx (by omega)
 have h2 := clean_c hy (by omega)
 have hl := L_W x
 have hl2 := L_W y
 generalize W x = a at *
 generalize W y = b at *
 have hlen : (D b).length = L b := rfl
 by_cases h0 : b = 0
 ·subst h0
  rw [if_pos rfl]
  rw [R_go FF F115 c115.eq_1]
  simp only [RB,RL,un,St.none,za,zd,ze,zf,zb,zj,zk,zm,zn,zc,zg,zh,zi,↓reduceIte,reduceCtorEq,pack,pid,parN,lid,chkK,apartV,Heap.none,h1,h2,D_zero,List.length_nil]
 rw [if_neg h0]
 have hL0 : L b ≠ 0 := fun h => h0 (D_nil.1 (List.eq_nil_of_length_eq_zero h))
 have ho := order_c (m := a) (n := b) (by omega) (by omega)
 have hL1 : ¬ (L b : Int) = 0 := by omega
 by_cases hlt : a < b
 ·have hc : cmp a b < 0 := cmp_lt_iff.2 (by omega)
  rw [R_go FF F115 c115.eq_1]
  simp only [RB,RL,un,St.none,za,zd,ze,zf,zb,zj,zk,zm,zn,zc,zg,zh,zi,↓reduceIte,reduceCtorEq,pack,pid,parN,lid,chkK,apartV,Heap.none,h1,h2,hlen,hL1,ho,hc]
  rw [Nat.div_eq_of_lt hlt,Nat.mod_eq_of_lt hlt,D_zero]
  rfl
 have hc : ¬ cmp a b < 0 := fun h => hlt (by have := cmp_lt_iff.1 h; omega)
 by_cases hs : b < 4294967296
 ·have hb := D_small h0 hs
  have h3 : (L b : Int) = 1 := by show ((D b).length : Int) = 1; rw [hb]; rfl
  have h4 := small_D (m := a) (d := b) (by omega) (by omega) (by omega)
  have h5 := Nat.mod_lt a (show 0 < b by omega)
  have h6 := of_c (x := ((a % b : Nat) : Int)) (by omega) (by omega) (n := a % b) rfl
  rw [R_go FF F115 c115.eq_1]
  have h7 : (D b).getD 0 0 = (b : Int) := by rw [hb]; rfl
  simp only [RB,RL,un,St.none,za,zd,ze,zf,zb,zj,zk,zm,zn,zc,zg,zh,zi,↓reduceIte,reduceCtorEq,pack,pid,parN,lid,chkK,apartV,Heap.none,h1,h2,hlen,h3,ho,hc,h7,h4,h6]
 ·have h3 : ¬ (L b : Int) = 1 := fun h => by
   have := L_lt b
   rw [show L b = 1 by omega,Nat.pow_one] at this
   omega
  have h4 := long_D (a := a) (b := b) (by omega) (by omega) (by omega)
  rw [R_go FF F115 c115.eq_1]
  simp only [RB,RL,un,St.none,za,zd,ze,zf,zb,zj,zk,zm,zn,zc,zg,zh,zi,↓reduceIte,reduceCtorEq,pack,pid,parN,lid,chkK,apartV,Heap.none,h1,h2,hlen,hL1,ho,hc,h3,h4]
theorem divmod_D {a b : Nat} (hl : L a ≤ 4398046511104) (hlb : L b ≤ 4398046511104) : R FF 115 [(AV.l 1 (List.map u (D a))),(AV.l 1 (List.map u (D b)))] = some (if b = 0 then .tup [.l 1 [],.l 1 [],(AV.i .i64 2)] else .tup [(AV.l 1 (List.map u (D (a / b)))),(AV.l 1 (List.map u (D (a % b)))),(AV.i .i64 0)]) := by
 have := divmod_c (D_U a) (D_U b) hl hlb
 rwa [W_D,W_D] at this
theorem odd_part : ∀ n : Nat,n ≠ 0 → ∃ k m,n = 2 ^ k * (2 * m + 1) := by
 intro n
 induction n using Nat.strongRecOn with
 | _ n ih =>
  intro hn
  rcases Nat.mod_two_eq_zero_or_one n with h | h
  ·obtain ⟨k,m,hk⟩ := ih (n / 2) (by omega) (by omega)
   refine ⟨k + 1,m,?_⟩
   have : n = 2 * (n / 2) := by omega
   rw [this,hk,Nat.pow_succ]
   simp only [Nat.mul_comm,Nat.mul_left_comm]
  ·exact ⟨0,n / 2,by omega⟩
theorem low_and {x k m : Nat} (hx : x = 2 ^ k * (2 * m + 1)) (h : x < 2 ^ 64) : x &&& (2 ^ 64 - x) = 2 ^ k := by
 have hk : k < 64 := by
  rcases jl k 64 with h1 | h1
  ·exact h1
  ·have h2 : 2 ^ 64 ≤ 2 ^ k := Nat.pow_le_pow_right (by decide) h1
   have h3 : 2 ^ k * 1 ≤ 2 ^ k * (2 * m + 1) := Nat.mul_le_mul_left _ (by omega)
   omega
 have e1 : 2 ^ 64 = 2 ^ k * (2 * 2 ^ (63 - k)) := by
  rw [show 2 * 2 ^ (63 - k) = 2 ^ (64 - k) by rw [show 64 - k = (63 - k) + 1 by omega,Nat.pow_succ,Nat.mul_comm],← Nat.pow_add,show k + (64 - k) = 64 by omega]
 have hm : m < 2 ^ (63 - k) := by
  rw [hx,e1] at h
  have := Nat.lt_of_mul_lt_mul_left h
  omega
 have e2 : 2 ^ 64 - x = 2 ^ k * (2 * (2 ^ (63 - k) - (m + 1)) + 1) := by
  rw [hx,e1,← Nat.mul_sub]
  congr 1
  omega
 rw [e2,hx]
 apply Nat.eq_of_testBit_eq
 intro i
 rw [Nat.testBit_and,Nat.testBit_two_pow_mul,Nat.testBit_two_pow_mul,Nat.testBit_two_pow]
 rcases Nat.lt_trichotomy i k with h1 | h1 | h1
 ·have : ¬ i ≥ k := by omega
  have h2 : ¬ k = i := by omega
  simp [this,h2]
 ·subst h1
  simp
 ·have h2 : ¬ k = i := by omega
  obtain ⟨j,hj⟩ : ∃ j,i - k = j + 1 := ⟨i - k - 1,by omega⟩
  rw [hj,Nat.testBit_succ,Nat.testBit_succ,show (2 * m + 1) / 2 = m by omega,show (2 * (2 ^ (63 - k) - (m + 1)) + 1) / 2 = 2 ^ (63 - k) - (m + 1) by omega,Nat.testBit_two_pow_sub_succ hm]
  cases Nat.testBit m j <;> simp [h2]
theorem pow64 : (2 : Nat) ^ 64 = 18446744073709551616 := by decide
theorem low_and' {x k m : Nat} (hx : x = 2 ^ k * (2 * m + 1)) (h : x < 18446744073709551616) : x &&& (18446744073709551616 - x) = 2 ^ k := by
 rw [← pow64] at h ⊢
 exact low_and hx h
def dB (k : Nat) : Int := (IntKind.u64.wrap (((2 ^ k : Nat) : Int) * 285870213051353865)).fdiv (2 ^ Nat.min 58 IntKind.u64.bits)
def tabIs (x k : Int) : Bool := match tab0[x.toNat]? with
 | some (.i .u8 n) => n == k
 | _ => false
theorem tabIs_spec {x k : Int} (h : tabIs x k = true) : tab0[x.toNat]? = some (AV.i .u8 k) := by
 unfold tabIs at h
 split at h
 ·rename_i n hn
  rw [hn]
  simp only [beq_iff_eq] at h
  rw [h]
 ·cases h
theorem tab_all : ∀ k : Fin 64,tabIs (dB k.val) (k.val : Int) = true ∧ 0 ≤ dB k.val ∧ dB k.val < 64 := by decide +kernel
theorem tab_at {k : Nat} (hk : k < 64) : tab0[(dB k).toNat]? = some (AV.i .u8 (k : Int)) ∧ 0 ≤ dB k ∧ dB k < 64 := ⟨tabIs_spec (tab_all ⟨k,hk⟩).1,(tab_all ⟨k,hk⟩).2⟩
theorem neg64 {y : Nat} (h : y < 18446744073709551616) (h0 : 0 < y) : IntKind.u64.wrap (0 - (y : Int)) = ((18446744073709551616 - y : Nat) : Int) := by
 rw [u64m]
 omega
theorem tz64 {x : Int} {k m : Nat} (hx : x = ((2 ^ k * (2 * m + 1) : Nat) : Int)) (h : x < 18446744073709551616) : R FF 128 [(AV.i .u64 x)] = some (AV.i .i64 ((k : Int))) ∧ k < 64 := by
 have hlt : 2 ^ k * (2 * m + 1) < 18446744073709551616 := by
  rw [hx] at h
  omega
 have hpos : 0 < 2 ^ k * (2 * m + 1) := Nat.mul_pos (Nat.two_pow_pos k) (by omega)
 have hk : k < 64 := by
  rcases jl k 64 with h1 | h1
  ·exact h1
  ·have h2 : 2 ^ 64 ≤ 2 ^ k := Nat.pow_le_pow_right (by decide) h1
   rw [pow64] at h2
   have h3 : 2 ^ k * 1 ≤ 2 ^ k * (2 * m + 1) := Nat.mul_le_mul_left _ (by omega)
   omega
 have e3 : IntKind.i64.wrap (k : Int) = k := w64 (by omega) (by omega)
 have ha := low_and' (x := 2 ^ k * (2 * m + 1)) rfl hlt
 generalize 2 ^ k * (2 * m + 1) = y at *
 subst hx
 have e1 := neg64 hlt hpos
 have e2 : Go.bits .and .u64 (y : Int) ((18446744073709551616 - y : Nat) : Int) = ((2 ^ k : Nat) : Int) := by
  rw [(bits_nat .u64 64 (by decide) u64_id y (18446744073709551616 - y) (by rw [pow64]; exact hlt) (by rw [pow64]; exact Nat.sub_lt (by decide) hpos)).1,ha]
 have h0 : ¬ (y : Int) = 0 := fun h => by rw [Int.ofNat_eq_zero.1 h] at hpos; exact absurd hpos (by decide)
 obtain ⟨t4,t2,t3⟩ := tab_at hk
 refine ⟨?_,hk⟩
 clear ha hlt hpos
 have t5 : (0 ≤ dB k ∧ dB k < 64) := ⟨t2,t3⟩
 have t6 : ∀ j,ldC false 1 j tab0 = tab0[j]? := fun _ => rfl
 have t7 : (IntKind.u64.wrap (((2 ^ k : Nat) : Int) * 285870213051353865)).fdiv (2 ^ Nat.min 58 IntKind.u64.bits) = dB k := rfl
 rw [R_go FF F128 c128.eq_1]
 simp only [RB,RL,un,St.none,za,zd,ze,zf,zb,zj,zk,zm,zn,zc,zg,zh,zi,↓reduceIte,reduceCtorEq,pack,pid,parN,lid,chkK,apartV,Heap.none,e1,e2,h0,t7,t5,Nat.mul_one,t6,t4,e3]
end Go.Pe
