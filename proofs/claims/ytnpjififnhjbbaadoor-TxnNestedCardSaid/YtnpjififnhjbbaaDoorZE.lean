/- It is proved that an evaluator over the functions' texts says no more than the run. No condition beyond the lemmas' own. -/
import Derived.Test.YtnpjififnhjbbaaDoorLF0
import Derived.Test.YtnpjififnhjbbaaDoorLF1
import Derived.Test.YtnpjififnhjbbaaDoorLF2
import Derived.Test.YtnpjififnhjbbaaDoorLF3
import Derived.Test.YtnpjififnhjbbaaDoorLF4
import Derived.Test.YtnpjififnhjbbaaDoorLF5
import Derived.Test.YtnpjififnhjbbaaDoorLF6
set_option maxRecDepth 100000
set_option maxHeartbeats 400000
namespace Go.Proofs.YtnpjififnhjbbaaDoor.E
open Go
structure F3 where
  b : Int → Int → R
  J0 : Int → Int → Bool → R
  L1 : Int → Int → V → Bool → List V → Int → Int → List O → R
  J2 : Int → Int → V → Bool → List V → Int → ByteArray → Int → Int → Bool → List O → R
  J3 : Int → Int → V → Bool → List V → ByteArray → Int → Int → Bool → List O → R
  L4 : Int → V → Bool → List V → Bool → List V → Int → List O → R
  L5 : Int → V → Bool → List V → Int → Int → List O → R
  J6 : Int → V → Bool → List V → Int → List O → R
  J7 : Int → V → Bool → List V → Bool → List V → Int → List O → R
  J8 : Int → V → Bool → List V → Int → Int → Bool → List O → R
  J9 : V → List V → Bool → List O → R
  L10 : V → List V → Int → List O → R
  J11 : V → List O → R
  J12 : Bool → List O → R
  L13 : V → List V → Bool → Int → List V → Int → Int → Int → Int → ByteArray → List O → R
  J14 : V → List V → Bool → Int → List V → Int → Int → Int → Int → ByteArray → List O → R
  J15 : V → List V → Int → Bool → List O → R
structure F6 where
  b : R
  L0 : V → Int → Int → List V → Int → Int → List O → R
  J1 : V → Int → Int → List V → Int → Int → Bool → List O → R
  J2 : Bool → List O → R
structure F7 where
  b : List O → R
structure F8 where
  b : Nat → Nat → Int → List O → R
  J0 : Nat → Nat → Int → List O → R
structure F9 where
  b : Nat → Nat → Int → ByteArray → List O → R
structure F10 where
  b : Nat → Nat → Int → List O → R
  J0 : Nat → Nat → Int → V → Bool → List O → R
  L1 : Nat → Nat → V → V → Int → Int → List O → R
  J2 : Nat → Nat → V → V → Int → Int → List O → R
structure F11 where
  b : Nat → Nat → Int → List O → R
  L0 : Nat → Nat → V → V → Int → Int → List O → R
structure F12 where
  b : Nat → Nat → List O → R
structure F13 where
  b : Nat → Nat → Int → List O → R
  J0 : Nat → Nat → Int → V → Bool → Int → ByteArray → Int → V → List O → R
structure F14 where
  b : Nat → Nat → Int → List O → R
structure F15 where
  b : V → V → List O → R
  L0 : V → V → Int → Int → List O → R
  J1 : V → V → Int → Int → List O → R
structure F16 where
  b : Nat → Nat → Int → List O → R
structure F20 where
  b : Nat → Nat → List O → R
structure F25 where
  b : Nat → Nat → Int → List O → R
structure F26 where
  b : Nat → Nat → Int → ByteArray → V → List O → R
structure F27 where
  b : Nat → Nat → List O → R
structure F28 where
  b : Nat → Nat → Int → List O → R
  L0 : Nat → Nat → Int → V → Int → List O → R
  J1 : Nat → Nat → Int → V → Int → V → Bool → List O → R
  J2 : Nat → Nat → Int → V → Int → List O → R
structure F29 where
  b : Nat → Nat → Nat → Nat → List O → R
  J0 : Nat → Nat → V → V → V → Bool → List O → R
structure F30 where
  b : Nat → Nat → Nat → Nat → List O → R
  L0 : Nat → Nat → Nat → Nat → Bool → List O → R
  J1 : Nat → Nat → Nat → Nat → Bool → List O → R
  J2 : Nat → Nat → Nat → Nat → Bool → List O → R
  J3 : Nat → Nat → Nat → Nat → Bool → List O → R
  J4 : List O → R
structure F31 where
  b : V → List O → R
structure F32 where
  b : Nat → Nat → Nat → Nat → List O → R
  L0 : Nat → Nat → V → Int → Int → List O → R
  J1 : Nat → Nat → ByteArray → V → Int → Int → Bool → List O → R
  J2 : Nat → Nat → V → Int → Int → List O → R
structure F33 where
  b : Nat → Nat → List O → R
structure F34 where
  b : List O → R
structure F39 where
  b : ByteArray → R
  L0 : ByteArray → Int → Int → R
  J1 : ByteArray → Int → Int → Bool → R
  J2 : Bool → R
structure F40 where
  b : V → ByteArray → List O → R
structure F41 where
  b : V → V → List O → R
  L0 : V → V → Int → Int → List O → R
  J1 : V → V → Int → Int → List O → R
structure F42 where
  b : List O → R
structure F43 where
  b : V → V → List O → R
  L0 : V → V → Int → Int → List O → R
  J1 : V → V → Int → Int → List O → R
structure F44 where
  b : Nat → Nat → V → List O → R
structure F45 where
  b : Nat → Nat → Nat → Nat → Int → ByteArray → Int → List O → R
  J0 : List O → R
structure F46 where
  b : Nat → Nat → Nat → Nat → Int → ByteArray → Int → List O → R
  J0 : List O → R
  J1 : List O → R
  J2 : List O → R
  J3 : List O → R
structure F47 where
  b : Nat → Nat → Nat → Nat → Int → ByteArray → Int → List O → R
  J0 : Nat → Nat → Int → Int → ByteArray → Int → Bool → List O → R
  J1 : Nat → Nat → Int → Int → ByteArray → V → V → List O → R
  J2 : Nat → Nat → Int → ByteArray → V → V → Bool → List O → R
  J3 : V → V → List O → R
  J4 : Nat → Nat → Int → Int → ByteArray → List O → R
  J5 : Nat → Nat → Int → Int → ByteArray → List O → R
structure F48 where
  b : Nat → Nat → Nat → Nat → Int → ByteArray → Int → List O → R
  J0 : Nat → Nat → Int → Int → ByteArray → V → List O → R
  J1 : Nat → Nat → Int → ByteArray → V → Bool → List O → R
  J2 : V → List O → R
  J3 : Nat → Nat → Int → Int → ByteArray → V → List O → R
  J4 : Nat → Nat → Int → Int → ByteArray → Bool → List O → R
  J5 : Nat → Nat → Int → Int → ByteArray → V → List O → R
structure F49 where
  b : Nat → Nat → Nat → Nat → Int → ByteArray → Int → List O → R
  J0 : List O → R
structure F50 where
  b : Nat → Nat → Nat → Nat → Int → ByteArray → Int → List O → R
structure F53 where
  b : V → ByteArray → List O → R
  L0 : V → ByteArray → Int → Int → List O → R
structure F54 where
  b : Nat → Nat → Nat → Nat → List O → R
  J0 : Nat → Nat → Nat → Nat → Bool → List O → R
  L1 : Nat → Nat → Nat → Nat → V → Int → Int → List O → R
  J2 : Nat → Nat → Nat → Nat → V → Int → Int → List O → R
  J3 : Nat → Nat → Nat → Nat → List O → R
  J4 : Nat → Nat → List O → R
  L5 : Nat → Nat → V → Int → Int → List O → R
  J6 : Nat → Nat → V → Int → Int → List O → R
structure F55 where
  b : Nat → Nat → Nat → Nat → List O → R
  L0 : Nat → Nat → V → Int → Int → List O → R
  J1 : Nat → Nat → V → Int → Int → List O → R
  J2 : Nat → Nat → Nat → Nat → Bool → List O → R
  J3 : Nat → Nat → List O → R
  L4 : Nat → Nat → V → Int → Int → List O → R
  J5 : Nat → Nat → V → Int → Int → List O → R
  J6 : List O → R
structure F56 where
  b : V → V → List O → R
  L0 : V → V → Int → Int → List O → R
structure F57 where
  b : ByteArray → Int → ByteArray → R
structure F58 where
  b : V → V → List O → R
  L0 : V → V → Int → Int → List O → R
  J1 : V → V → Int → Int → List O → R
structure F64 where
  b : V → V → List O → R
  L0 : V → V → Int → Int → List O → R
structure Fns where
  f3 : F3
  f6 : F6
  f7 : F7
  f8 : F8
  f9 : F9
  f10 : F10
  f11 : F11
  f12 : F12
  f13 : F13
  f14 : F14
  f15 : F15
  f16 : F16
  f20 : F20
  f25 : F25
  f26 : F26
  f27 : F27
  f28 : F28
  f29 : F29
  f30 : F30
  f31 : F31
  f32 : F32
  f33 : F33
  f34 : F34
  f39 : F39
  f40 : F40
  f41 : F41
  f42 : F42
  f43 : F43
  f44 : F44
  f45 : F45
  f46 : F46
  f47 : F47
  f48 : F48
  f49 : F49
  f50 : F50
  f53 : F53
  f54 : F54
  f55 : F55
  f56 : F56
  f57 : F57
  f58 : F58
  f64 : F64
structure Ok3 (F : Fns) : Prop where
  b : ∀ (a0 : Int) (a1 : Int), OLe (F.f3.b a0 a1) (RUN 3 [(V.int .i64 a0), (V.int .i64 a1)] [])
  J0 : ∀ (n100 : Int) (n101 : Int) (b102 : Bool), OLe (F.f3.J0 n100 n101 b102) (XC 3 .body law27_TxnNested.J0P (law27_TxnNested.J0F n100 n101 b102))
  L1 : ∀ (n111 : Int) (n112 : Int) (v113 : V) (m114 : Bool) (es115 : List V) (n116 : Int) (n117 : Int) (s118 : List O), OLe (F.f3.L1 n111 n112 v113 m114 es115 n116 n117 s118) (XC 3 .body law27_TxnNested.L1P (law27_TxnNested.L1F n111 n112 v113 m114 es115 n116 n117 s118))
  J2 : ∀ (n130 : Int) (n131 : Int) (v132 : V) (m133 : Bool) (es134 : List V) (n135 : Int) (s136 : ByteArray) (n137 : Int) (n138 : Int) (b139 : Bool) (s140 : List O), OLe (F.f3.J2 n130 n131 v132 m133 es134 n135 s136 n137 n138 b139 s140) (XC 3 .body law27_TxnNested.J2P (law27_TxnNested.J2F n130 n131 v132 m133 es134 n135 s136 n137 n138 b139 s140))
  J3 : ∀ (n146 : Int) (n147 : Int) (v148 : V) (m149 : Bool) (es150 : List V) (s151 : ByteArray) (n152 : Int) (n153 : Int) (b154 : Bool) (s155 : List O), OLe (F.f3.J3 n146 n147 v148 m149 es150 s151 n152 n153 b154 s155) (XC 3 .body law27_TxnNested.J3P (law27_TxnNested.J3F n146 n147 v148 m149 es150 s151 n152 n153 b154 s155))
  L4 : ∀ (n161 : Int) (v162 : V) (m163 : Bool) (es164 : List V) (m165 : Bool) (es166 : List V) (n167 : Int) (s168 : List O), OLe (F.f3.L4 n161 v162 m163 es164 m165 es166 n167 s168) (XC 3 .body law27_TxnNested.L4P (law27_TxnNested.L4F n161 v162 m163 es164 m165 es166 n167 s168))
  L5 : ∀ (n174 : Int) (v175 : V) (m176 : Bool) (es177 : List V) (n178 : Int) (n179 : Int) (s180 : List O), OLe (F.f3.L5 n174 v175 m176 es177 n178 n179 s180) (XC 3 .body law27_TxnNested.L5P (law27_TxnNested.L5F n174 v175 m176 es177 n178 n179 s180))
  J6 : ∀ (n201 : Int) (v202 : V) (m203 : Bool) (es204 : List V) (n205 : Int) (s206 : List O), OLe (F.f3.J6 n201 v202 m203 es204 n205 s206) (XC 3 .body law27_TxnNested.J6P (law27_TxnNested.J6F n201 v202 m203 es204 n205 s206))
  J7 : ∀ (n207 : Int) (v208 : V) (m209 : Bool) (es210 : List V) (m211 : Bool) (es212 : List V) (n213 : Int) (s214 : List O), OLe (F.f3.J7 n207 v208 m209 es210 m211 es212 n213 s214) (XC 3 .body law27_TxnNested.J7P (law27_TxnNested.J7F n207 v208 m209 es210 m211 es212 n213 s214))
  J8 : ∀ (n215 : Int) (v216 : V) (m217 : Bool) (es218 : List V) (n219 : Int) (n220 : Int) (b221 : Bool) (s222 : List O), OLe (F.f3.J8 n215 v216 m217 es218 n219 n220 b221 s222) (XC 3 .body law27_TxnNested.J8P (law27_TxnNested.J8F n215 v216 m217 es218 n219 n220 b221 s222))
  J9 : ∀ (v271 : V) (es272 : List V) (b273 : Bool) (s274 : List O), OLe (F.f3.J9 v271 es272 b273 s274) (XC 3 .body law27_TxnNested.J9P (law27_TxnNested.J9F v271 es272 b273 s274))
  L10 : ∀ (v275 : V) (es276 : List V) (n277 : Int) (s278 : List O), OLe (F.f3.L10 v275 es276 n277 s278) (XC 3 .body law27_TxnNested.L10P (law27_TxnNested.L10F v275 es276 n277 s278))
  J11 : ∀ (v299 : V) (s300 : List O), OLe (F.f3.J11 v299 s300) (XC 3 .body law27_TxnNested.J11P (law27_TxnNested.J11F v299 s300))
  J12 : ∀ (b315 : Bool) (s316 : List O), OLe (F.f3.J12 b315 s316) (XC 3 .body law27_TxnNested.J12P (law27_TxnNested.J12F b315 s316))
  L13 : ∀ (v317 : V) (es318 : List V) (b319 : Bool) (n320 : Int) (es321 : List V) (n322 : Int) (n323 : Int) (n324 : Int) (n325 : Int) (s326 : ByteArray) (s327 : List O), OLe (F.f3.L13 v317 es318 b319 n320 es321 n322 n323 n324 n325 s326 s327) (XC 3 .body law27_TxnNested.L13P (law27_TxnNested.L13F v317 es318 b319 n320 es321 n322 n323 n324 n325 s326 s327))
  J14 : ∀ (v332 : V) (es333 : List V) (b334 : Bool) (n335 : Int) (es336 : List V) (n337 : Int) (n338 : Int) (n339 : Int) (n340 : Int) (s341 : ByteArray) (s342 : List O), OLe (F.f3.J14 v332 es333 b334 n335 es336 n337 n338 n339 n340 s341 s342) (XC 3 .body law27_TxnNested.J14P (law27_TxnNested.J14F v332 es333 b334 n335 es336 n337 n338 n339 n340 s341 s342))
  J15 : ∀ (v343 : V) (es344 : List V) (n345 : Int) (b346 : Bool) (s347 : List O), OLe (F.f3.J15 v343 es344 n345 b346 s347) (XC 3 .body law27_TxnNested.J15P (law27_TxnNested.J15F v343 es344 n345 b346 s347))
structure Ok6 (F : Fns) : Prop where
  b : OLe F.f6.b (RUN 6 [] [])
  L0 : ∀ (v131 : V) (n132 : Int) (n133 : Int) (es134 : List V) (n135 : Int) (n136 : Int) (s137 : List O), OLe (F.f6.L0 v131 n132 n133 es134 n135 n136 s137) (XC 6 .body law27_awake.L0P (law27_awake.L0F v131 n132 n133 es134 n135 n136 s137))
  J1 : ∀ (v168 : V) (n169 : Int) (n170 : Int) (es171 : List V) (n172 : Int) (n173 : Int) (b174 : Bool) (s175 : List O), OLe (F.f6.J1 v168 n169 n170 es171 n172 n173 b174 s175) (XC 6 .body law27_awake.J1P (law27_awake.J1F v168 n169 n170 es171 n172 n173 b174 s175))
  J2 : ∀ (b190 : Bool) (s191 : List O), OLe (F.f6.J2 b190 s191) (XC 6 .body law27_awake.J2P (law27_awake.J2F b190 s191))
structure Ok7 (F : Fns) : Prop where
  b : ∀ (s : List O), OLe (F.f7.b s) (RUN 7 [] s)
structure Ok8 (F : Fns) : Prop where
  b : ∀ (i0 : Nat) (o1 : Nat) (a2 : Int) (s : List O), OLe (F.f8.b i0 o1 a2 s) (RUN 8 [(V.obj i0 o1), (V.int .i64 a2)] s)
  J0 : ∀ (i114 : Nat) (o115 : Nat) (n116 : Int) (s117 : List O), OLe (F.f8.J0 i114 o115 n116 s117) (XC 8 .body txn_Manager_Begin.J0P (txn_Manager_Begin.J0F i114 o115 n116 s117))
structure Ok9 (F : Fns) : Prop where
  b : ∀ (i0 : Nat) (o1 : Nat) (a2 : Int) (a3 : ByteArray) (s : List O), OLe (F.f9.b i0 o1 a2 a3 s) (RUN 9 [(V.obj i0 o1), (V.int .i64 a2), (V.str a3)] s)
structure Ok10 (F : Fns) : Prop where
  b : ∀ (i0 : Nat) (o1 : Nat) (a2 : Int) (s : List O), OLe (F.f10.b i0 o1 a2 s) (RUN 10 [(V.obj i0 o1), (V.int .i64 a2)] s)
  J0 : ∀ (i114 : Nat) (o115 : Nat) (n116 : Int) (v117 : V) (b118 : Bool) (s119 : List O), OLe (F.f10.J0 i114 o115 n116 v117 b118 s119) (XC 10 .body txn_Manager_Commit.J0P (txn_Manager_Commit.J0F i114 o115 n116 v117 b118 s119))
  L1 : ∀ (i145 : Nat) (o146 : Nat) (v147 : V) (v148 : V) (n149 : Int) (n150 : Int) (s151 : List O), OLe (F.f10.L1 i145 o146 v147 v148 n149 n150 s151) (XC 10 .body txn_Manager_Commit.L1P (txn_Manager_Commit.L1F i145 o146 v147 v148 n149 n150 s151))
  J2 : ∀ (i164 : Nat) (o165 : Nat) (v166 : V) (v167 : V) (n168 : Int) (n169 : Int) (s170 : List O), OLe (F.f10.J2 i164 o165 v166 v167 n168 n169 s170) (XC 10 .body txn_Manager_Commit.J2P (txn_Manager_Commit.J2F i164 o165 v166 v167 n168 n169 s170))
structure Ok11 (F : Fns) : Prop where
  b : ∀ (i0 : Nat) (o1 : Nat) (a2 : Int) (s : List O), OLe (F.f11.b i0 o1 a2 s) (RUN 11 [(V.obj i0 o1), (V.int .i64 a2)] s)
  L0 : ∀ (i119 : Nat) (o120 : Nat) (v121 : V) (v122 : V) (n123 : Int) (n124 : Int) (s125 : List O), OLe (F.f11.L0 i119 o120 v121 v122 n123 n124 s125) (XC 11 .body txn_Manager_Rollback.L0P (txn_Manager_Rollback.L0F i119 o120 v121 v122 n123 n124 s125))
structure Ok12 (F : Fns) : Prop where
  b : ∀ (i0 : Nat) (o1 : Nat) (s : List O), OLe (F.f12.b i0 o1 s) (RUN 12 [(V.obj i0 o1)] s)
structure Ok13 (F : Fns) : Prop where
  b : ∀ (i0 : Nat) (o1 : Nat) (a2 : Int) (s : List O), OLe (F.f13.b i0 o1 a2 s) (RUN 13 [(V.obj i0 o1), (V.int .i64 a2)] s)
  J0 : ∀ (i166 : Nat) (o167 : Nat) (n168 : Int) (v169 : V) (b170 : Bool) (n171 : Int) (s172 : ByteArray) (n173 : Int) (v174 : V) (s175 : List O), OLe (F.f13.J0 i166 o167 n168 v169 b170 n171 s172 n173 v174 s175) (XC 13 .body txn_Manager_Tell.J0P (txn_Manager_Tell.J0F i166 o167 n168 v169 b170 n171 s172 n173 v174 s175))
structure Ok14 (F : Fns) : Prop where
  b : ∀ (i0 : Nat) (o1 : Nat) (a2 : Int) (s : List O), OLe (F.f14.b i0 o1 a2 s) (RUN 14 [(V.obj i0 o1), (V.int .i64 a2)] s)
structure Ok15 (F : Fns) : Prop where
  b : ∀ (v0 : V) (v1 : V) (s : List O), OLe (F.f15.b v0 v1 s) (RUN 15 [v0, v1] s)
  L0 : ∀ (v103 : V) (v104 : V) (n105 : Int) (n106 : Int) (s107 : List O), OLe (F.f15.L0 v103 v104 n105 n106 s107) (XC 15 .body ref12_SameTexts.L0P (ref12_SameTexts.L0F v103 v104 n105 n106 s107))
  J1 : ∀ (v114 : V) (v115 : V) (n116 : Int) (n117 : Int) (s118 : List O), OLe (F.f15.J1 v114 v115 n116 n117 s118) (XC 15 .body ref12_SameTexts.J1P (ref12_SameTexts.J1F v114 v115 n116 n117 s118))
structure Ok16 (F : Fns) : Prop where
  b : ∀ (i0 : Nat) (o1 : Nat) (a2 : Int) (s : List O), OLe (F.f16.b i0 o1 a2 s) (RUN 16 [(V.obj i0 o1), (V.int .i64 a2)] s)
structure Ok20 (F : Fns) : Prop where
  b : ∀ (i0 : Nat) (o1 : Nat) (s : List O), OLe (F.f20.b i0 o1 s) (RUN 20 [(V.obj i0 o1)] s)
structure Ok25 (F : Fns) : Prop where
  b : ∀ (i0 : Nat) (o1 : Nat) (a2 : Int) (s : List O), OLe (F.f25.b i0 o1 a2 s) (RUN 25 [(V.obj i0 o1), (V.int .i64 a2)] s)
structure Ok26 (F : Fns) : Prop where
  b : ∀ (i0 : Nat) (o1 : Nat) (a2 : Int) (a3 : ByteArray) (v4 : V) (s : List O), OLe (F.f26.b i0 o1 a2 a3 v4 s) (RUN 26 [(V.obj i0 o1), (V.int .i64 a2), (V.str a3), v4] s)
structure Ok27 (F : Fns) : Prop where
  b : ∀ (i0 : Nat) (o1 : Nat) (s : List O), OLe (F.f27.b i0 o1 s) (RUN 27 [(V.obj i0 o1)] s)
structure Ok28 (F : Fns) : Prop where
  b : ∀ (i0 : Nat) (o1 : Nat) (a2 : Int) (s : List O), OLe (F.f28.b i0 o1 a2 s) (RUN 28 [(V.obj i0 o1), (V.int .i64 a2)] s)
  L0 : ∀ (i102 : Nat) (o103 : Nat) (n104 : Int) (v105 : V) (n106 : Int) (s107 : List O), OLe (F.f28.L0 i102 o103 n104 v105 n106 s107) (XC 28 .body txn_Manager_kids.L0P (txn_Manager_kids.L0F i102 o103 n104 v105 n106 s107))
  J1 : ∀ (i122 : Nat) (o123 : Nat) (n124 : Int) (v125 : V) (n126 : Int) (v127 : V) (b128 : Bool) (s129 : List O), OLe (F.f28.J1 i122 o123 n124 v125 n126 v127 b128 s129) (XC 28 .body txn_Manager_kids.J1P (txn_Manager_kids.J1F i122 o123 n124 v125 n126 v127 b128 s129))
  J2 : ∀ (i131 : Nat) (o132 : Nat) (n133 : Int) (v134 : V) (n135 : Int) (s136 : List O), OLe (F.f28.J2 i131 o132 n133 v134 n135 s136) (XC 28 .body txn_Manager_kids.J2P (txn_Manager_kids.J2F i131 o132 n133 v134 n135 s136))
structure Ok29 (F : Fns) : Prop where
  b : ∀ (i0 : Nat) (o1 : Nat) (i2 : Nat) (o3 : Nat) (s : List O), OLe (F.f29.b i0 o1 i2 o3 s) (RUN 29 [(V.obj i0 o1), (V.obj i2 o3)] s)
  J0 : ∀ (i132 : Nat) (o133 : Nat) (v134 : V) (v135 : V) (v136 : V) (b137 : Bool) (s138 : List O), OLe (F.f29.J0 i132 o133 v134 v135 v136 b137 s138) (XC 29 .body txn_Manager_merge.J0P (txn_Manager_merge.J0F i132 o133 v134 v135 v136 b137 s138))
structure Ok30 (F : Fns) : Prop where
  b : ∀ (i0 : Nat) (o1 : Nat) (i2 : Nat) (o3 : Nat) (s : List O), OLe (F.f30.b i0 o1 i2 o3 s) (RUN 30 [(V.obj i0 o1), (V.obj i2 o3)] s)
  L0 : ∀ (i100 : Nat) (o101 : Nat) (i102 : Nat) (o103 : Nat) (b104 : Bool) (s105 : List O), OLe (F.f30.L0 i100 o101 i102 o103 b104 s105) (XC 30 .body txn_Manager_settle.L0P (txn_Manager_settle.L0F i100 o101 i102 o103 b104 s105))
  J1 : ∀ (i109 : Nat) (o110 : Nat) (i111 : Nat) (o112 : Nat) (b113 : Bool) (s114 : List O), OLe (F.f30.J1 i109 o110 i111 o112 b113 s114) (XC 30 .body txn_Manager_settle.J1P (txn_Manager_settle.J1F i109 o110 i111 o112 b113 s114))
  J2 : ∀ (i130 : Nat) (o131 : Nat) (i132 : Nat) (o133 : Nat) (b134 : Bool) (s135 : List O), OLe (F.f30.J2 i130 o131 i132 o133 b134 s135) (XC 30 .body txn_Manager_settle.J2P (txn_Manager_settle.J2F i130 o131 i132 o133 b134 s135))
  J3 : ∀ (i156 : Nat) (o157 : Nat) (i158 : Nat) (o159 : Nat) (b160 : Bool) (s161 : List O), OLe (F.f30.J3 i156 o157 i158 o159 b160 s161) (XC 30 .body txn_Manager_settle.J3P (txn_Manager_settle.J3F i156 o157 i158 o159 b160 s161))
  J4 : ∀ (s168 : List O), OLe (F.f30.J4 s168) (XC 30 .body txn_Manager_settle.J4P (txn_Manager_settle.J4F s168))
structure Ok31 (F : Fns) : Prop where
  b : ∀ (v0 : V) (s : List O), OLe (F.f31.b v0 s) (RUN 31 [v0] s)
structure Ok32 (F : Fns) : Prop where
  b : ∀ (i0 : Nat) (o1 : Nat) (i2 : Nat) (o3 : Nat) (s : List O), OLe (F.f32.b i0 o1 i2 o3 s) (RUN 32 [(V.obj i0 o1), (V.obj i2 o3)] s)
  L0 : ∀ (i104 : Nat) (o105 : Nat) (v106 : V) (n107 : Int) (n108 : Int) (s109 : List O), OLe (F.f32.L0 i104 o105 v106 n107 n108 s109) (XC 32 .body txn_Manager_back.L0P (txn_Manager_back.L0F i104 o105 v106 n107 n108 s109))
  J1 : ∀ (i119 : Nat) (o120 : Nat) (s121 : ByteArray) (v122 : V) (n123 : Int) (n124 : Int) (b125 : Bool) (s126 : List O), OLe (F.f32.J1 i119 o120 s121 v122 n123 n124 b125 s126) (XC 32 .body txn_Manager_back.J1P (txn_Manager_back.J1F i119 o120 s121 v122 n123 n124 b125 s126))
  J2 : ∀ (i132 : Nat) (o133 : Nat) (v134 : V) (n135 : Int) (n136 : Int) (s137 : List O), OLe (F.f32.J2 i132 o133 v134 n135 n136 s137) (XC 32 .body txn_Manager_back.J2P (txn_Manager_back.J2F i132 o133 v134 n135 n136 s137))
structure Ok33 (F : Fns) : Prop where
  b : ∀ (i0 : Nat) (o1 : Nat) (s : List O), OLe (F.f33.b i0 o1 s) (RUN 33 [(V.obj i0 o1)] s)
structure Ok34 (F : Fns) : Prop where
  b : ∀ (s : List O), OLe (F.f34.b s) (RUN 34 [] s)
structure Ok39 (F : Fns) : Prop where
  b : ∀ (a0 : ByteArray), OLe (F.f39.b a0) (RUN 39 [(V.str a0)] [])
  L0 : ∀ (s100 : ByteArray) (n101 : Int) (n102 : Int), OLe (F.f39.L0 s100 n101 n102) (XC 39 .body txn_named.L0P (txn_named.L0F s100 n101 n102))
  J1 : ∀ (s104 : ByteArray) (n105 : Int) (n106 : Int) (b107 : Bool), OLe (F.f39.J1 s104 n105 n106 b107) (XC 39 .body txn_named.J1P (txn_named.J1F s104 n105 n106 b107))
  J2 : ∀ (b108 : Bool), OLe (F.f39.J2 b108) (XC 39 .body txn_named.J2P (txn_named.J2F b108))
structure Ok40 (F : Fns) : Prop where
  b : ∀ (v0 : V) (a1 : ByteArray) (s : List O), OLe (F.f40.b v0 a1 s) (RUN 40 [v0, (V.str a1)] s)
structure Ok41 (F : Fns) : Prop where
  b : ∀ (v0 : V) (v1 : V) (s : List O), OLe (F.f41.b v0 v1 s) (RUN 41 [v0, v1] s)
  L0 : ∀ (v101 : V) (v102 : V) (n103 : Int) (n104 : Int) (s105 : List O), OLe (F.f41.L0 v101 v102 n103 n104 s105) (XC 41 .body txn_Manager_merge_1.L0P (txn_Manager_merge_1.L0F v101 v102 n103 n104 s105))
  J1 : ∀ (v115 : V) (v116 : V) (n117 : Int) (n118 : Int) (s119 : List O), OLe (F.f41.J1 v115 v116 n117 n118 s119) (XC 41 .body txn_Manager_merge_1.J1P (txn_Manager_merge_1.J1F v115 v116 n117 n118 s119))
structure Ok42 (F : Fns) : Prop where
  b : ∀ (s : List O), OLe (F.f42.b s) (RUN 42 [] s)
structure Ok43 (F : Fns) : Prop where
  b : ∀ (v0 : V) (v1 : V) (s : List O), OLe (F.f43.b v0 v1 s) (RUN 43 [v0, v1] s)
  L0 : ∀ (v105 : V) (v106 : V) (n107 : Int) (n108 : Int) (s109 : List O), OLe (F.f43.L0 v105 v106 n107 n108 s109) (XC 43 .body slices_DeleteFunc_txn_txn_txn_txn.L0P (slices_DeleteFunc_txn_txn_txn_txn.L0F v105 v106 n107 n108 s109))
  J1 : ∀ (v122 : V) (v123 : V) (n124 : Int) (n125 : Int) (s126 : List O), OLe (F.f43.J1 v122 v123 n124 n125 s126) (XC 43 .body slices_DeleteFunc_txn_txn_txn_txn.J1P (slices_DeleteFunc_txn_txn_txn_txn.J1F v122 v123 n124 n125 s126))
structure Ok44 (F : Fns) : Prop where
  b : ∀ (i0 : Nat) (o1 : Nat) (p2 : V) (s : List O), OLe (F.f44.b i0 o1 p2 s) (RUN 44 [(V.obj i0 o1), (V.ref [p2])] s)
structure Ok45 (F : Fns) : Prop where
  b : ∀ (i0 : Nat) (o1 : Nat) (i2 : Nat) (o3 : Nat) (a4 : Int) (a5 : ByteArray) (a6 : Int) (s : List O), OLe (F.f45.b i0 o1 i2 o3 a4 a5 a6 s) (RUN 45 [(V.obj i0 o1), (V.obj i2 o3), (V.agg [(V.int .i64 a4), (V.str a5)]), (V.int .i64 a6)] s)
  J0 : ∀ (s111 : List O), OLe (F.f45.J0 s111) (XC 45 .body txn_Manager_toldBefore.J0P (txn_Manager_toldBefore.J0F s111))
structure Ok46 (F : Fns) : Prop where
  b : ∀ (i0 : Nat) (o1 : Nat) (i2 : Nat) (o3 : Nat) (a4 : Int) (a5 : ByteArray) (a6 : Int) (s : List O), OLe (F.f46.b i0 o1 i2 o3 a4 a5 a6 s) (RUN 46 [(V.obj i0 o1), (V.obj i2 o3), (V.agg [(V.int .i64 a4), (V.str a5)]), (V.int .i64 a6)] s)
  J0 : ∀ (s109 : List O), OLe (F.f46.J0 s109) (XC 46 .body txn_Manager_toldPrepare.J0P (txn_Manager_toldPrepare.J0F s109))
  J1 : ∀ (s121 : List O), OLe (F.f46.J1 s121) (XC 46 .body txn_Manager_toldPrepare.J1P (txn_Manager_toldPrepare.J1F s121))
  J2 : ∀ (s128 : List O), OLe (F.f46.J2 s128) (XC 46 .body txn_Manager_toldPrepare.J2P (txn_Manager_toldPrepare.J2F s128))
  J3 : ∀ (s134 : List O), OLe (F.f46.J3 s134) (XC 46 .body txn_Manager_toldPrepare.J3P (txn_Manager_toldPrepare.J3F s134))
structure Ok47 (F : Fns) : Prop where
  b : ∀ (i0 : Nat) (o1 : Nat) (i2 : Nat) (o3 : Nat) (a4 : Int) (a5 : ByteArray) (a6 : Int) (s : List O), OLe (F.f47.b i0 o1 i2 o3 a4 a5 a6 s) (RUN 47 [(V.obj i0 o1), (V.obj i2 o3), (V.agg [(V.int .i64 a4), (V.str a5)]), (V.int .i64 a6)] s)
  J0 : ∀ (i100 : Nat) (o101 : Nat) (n102 : Int) (n103 : Int) (s104 : ByteArray) (n105 : Int) (b106 : Bool) (s107 : List O), OLe (F.f47.J0 i100 o101 n102 n103 s104 n105 b106 s107) (XC 47 .body txn_Manager_toldEnd.J0P (txn_Manager_toldEnd.J0F i100 o101 n102 n103 s104 n105 b106 s107))
  J1 : ∀ (i109 : Nat) (o110 : Nat) (n111 : Int) (n112 : Int) (s113 : ByteArray) (v114 : V) (v115 : V) (s116 : List O), OLe (F.f47.J1 i109 o110 n111 n112 s113 v114 v115 s116) (XC 47 .body txn_Manager_toldEnd.J1P (txn_Manager_toldEnd.J1F i109 o110 n111 n112 s113 v114 v115 s116))
  J2 : ∀ (i117 : Nat) (o118 : Nat) (n119 : Int) (s120 : ByteArray) (v121 : V) (v122 : V) (b123 : Bool) (s124 : List O), OLe (F.f47.J2 i117 o118 n119 s120 v121 v122 b123 s124) (XC 47 .body txn_Manager_toldEnd.J2P (txn_Manager_toldEnd.J2F i117 o118 n119 s120 v121 v122 b123 s124))
  J3 : ∀ (v128 : V) (v129 : V) (s130 : List O), OLe (F.f47.J3 v128 v129 s130) (XC 47 .body txn_Manager_toldEnd.J3P (txn_Manager_toldEnd.J3F v128 v129 s130))
  J4 : ∀ (i132 : Nat) (o133 : Nat) (n134 : Int) (n135 : Int) (s136 : ByteArray) (s137 : List O), OLe (F.f47.J4 i132 o133 n134 n135 s136 s137) (XC 47 .body txn_Manager_toldEnd.J4P (txn_Manager_toldEnd.J4F i132 o133 n134 n135 s136 s137))
  J5 : ∀ (i143 : Nat) (o144 : Nat) (n145 : Int) (n146 : Int) (s147 : ByteArray) (s148 : List O), OLe (F.f47.J5 i143 o144 n145 n146 s147 s148) (XC 47 .body txn_Manager_toldEnd.J5P (txn_Manager_toldEnd.J5F i143 o144 n145 n146 s147 s148))
structure Ok48 (F : Fns) : Prop where
  b : ∀ (i0 : Nat) (o1 : Nat) (i2 : Nat) (o3 : Nat) (a4 : Int) (a5 : ByteArray) (a6 : Int) (s : List O), OLe (F.f48.b i0 o1 i2 o3 a4 a5 a6 s) (RUN 48 [(V.obj i0 o1), (V.obj i2 o3), (V.agg [(V.int .i64 a4), (V.str a5)]), (V.int .i64 a6)] s)
  J0 : ∀ (i102 : Nat) (o103 : Nat) (n104 : Int) (n105 : Int) (s106 : ByteArray) (v107 : V) (s108 : List O), OLe (F.f48.J0 i102 o103 n104 n105 s106 v107 s108) (XC 48 .body txn_Manager_toldOne.J0P (txn_Manager_toldOne.J0F i102 o103 n104 n105 s106 v107 s108))
  J1 : ∀ (i109 : Nat) (o110 : Nat) (n111 : Int) (s112 : ByteArray) (v113 : V) (b114 : Bool) (s115 : List O), OLe (F.f48.J1 i109 o110 n111 s112 v113 b114 s115) (XC 48 .body txn_Manager_toldOne.J1P (txn_Manager_toldOne.J1F i109 o110 n111 s112 v113 b114 s115))
  J2 : ∀ (v119 : V) (s120 : List O), OLe (F.f48.J2 v119 s120) (XC 48 .body txn_Manager_toldOne.J2P (txn_Manager_toldOne.J2F v119 s120))
  J3 : ∀ (i122 : Nat) (o123 : Nat) (n124 : Int) (n125 : Int) (s126 : ByteArray) (v127 : V) (s128 : List O), OLe (F.f48.J3 i122 o123 n124 n125 s126 v127 s128) (XC 48 .body txn_Manager_toldOne.J3P (txn_Manager_toldOne.J3F i122 o123 n124 n125 s126 v127 s128))
  J4 : ∀ (i129 : Nat) (o130 : Nat) (n131 : Int) (n132 : Int) (s133 : ByteArray) (b134 : Bool) (s135 : List O), OLe (F.f48.J4 i129 o130 n131 n132 s133 b134 s135) (XC 48 .body txn_Manager_toldOne.J4P (txn_Manager_toldOne.J4F i129 o130 n131 n132 s133 b134 s135))
  J5 : ∀ (i137 : Nat) (o138 : Nat) (n139 : Int) (n140 : Int) (s141 : ByteArray) (v142 : V) (s143 : List O), OLe (F.f48.J5 i137 o138 n139 n140 s141 v142 s143) (XC 48 .body txn_Manager_toldOne.J5P (txn_Manager_toldOne.J5F i137 o138 n139 n140 s141 v142 s143))
structure Ok49 (F : Fns) : Prop where
  b : ∀ (i0 : Nat) (o1 : Nat) (i2 : Nat) (o3 : Nat) (a4 : Int) (a5 : ByteArray) (a6 : Int) (s : List O), OLe (F.f49.b i0 o1 i2 o3 a4 a5 a6 s) (RUN 49 [(V.obj i0 o1), (V.obj i2 o3), (V.agg [(V.int .i64 a4), (V.str a5)]), (V.int .i64 a6)] s)
  J0 : ∀ (s105 : List O), OLe (F.f49.J0 s105) (XC 49 .body txn_Manager_toldForget.J0P (txn_Manager_toldForget.J0F s105))
structure Ok50 (F : Fns) : Prop where
  b : ∀ (i0 : Nat) (o1 : Nat) (i2 : Nat) (o3 : Nat) (a4 : Int) (a5 : ByteArray) (a6 : Int) (s : List O), OLe (F.f50.b i0 o1 i2 o3 a4 a5 a6 s) (RUN 50 [(V.obj i0 o1), (V.obj i2 o3), (V.agg [(V.int .i64 a4), (V.str a5)]), (V.int .i64 a6)] s)
structure Ok53 (F : Fns) : Prop where
  b : ∀ (v0 : V) (a1 : ByteArray) (s : List O), OLe (F.f53.b v0 a1 s) (RUN 53 [v0, (V.str a1)] s)
  L0 : ∀ (v101 : V) (s102 : ByteArray) (n103 : Int) (n104 : Int) (s105 : List O), OLe (F.f53.L0 v101 s102 n103 n104 s105) (XC 53 .body slices_Index_string_string.L0P (slices_Index_string_string.L0F v101 s102 n103 n104 s105))
structure Ok54 (F : Fns) : Prop where
  b : ∀ (i0 : Nat) (o1 : Nat) (i2 : Nat) (o3 : Nat) (s : List O), OLe (F.f54.b i0 o1 i2 o3 s) (RUN 54 [(V.obj i0 o1), (V.obj i2 o3)] s)
  J0 : ∀ (i104 : Nat) (o105 : Nat) (i106 : Nat) (o107 : Nat) (b108 : Bool) (s109 : List O), OLe (F.f54.J0 i104 o105 i106 o107 b108 s109) (XC 54 .body txn_Manager_prepared.J0P (txn_Manager_prepared.J0F i104 o105 i106 o107 b108 s109))
  L1 : ∀ (i126 : Nat) (o127 : Nat) (i128 : Nat) (o129 : Nat) (v130 : V) (n131 : Int) (n132 : Int) (s133 : List O), OLe (F.f54.L1 i126 o127 i128 o129 v130 n131 n132 s133) (XC 54 .body txn_Manager_prepared.L1P (txn_Manager_prepared.L1F i126 o127 i128 o129 v130 n131 n132 s133))
  J2 : ∀ (i142 : Nat) (o143 : Nat) (i144 : Nat) (o145 : Nat) (v146 : V) (n147 : Int) (n148 : Int) (s149 : List O), OLe (F.f54.J2 i142 o143 i144 o145 v146 n147 n148 s149) (XC 54 .body txn_Manager_prepared.J2P (txn_Manager_prepared.J2F i142 o143 i144 o145 v146 n147 n148 s149))
  J3 : ∀ (i155 : Nat) (o156 : Nat) (i157 : Nat) (o158 : Nat) (s159 : List O), OLe (F.f54.J3 i155 o156 i157 o158 s159) (XC 54 .body txn_Manager_prepared.J3P (txn_Manager_prepared.J3F i155 o156 i157 o158 s159))
  J4 : ∀ (i178 : Nat) (o179 : Nat) (s180 : List O), OLe (F.f54.J4 i178 o179 s180) (XC 54 .body txn_Manager_prepared.J4P (txn_Manager_prepared.J4F i178 o179 s180))
  L5 : ∀ (i183 : Nat) (o184 : Nat) (v185 : V) (n186 : Int) (n187 : Int) (s188 : List O), OLe (F.f54.L5 i183 o184 v185 n186 n187 s188) (XC 54 .body txn_Manager_prepared.L5P (txn_Manager_prepared.L5F i183 o184 v185 n186 n187 s188))
  J6 : ∀ (i197 : Nat) (o198 : Nat) (v199 : V) (n200 : Int) (n201 : Int) (s202 : List O), OLe (F.f54.J6 i197 o198 v199 n200 n201 s202) (XC 54 .body txn_Manager_prepared.J6P (txn_Manager_prepared.J6F i197 o198 v199 n200 n201 s202))
structure Ok55 (F : Fns) : Prop where
  b : ∀ (i0 : Nat) (o1 : Nat) (i2 : Nat) (o3 : Nat) (s : List O), OLe (F.f55.b i0 o1 i2 o3 s) (RUN 55 [(V.obj i0 o1), (V.obj i2 o3)] s)
  L0 : ∀ (i104 : Nat) (o105 : Nat) (v106 : V) (n107 : Int) (n108 : Int) (s109 : List O), OLe (F.f55.L0 i104 o105 v106 n107 n108 s109) (XC 55 .body txn_Manager_ended.L0P (txn_Manager_ended.L0F i104 o105 v106 n107 n108 s109))
  J1 : ∀ (i124 : Nat) (o125 : Nat) (v126 : V) (n127 : Int) (n128 : Int) (s129 : List O), OLe (F.f55.J1 i124 o125 v126 n127 n128 s129) (XC 55 .body txn_Manager_ended.J1P (txn_Manager_ended.J1F i124 o125 v126 n127 n128 s129))
  J2 : ∀ (i154 : Nat) (o155 : Nat) (i156 : Nat) (o157 : Nat) (b158 : Bool) (s159 : List O), OLe (F.f55.J2 i154 o155 i156 o157 b158 s159) (XC 55 .body txn_Manager_ended.J2P (txn_Manager_ended.J2F i154 o155 i156 o157 b158 s159))
  J3 : ∀ (i168 : Nat) (o169 : Nat) (s170 : List O), OLe (F.f55.J3 i168 o169 s170) (XC 55 .body txn_Manager_ended.J3P (txn_Manager_ended.J3F i168 o169 s170))
  L4 : ∀ (i175 : Nat) (o176 : Nat) (v177 : V) (n178 : Int) (n179 : Int) (s180 : List O), OLe (F.f55.L4 i175 o176 v177 n178 n179 s180) (XC 55 .body txn_Manager_ended.L4P (txn_Manager_ended.L4F i175 o176 v177 n178 n179 s180))
  J5 : ∀ (i189 : Nat) (o190 : Nat) (v191 : V) (n192 : Int) (n193 : Int) (s194 : List O), OLe (F.f55.J5 i189 o190 v191 n192 n193 s194) (XC 55 .body txn_Manager_ended.J5P (txn_Manager_ended.J5F i189 o190 v191 n192 n193 s194))
  J6 : ∀ (s198 : List O), OLe (F.f55.J6 s198) (XC 55 .body txn_Manager_ended.J6P (txn_Manager_ended.J6F s198))
structure Ok56 (F : Fns) : Prop where
  b : ∀ (v0 : V) (v1 : V) (s : List O), OLe (F.f56.b v0 v1 s) (RUN 56 [v0, v1] s)
  L0 : ∀ (v101 : V) (v102 : V) (n103 : Int) (n104 : Int) (s105 : List O), OLe (F.f56.L0 v101 v102 n103 n104 s105) (XC 56 .body slices_IndexFunc_txn_txn_txn_txn.L0P (slices_IndexFunc_txn_txn_txn_txn.L0F v101 v102 n103 n104 s105))
structure Ok57 (F : Fns) : Prop where
  b : ∀ (a0 : ByteArray) (a1 : Int) (a2 : ByteArray), OLe (F.f57.b a0 a1 a2) (RUN 57 [(V.str a0), (V.ref [(V.int .i64 a1), (V.str a2)])] [])
structure Ok58 (F : Fns) : Prop where
  b : ∀ (v0 : V) (v1 : V) (s : List O), OLe (F.f58.b v0 v1 s) (RUN 58 [v0, v1] s)
  L0 : ∀ (v105 : V) (v106 : V) (n107 : Int) (n108 : Int) (s109 : List O), OLe (F.f58.L0 v105 v106 n107 n108 s109) (XC 58 .body slices_DeleteFunc_string_string.L0P (slices_DeleteFunc_string_string.L0F v105 v106 n107 n108 s109))
  J1 : ∀ (v123 : V) (v124 : V) (n125 : Int) (n126 : Int) (s127 : List O), OLe (F.f58.J1 v123 v124 n125 n126 s127) (XC 58 .body slices_DeleteFunc_string_string.J1P (slices_DeleteFunc_string_string.J1F v123 v124 n125 n126 s127))
structure Ok64 (F : Fns) : Prop where
  b : ∀ (v0 : V) (v1 : V) (s : List O), OLe (F.f64.b v0 v1 s) (RUN 64 [v0, v1] s)
  L0 : ∀ (v101 : V) (v102 : V) (n103 : Int) (n104 : Int) (s105 : List O), OLe (F.f64.L0 v101 v102 n103 n104 s105) (XC 64 .body slices_IndexFunc_string_string.L0P (slices_IndexFunc_string_string.L0F v101 v102 n103 n104 s105))
structure FnsOk (F : Fns) : Prop where
  f3 : Ok3 F
  f6 : Ok6 F
  f7 : Ok7 F
  f8 : Ok8 F
  f9 : Ok9 F
  f10 : Ok10 F
  f11 : Ok11 F
  f12 : Ok12 F
  f13 : Ok13 F
  f14 : Ok14 F
  f15 : Ok15 F
  f16 : Ok16 F
  f20 : Ok20 F
  f25 : Ok25 F
  f26 : Ok26 F
  f27 : Ok27 F
  f28 : Ok28 F
  f29 : Ok29 F
  f30 : Ok30 F
  f31 : Ok31 F
  f32 : Ok32 F
  f33 : Ok33 F
  f34 : Ok34 F
  f39 : Ok39 F
  f40 : Ok40 F
  f41 : Ok41 F
  f42 : Ok42 F
  f43 : Ok43 F
  f44 : Ok44 F
  f45 : Ok45 F
  f46 : Ok46 F
  f47 : Ok47 F
  f48 : Ok48 F
  f49 : Ok49 F
  f50 : Ok50 F
  f53 : Ok53 F
  f54 : Ok54 F
  f55 : Ok55 F
  f56 : Ok56 F
  f57 : Ok57 F
  f58 : Ok58 F
  f64 : Ok64 F
def rd3 (F : Fns) (args : List V) (s : List O) : R := match args, s with | [(V.int .i64 a0), (V.int .i64 a1)], [] => F.f3.b a0 a1 | _, _ => none
theorem rd3_ok {F : Fns} (h : FnsOk F) (args : List V) (s : List O) : OLe (rd3 F args s) (RUN 3 args s) := by
  unfold rd3
  split
  · exact h.f3.b _ _
  · exact OLe.none _
def rd6 (F : Fns) (args : List V) (s : List O) : R := match args, s with | [], [] => F.f6.b | _, _ => none
theorem rd6_ok {F : Fns} (h : FnsOk F) (args : List V) (s : List O) : OLe (rd6 F args s) (RUN 6 args s) := by
  unfold rd6
  split
  · exact h.f6.b
  · exact OLe.none _
def rd7 (F : Fns) (args : List V) (s : List O) : R := match args, s with | [], s => F.f7.b s | _, _ => none
theorem rd7_ok {F : Fns} (h : FnsOk F) (args : List V) (s : List O) : OLe (rd7 F args s) (RUN 7 args s) := by
  unfold rd7
  split
  · exact h.f7.b _
  · exact OLe.none _
def rd8 (F : Fns) (args : List V) (s : List O) : R := match args, s with | [(V.obj i0 o1), (V.int .i64 a2)], s => F.f8.b i0 o1 a2 s | _, _ => none
theorem rd8_ok {F : Fns} (h : FnsOk F) (args : List V) (s : List O) : OLe (rd8 F args s) (RUN 8 args s) := by
  unfold rd8
  split
  · exact h.f8.b _ _ _ _
  · exact OLe.none _
def rd9 (F : Fns) (args : List V) (s : List O) : R := match args, s with | [(V.obj i0 o1), (V.int .i64 a2), (V.str a3)], s => F.f9.b i0 o1 a2 a3 s | _, _ => none
theorem rd9_ok {F : Fns} (h : FnsOk F) (args : List V) (s : List O) : OLe (rd9 F args s) (RUN 9 args s) := by
  unfold rd9
  split
  · exact h.f9.b _ _ _ _ _
  · exact OLe.none _
def rd10 (F : Fns) (args : List V) (s : List O) : R := match args, s with | [(V.obj i0 o1), (V.int .i64 a2)], s => F.f10.b i0 o1 a2 s | _, _ => none
theorem rd10_ok {F : Fns} (h : FnsOk F) (args : List V) (s : List O) : OLe (rd10 F args s) (RUN 10 args s) := by
  unfold rd10
  split
  · exact h.f10.b _ _ _ _
  · exact OLe.none _
def rd11 (F : Fns) (args : List V) (s : List O) : R := match args, s with | [(V.obj i0 o1), (V.int .i64 a2)], s => F.f11.b i0 o1 a2 s | _, _ => none
theorem rd11_ok {F : Fns} (h : FnsOk F) (args : List V) (s : List O) : OLe (rd11 F args s) (RUN 11 args s) := by
  unfold rd11
  split
  · exact h.f11.b _ _ _ _
  · exact OLe.none _
def rd12 (F : Fns) (args : List V) (s : List O) : R := match args, s with | [(V.obj i0 o1)], s => F.f12.b i0 o1 s | _, _ => none
theorem rd12_ok {F : Fns} (h : FnsOk F) (args : List V) (s : List O) : OLe (rd12 F args s) (RUN 12 args s) := by
  unfold rd12
  split
  · exact h.f12.b _ _ _
  · exact OLe.none _
def rd13 (F : Fns) (args : List V) (s : List O) : R := match args, s with | [(V.obj i0 o1), (V.int .i64 a2)], s => F.f13.b i0 o1 a2 s | _, _ => none
theorem rd13_ok {F : Fns} (h : FnsOk F) (args : List V) (s : List O) : OLe (rd13 F args s) (RUN 13 args s) := by
  unfold rd13
  split
  · exact h.f13.b _ _ _ _
  · exact OLe.none _
def rd14 (F : Fns) (args : List V) (s : List O) : R := match args, s with | [(V.obj i0 o1), (V.int .i64 a2)], s => F.f14.b i0 o1 a2 s | _, _ => none
theorem rd14_ok {F : Fns} (h : FnsOk F) (args : List V) (s : List O) : OLe (rd14 F args s) (RUN 14 args s) := by
  unfold rd14
  split
  · exact h.f14.b _ _ _ _
  · exact OLe.none _
def rd15 (F : Fns) (args : List V) (s : List O) : R := match args, s with | [v0, v1], s => F.f15.b v0 v1 s | _, _ => none
theorem rd15_ok {F : Fns} (h : FnsOk F) (args : List V) (s : List O) : OLe (rd15 F args s) (RUN 15 args s) := by
  unfold rd15
  split
  · exact h.f15.b _ _ _
  · exact OLe.none _
def rd16 (F : Fns) (args : List V) (s : List O) : R := match args, s with | [(V.obj i0 o1), (V.int .i64 a2)], s => F.f16.b i0 o1 a2 s | _, _ => none
theorem rd16_ok {F : Fns} (h : FnsOk F) (args : List V) (s : List O) : OLe (rd16 F args s) (RUN 16 args s) := by
  unfold rd16
  split
  · exact h.f16.b _ _ _ _
  · exact OLe.none _
def rd20 (F : Fns) (args : List V) (s : List O) : R := match args, s with | [(V.obj i0 o1)], s => F.f20.b i0 o1 s | _, _ => none
theorem rd20_ok {F : Fns} (h : FnsOk F) (args : List V) (s : List O) : OLe (rd20 F args s) (RUN 20 args s) := by
  unfold rd20
  split
  · exact h.f20.b _ _ _
  · exact OLe.none _
def rd25 (F : Fns) (args : List V) (s : List O) : R := match args, s with | [(V.obj i0 o1), (V.int .i64 a2)], s => F.f25.b i0 o1 a2 s | _, _ => none
theorem rd25_ok {F : Fns} (h : FnsOk F) (args : List V) (s : List O) : OLe (rd25 F args s) (RUN 25 args s) := by
  unfold rd25
  split
  · exact h.f25.b _ _ _ _
  · exact OLe.none _
def rd26 (F : Fns) (args : List V) (s : List O) : R := match args, s with | [(V.obj i0 o1), (V.int .i64 a2), (V.str a3), v4], s => F.f26.b i0 o1 a2 a3 v4 s | _, _ => none
theorem rd26_ok {F : Fns} (h : FnsOk F) (args : List V) (s : List O) : OLe (rd26 F args s) (RUN 26 args s) := by
  unfold rd26
  split
  · exact h.f26.b _ _ _ _ _ _
  · exact OLe.none _
def rd27 (F : Fns) (args : List V) (s : List O) : R := match args, s with | [(V.obj i0 o1)], s => F.f27.b i0 o1 s | _, _ => none
theorem rd27_ok {F : Fns} (h : FnsOk F) (args : List V) (s : List O) : OLe (rd27 F args s) (RUN 27 args s) := by
  unfold rd27
  split
  · exact h.f27.b _ _ _
  · exact OLe.none _
def rd28 (F : Fns) (args : List V) (s : List O) : R := match args, s with | [(V.obj i0 o1), (V.int .i64 a2)], s => F.f28.b i0 o1 a2 s | _, _ => none
theorem rd28_ok {F : Fns} (h : FnsOk F) (args : List V) (s : List O) : OLe (rd28 F args s) (RUN 28 args s) := by
  unfold rd28
  split
  · exact h.f28.b _ _ _ _
  · exact OLe.none _
def rd29 (F : Fns) (args : List V) (s : List O) : R := match args, s with | [(V.obj i0 o1), (V.obj i2 o3)], s => F.f29.b i0 o1 i2 o3 s | _, _ => none
theorem rd29_ok {F : Fns} (h : FnsOk F) (args : List V) (s : List O) : OLe (rd29 F args s) (RUN 29 args s) := by
  unfold rd29
  split
  · exact h.f29.b _ _ _ _ _
  · exact OLe.none _
def rd30 (F : Fns) (args : List V) (s : List O) : R := match args, s with | [(V.obj i0 o1), (V.obj i2 o3)], s => F.f30.b i0 o1 i2 o3 s | _, _ => none
theorem rd30_ok {F : Fns} (h : FnsOk F) (args : List V) (s : List O) : OLe (rd30 F args s) (RUN 30 args s) := by
  unfold rd30
  split
  · exact h.f30.b _ _ _ _ _
  · exact OLe.none _
def rd31 (F : Fns) (args : List V) (s : List O) : R := match args, s with | [v0], s => F.f31.b v0 s | _, _ => none
theorem rd31_ok {F : Fns} (h : FnsOk F) (args : List V) (s : List O) : OLe (rd31 F args s) (RUN 31 args s) := by
  unfold rd31
  split
  · exact h.f31.b _ _
  · exact OLe.none _
def rd32 (F : Fns) (args : List V) (s : List O) : R := match args, s with | [(V.obj i0 o1), (V.obj i2 o3)], s => F.f32.b i0 o1 i2 o3 s | _, _ => none
theorem rd32_ok {F : Fns} (h : FnsOk F) (args : List V) (s : List O) : OLe (rd32 F args s) (RUN 32 args s) := by
  unfold rd32
  split
  · exact h.f32.b _ _ _ _ _
  · exact OLe.none _
def rd33 (F : Fns) (args : List V) (s : List O) : R := match args, s with | [(V.obj i0 o1)], s => F.f33.b i0 o1 s | _, _ => none
theorem rd33_ok {F : Fns} (h : FnsOk F) (args : List V) (s : List O) : OLe (rd33 F args s) (RUN 33 args s) := by
  unfold rd33
  split
  · exact h.f33.b _ _ _
  · exact OLe.none _
def rd34 (F : Fns) (args : List V) (s : List O) : R := match args, s with | [], s => F.f34.b s | _, _ => none
theorem rd34_ok {F : Fns} (h : FnsOk F) (args : List V) (s : List O) : OLe (rd34 F args s) (RUN 34 args s) := by
  unfold rd34
  split
  · exact h.f34.b _
  · exact OLe.none _
def rd39 (F : Fns) (args : List V) (s : List O) : R := match args, s with | [(V.str a0)], [] => F.f39.b a0 | _, _ => none
theorem rd39_ok {F : Fns} (h : FnsOk F) (args : List V) (s : List O) : OLe (rd39 F args s) (RUN 39 args s) := by
  unfold rd39
  split
  · exact h.f39.b _
  · exact OLe.none _
def rd40 (F : Fns) (args : List V) (s : List O) : R := match args, s with | [v0, (V.str a1)], s => F.f40.b v0 a1 s | _, _ => none
theorem rd40_ok {F : Fns} (h : FnsOk F) (args : List V) (s : List O) : OLe (rd40 F args s) (RUN 40 args s) := by
  unfold rd40
  split
  · exact h.f40.b _ _ _
  · exact OLe.none _
def rd41 (F : Fns) (args : List V) (s : List O) : R := match args, s with | [v0, v1], s => F.f41.b v0 v1 s | _, _ => none
theorem rd41_ok {F : Fns} (h : FnsOk F) (args : List V) (s : List O) : OLe (rd41 F args s) (RUN 41 args s) := by
  unfold rd41
  split
  · exact h.f41.b _ _ _
  · exact OLe.none _
def rd42 (F : Fns) (args : List V) (s : List O) : R := match args, s with | [], s => F.f42.b s | _, _ => none
theorem rd42_ok {F : Fns} (h : FnsOk F) (args : List V) (s : List O) : OLe (rd42 F args s) (RUN 42 args s) := by
  unfold rd42
  split
  · exact h.f42.b _
  · exact OLe.none _
def rd43 (F : Fns) (args : List V) (s : List O) : R := match args, s with | [v0, v1], s => F.f43.b v0 v1 s | _, _ => none
theorem rd43_ok {F : Fns} (h : FnsOk F) (args : List V) (s : List O) : OLe (rd43 F args s) (RUN 43 args s) := by
  unfold rd43
  split
  · exact h.f43.b _ _ _
  · exact OLe.none _
def rd44 (F : Fns) (args : List V) (s : List O) : R := match args, s with | [(V.obj i0 o1), (V.ref [p2])], s => F.f44.b i0 o1 p2 s | _, _ => none
theorem rd44_ok {F : Fns} (h : FnsOk F) (args : List V) (s : List O) : OLe (rd44 F args s) (RUN 44 args s) := by
  unfold rd44
  split
  · exact h.f44.b _ _ _ _
  · exact OLe.none _
def rd45 (F : Fns) (args : List V) (s : List O) : R := match args, s with | [(V.obj i0 o1), (V.obj i2 o3), (V.agg [(V.int .i64 a4), (V.str a5)]), (V.int .i64 a6)], s => F.f45.b i0 o1 i2 o3 a4 a5 a6 s | _, _ => none
theorem rd45_ok {F : Fns} (h : FnsOk F) (args : List V) (s : List O) : OLe (rd45 F args s) (RUN 45 args s) := by
  unfold rd45
  split
  · exact h.f45.b _ _ _ _ _ _ _ _
  · exact OLe.none _
def rd46 (F : Fns) (args : List V) (s : List O) : R := match args, s with | [(V.obj i0 o1), (V.obj i2 o3), (V.agg [(V.int .i64 a4), (V.str a5)]), (V.int .i64 a6)], s => F.f46.b i0 o1 i2 o3 a4 a5 a6 s | _, _ => none
theorem rd46_ok {F : Fns} (h : FnsOk F) (args : List V) (s : List O) : OLe (rd46 F args s) (RUN 46 args s) := by
  unfold rd46
  split
  · exact h.f46.b _ _ _ _ _ _ _ _
  · exact OLe.none _
def rd47 (F : Fns) (args : List V) (s : List O) : R := match args, s with | [(V.obj i0 o1), (V.obj i2 o3), (V.agg [(V.int .i64 a4), (V.str a5)]), (V.int .i64 a6)], s => F.f47.b i0 o1 i2 o3 a4 a5 a6 s | _, _ => none
theorem rd47_ok {F : Fns} (h : FnsOk F) (args : List V) (s : List O) : OLe (rd47 F args s) (RUN 47 args s) := by
  unfold rd47
  split
  · exact h.f47.b _ _ _ _ _ _ _ _
  · exact OLe.none _
def rd48 (F : Fns) (args : List V) (s : List O) : R := match args, s with | [(V.obj i0 o1), (V.obj i2 o3), (V.agg [(V.int .i64 a4), (V.str a5)]), (V.int .i64 a6)], s => F.f48.b i0 o1 i2 o3 a4 a5 a6 s | _, _ => none
theorem rd48_ok {F : Fns} (h : FnsOk F) (args : List V) (s : List O) : OLe (rd48 F args s) (RUN 48 args s) := by
  unfold rd48
  split
  · exact h.f48.b _ _ _ _ _ _ _ _
  · exact OLe.none _
def rd49 (F : Fns) (args : List V) (s : List O) : R := match args, s with | [(V.obj i0 o1), (V.obj i2 o3), (V.agg [(V.int .i64 a4), (V.str a5)]), (V.int .i64 a6)], s => F.f49.b i0 o1 i2 o3 a4 a5 a6 s | _, _ => none
theorem rd49_ok {F : Fns} (h : FnsOk F) (args : List V) (s : List O) : OLe (rd49 F args s) (RUN 49 args s) := by
  unfold rd49
  split
  · exact h.f49.b _ _ _ _ _ _ _ _
  · exact OLe.none _
def rd50 (F : Fns) (args : List V) (s : List O) : R := match args, s with | [(V.obj i0 o1), (V.obj i2 o3), (V.agg [(V.int .i64 a4), (V.str a5)]), (V.int .i64 a6)], s => F.f50.b i0 o1 i2 o3 a4 a5 a6 s | _, _ => none
theorem rd50_ok {F : Fns} (h : FnsOk F) (args : List V) (s : List O) : OLe (rd50 F args s) (RUN 50 args s) := by
  unfold rd50
  split
  · exact h.f50.b _ _ _ _ _ _ _ _
  · exact OLe.none _
def rd53 (F : Fns) (args : List V) (s : List O) : R := match args, s with | [v0, (V.str a1)], s => F.f53.b v0 a1 s | _, _ => none
theorem rd53_ok {F : Fns} (h : FnsOk F) (args : List V) (s : List O) : OLe (rd53 F args s) (RUN 53 args s) := by
  unfold rd53
  split
  · exact h.f53.b _ _ _
  · exact OLe.none _
def rd54 (F : Fns) (args : List V) (s : List O) : R := match args, s with | [(V.obj i0 o1), (V.obj i2 o3)], s => F.f54.b i0 o1 i2 o3 s | _, _ => none
theorem rd54_ok {F : Fns} (h : FnsOk F) (args : List V) (s : List O) : OLe (rd54 F args s) (RUN 54 args s) := by
  unfold rd54
  split
  · exact h.f54.b _ _ _ _ _
  · exact OLe.none _
def rd55 (F : Fns) (args : List V) (s : List O) : R := match args, s with | [(V.obj i0 o1), (V.obj i2 o3)], s => F.f55.b i0 o1 i2 o3 s | _, _ => none
theorem rd55_ok {F : Fns} (h : FnsOk F) (args : List V) (s : List O) : OLe (rd55 F args s) (RUN 55 args s) := by
  unfold rd55
  split
  · exact h.f55.b _ _ _ _ _
  · exact OLe.none _
def rd56 (F : Fns) (args : List V) (s : List O) : R := match args, s with | [v0, v1], s => F.f56.b v0 v1 s | _, _ => none
theorem rd56_ok {F : Fns} (h : FnsOk F) (args : List V) (s : List O) : OLe (rd56 F args s) (RUN 56 args s) := by
  unfold rd56
  split
  · exact h.f56.b _ _ _
  · exact OLe.none _
def rd57 (F : Fns) (args : List V) (s : List O) : R := match args, s with | [(V.str a0), (V.ref [(V.int .i64 a1), (V.str a2)])], [] => F.f57.b a0 a1 a2 | _, _ => none
theorem rd57_ok {F : Fns} (h : FnsOk F) (args : List V) (s : List O) : OLe (rd57 F args s) (RUN 57 args s) := by
  unfold rd57
  split
  · exact h.f57.b _ _ _
  · exact OLe.none _
def rd58 (F : Fns) (args : List V) (s : List O) : R := match args, s with | [v0, v1], s => F.f58.b v0 v1 s | _, _ => none
theorem rd58_ok {F : Fns} (h : FnsOk F) (args : List V) (s : List O) : OLe (rd58 F args s) (RUN 58 args s) := by
  unfold rd58
  split
  · exact h.f58.b _ _ _
  · exact OLe.none _
def rd64 (F : Fns) (args : List V) (s : List O) : R := match args, s with | [v0, v1], s => F.f64.b v0 v1 s | _, _ => none
theorem rd64_ok {F : Fns} (h : FnsOk F) (args : List V) (s : List O) : OLe (rd64 F args s) (RUN 64 args s) := by
  unfold rd64
  split
  · exact h.f64.b _ _ _
  · exact OLe.none _
theorem rd63_ok (args : List V) (s : List O) : OLe (gJoin args s) (RUN 63 args s) := fun o h => run_given rfl h
theorem rd62_ok (args : List V) (s : List O) : OLe (gItoa args s) (RUN 62 args s) := fun o h => run_given rfl h
def RD (F : Fns) : Rec := fun f args s => bif Nat.beq f 3 then rd3 F args s else bif Nat.beq f 6 then rd6 F args s else bif Nat.beq f 7 then rd7 F args s else bif Nat.beq f 8 then rd8 F args s else bif Nat.beq f 9 then rd9 F args s else bif Nat.beq f 10 then rd10 F args s else bif Nat.beq f 11 then rd11 F args s else bif Nat.beq f 12 then rd12 F args s else bif Nat.beq f 13 then rd13 F args s else bif Nat.beq f 14 then rd14 F args s else bif Nat.beq f 15 then rd15 F args s else bif Nat.beq f 16 then rd16 F args s else bif Nat.beq f 20 then rd20 F args s else bif Nat.beq f 25 then rd25 F args s else bif Nat.beq f 26 then rd26 F args s else bif Nat.beq f 27 then rd27 F args s else bif Nat.beq f 28 then rd28 F args s else bif Nat.beq f 29 then rd29 F args s else bif Nat.beq f 30 then rd30 F args s else bif Nat.beq f 31 then rd31 F args s else bif Nat.beq f 32 then rd32 F args s else bif Nat.beq f 33 then rd33 F args s else bif Nat.beq f 34 then rd34 F args s else bif Nat.beq f 39 then rd39 F args s else bif Nat.beq f 40 then rd40 F args s else bif Nat.beq f 41 then rd41 F args s else bif Nat.beq f 42 then rd42 F args s else bif Nat.beq f 43 then rd43 F args s else bif Nat.beq f 44 then rd44 F args s else bif Nat.beq f 45 then rd45 F args s else bif Nat.beq f 46 then rd46 F args s else bif Nat.beq f 47 then rd47 F args s else bif Nat.beq f 48 then rd48 F args s else bif Nat.beq f 49 then rd49 F args s else bif Nat.beq f 50 then rd50 F args s else bif Nat.beq f 53 then rd53 F args s else bif Nat.beq f 54 then rd54 F args s else bif Nat.beq f 55 then rd55 F args s else bif Nat.beq f 56 then rd56 F args s else bif Nat.beq f 57 then rd57 F args s else bif Nat.beq f 58 then rd58 F args s else bif Nat.beq f 64 then rd64 F args s else bif Nat.beq f 63 then gJoin args s else bif Nat.beq f 62 then gItoa args s else none
theorem RD_ok {F : Fns} (h : FnsOk F) (f : FuncId) (args : List V) (s : List O) : OLe (RD F f args s) (RUN f args s) := nb_le (g := fun f => RUN f args s) (rd3_ok h args s) (nb_le (g := fun f => RUN f args s) (rd6_ok h args s) (nb_le (g := fun f => RUN f args s) (rd7_ok h args s) (nb_le (g := fun f => RUN f args s) (rd8_ok h args s) (nb_le (g := fun f => RUN f args s) (rd9_ok h args s) (nb_le (g := fun f => RUN f args s) (rd10_ok h args s) (nb_le (g := fun f => RUN f args s) (rd11_ok h args s) (nb_le (g := fun f => RUN f args s) (rd12_ok h args s) (nb_le (g := fun f => RUN f args s) (rd13_ok h args s) (nb_le (g := fun f => RUN f args s) (rd14_ok h args s) (nb_le (g := fun f => RUN f args s) (rd15_ok h args s) (nb_le (g := fun f => RUN f args s) (rd16_ok h args s) (nb_le (g := fun f => RUN f args s) (rd20_ok h args s) (nb_le (g := fun f => RUN f args s) (rd25_ok h args s) (nb_le (g := fun f => RUN f args s) (rd26_ok h args s) (nb_le (g := fun f => RUN f args s) (rd27_ok h args s) (nb_le (g := fun f => RUN f args s) (rd28_ok h args s) (nb_le (g := fun f => RUN f args s) (rd29_ok h args s) (nb_le (g := fun f => RUN f args s) (rd30_ok h args s) (nb_le (g := fun f => RUN f args s) (rd31_ok h args s) (nb_le (g := fun f => RUN f args s) (rd32_ok h args s) (nb_le (g := fun f => RUN f args s) (rd33_ok h args s) (nb_le (g := fun f => RUN f args s) (rd34_ok h args s) (nb_le (g := fun f => RUN f args s) (rd39_ok h args s) (nb_le (g := fun f => RUN f args s) (rd40_ok h args s) (nb_le (g := fun f => RUN f args s) (rd41_ok h args s) (nb_le (g := fun f => RUN f args s) (rd42_ok h args s) (nb_le (g := fun f => RUN f args s) (rd43_ok h args s) (nb_le (g := fun f => RUN f args s) (rd44_ok h args s) (nb_le (g := fun f => RUN f args s) (rd45_ok h args s) (nb_le (g := fun f => RUN f args s) (rd46_ok h args s) (nb_le (g := fun f => RUN f args s) (rd47_ok h args s) (nb_le (g := fun f => RUN f args s) (rd48_ok h args s) (nb_le (g := fun f => RUN f args s) (rd49_ok h args s) (nb_le (g := fun f => RUN f args s) (rd50_ok h args s) (nb_le (g := fun f => RUN f args s) (rd53_ok h args s) (nb_le (g := fun f => RUN f args s) (rd54_ok h args s) (nb_le (g := fun f => RUN f args s) (rd55_ok h args s) (nb_le (g := fun f => RUN f args s) (rd56_ok h args s) (nb_le (g := fun f => RUN f args s) (rd57_ok h args s) (nb_le (g := fun f => RUN f args s) (rd58_ok h args s) (nb_le (g := fun f => RUN f args s) (rd64_ok h args s) (nb_le (g := fun f => RUN f args s) (rd63_ok args s) (nb_le (g := fun f => RUN f args s) (rd62_ok args s) (OLe.none _))))))))))))))))))))))))))))))))))))))))))))
def DD (F : Fns) : Option V → Rec := fun m f args s => none
theorem DD_ok {F : Fns} (h : FnsOk F) (m : Option V) (f : FuncId) (args : List V) (s : List O) : OLe (DD F m f args s) (DCM m f args s) := OLe.none _
noncomputable def xb3_0 (F : Fns) (p : List Nat) (st : St) : R := bif beqP p law27_TxnNested.J0P then pk st (law27_TxnNested.J0F (gI (sV st 0)) (gI (sV st 1)) (gB (sV st 31))) (F.f3.J0 (gI (sV st 0)) (gI (sV st 1)) (gB (sV st 31))) else bif beqP p law27_TxnNested.L1P then pk st (law27_TxnNested.L1F (gI (sV st 0)) (gI (sV st 1)) (sV st 5) (gNN (sV st 6)) (gES (sV st 6)) (gI (sV st 36)) (gI (sV st 37)) st.s) (F.f3.L1 (gI (sV st 0)) (gI (sV st 1)) (sV st 5) (gNN (sV st 6)) (gES (sV st 6)) (gI (sV st 36)) (gI (sV st 37)) st.s) else bif beqP p law27_TxnNested.J2P then pk st (law27_TxnNested.J2F (gI (sV st 0)) (gI (sV st 1)) (sV st 5) (gNN (sV st 6)) (gES (sV st 6)) (gI (sV st 7)) (gS (sV st 10)) (gI (sV st 36)) (gI (sV st 37)) (gB (sV st 64)) st.s) (F.f3.J2 (gI (sV st 0)) (gI (sV st 1)) (sV st 5) (gNN (sV st 6)) (gES (sV st 6)) (gI (sV st 7)) (gS (sV st 10)) (gI (sV st 36)) (gI (sV st 37)) (gB (sV st 64)) st.s) else bif beqP p law27_TxnNested.J3P then pk st (law27_TxnNested.J3F (gI (sV st 0)) (gI (sV st 1)) (sV st 5) (gNN (sV st 6)) (gES (sV st 6)) (gS (sV st 10)) (gI (sV st 36)) (gI (sV st 37)) (gB (sV st 72)) st.s) (F.f3.J3 (gI (sV st 0)) (gI (sV st 1)) (sV st 5) (gNN (sV st 6)) (gES (sV st 6)) (gS (sV st 10)) (gI (sV st 36)) (gI (sV st 37)) (gB (sV st 72)) st.s) else bif beqP p law27_TxnNested.L4P then pk st (law27_TxnNested.L4F (gI (sV st 1)) (sV st 5) (gNN (sV st 6)) (gES (sV st 6)) (gNN (sV st 11)) (gES (sV st 11)) (gI (sV st 12)) st.s) (F.f3.L4 (gI (sV st 1)) (sV st 5) (gNN (sV st 6)) (gES (sV st 6)) (gNN (sV st 11)) (gES (sV st 11)) (gI (sV st 12)) st.s) else bif beqP p law27_TxnNested.L5P then pk st (law27_TxnNested.L5F (gI (sV st 1)) (sV st 5) (gNN (sV st 6)) (gES (sV st 6)) (gI (sV st 12)) (gI (sV st 90)) st.s) (F.f3.L5 (gI (sV st 1)) (sV st 5) (gNN (sV st 6)) (gES (sV st 6)) (gI (sV st 12)) (gI (sV st 90)) st.s) else bif beqP p law27_TxnNested.J6P then pk st (law27_TxnNested.J6F (gI (sV st 1)) (sV st 5) (gNN (sV st 6)) (gES (sV st 6)) (gI (sV st 12)) st.s) (F.f3.J6 (gI (sV st 1)) (sV st 5) (gNN (sV st 6)) (gES (sV st 6)) (gI (sV st 12)) st.s) else bif beqP p law27_TxnNested.J7P then pk st (law27_TxnNested.J7F (gI (sV st 1)) (sV st 5) (gNN (sV st 6)) (gES (sV st 6)) (gNN (sV st 11)) (gES (sV st 11)) (gI (sV st 12)) st.s) (F.f3.J7 (gI (sV st 1)) (sV st 5) (gNN (sV st 6)) (gES (sV st 6)) (gNN (sV st 11)) (gES (sV st 11)) (gI (sV st 12)) st.s) else bif beqP p law27_TxnNested.J8P then pk st (law27_TxnNested.J8F (gI (sV st 1)) (sV st 5) (gNN (sV st 6)) (gES (sV st 6)) (gI (sV st 12)) (gI (sV st 90)) (gB (sV st 106)) st.s) (F.f3.J8 (gI (sV st 1)) (sV st 5) (gNN (sV st 6)) (gES (sV st 6)) (gI (sV st 12)) (gI (sV st 90)) (gB (sV st 106)) st.s) else bif beqP p law27_TxnNested.J9P then pk st (law27_TxnNested.J9F (sV st 5) (gES (sV st 11)) (gB (sV st 150)) st.s) (F.f3.J9 (sV st 5) (gES (sV st 11)) (gB (sV st 150)) st.s) else bif beqP p law27_TxnNested.L10P then pk st (law27_TxnNested.L10F (sV st 5) (gES (sV st 11)) (gI (sV st 151)) st.s) (F.f3.L10 (sV st 5) (gES (sV st 11)) (gI (sV st 151)) st.s) else bif beqP p law27_TxnNested.J11P then pk st (law27_TxnNested.J11F (sV st 5) st.s) (F.f3.J11 (sV st 5) st.s) else bif beqP p law27_TxnNested.J12P then pk st (law27_TxnNested.J12F (gB (sV st 4)) st.s) (F.f3.J12 (gB (sV st 4)) st.s) else bif beqP p law27_TxnNested.L13P then pk st (law27_TxnNested.L13F (sV st 5) (gES (sV st 11)) (gB (sV st 21)) (gI (sV st 151)) (gES (sV st 160)) (gI (sV st 161)) (gI (sV st 162)) (gI (cV st 2 0)) (gI (cV st 2 1)) (gS (cV st 2 2)) st.s) (F.f3.L13 (sV st 5) (gES (sV st 11)) (gB (sV st 21)) (gI (sV st 151)) (gES (sV st 160)) (gI (sV st 161)) (gI (sV st 162)) (gI (cV st 2 0)) (gI (cV st 2 1)) (gS (cV st 2 2)) st.s) else bif beqP p law27_TxnNested.J14P then pk st (law27_TxnNested.J14F (sV st 5) (gES (sV st 11)) (gB (sV st 21)) (gI (sV st 151)) (gES (sV st 160)) (gI (sV st 161)) (gI (sV st 162)) (gI (cV st 2 0)) (gI (cV st 2 1)) (gS (cV st 2 2)) st.s) (F.f3.J14 (sV st 5) (gES (sV st 11)) (gB (sV st 21)) (gI (sV st 151)) (gES (sV st 160)) (gI (sV st 161)) (gI (sV st 162)) (gI (cV st 2 0)) (gI (cV st 2 1)) (gS (cV st 2 2)) st.s) else bif beqP p law27_TxnNested.J15P then pk st (law27_TxnNested.J15F (sV st 5) (gES (sV st 11)) (gI (sV st 151)) (gB (sV st 185)) st.s) (F.f3.J15 (sV st 5) (gES (sV st 11)) (gI (sV st 151)) (gB (sV st 185)) st.s) else none
theorem xb3_0_ok {F : Fns} (h : FnsOk F) (p : List Nat) (st : St) : OLe (xb3_0 F p st) (XC 3 .body p st) := bq_le (g := fun p => XC 3 .body p st) (pk_le (XC 3 .body law27_TxnNested.J0P) (h.f3.J0 _ _ _)) (bq_le (g := fun p => XC 3 .body p st) (pk_le (XC 3 .body law27_TxnNested.L1P) (h.f3.L1 _ _ _ _ _ _ _ _)) (bq_le (g := fun p => XC 3 .body p st) (pk_le (XC 3 .body law27_TxnNested.J2P) (h.f3.J2 _ _ _ _ _ _ _ _ _ _ _)) (bq_le (g := fun p => XC 3 .body p st) (pk_le (XC 3 .body law27_TxnNested.J3P) (h.f3.J3 _ _ _ _ _ _ _ _ _ _)) (bq_le (g := fun p => XC 3 .body p st) (pk_le (XC 3 .body law27_TxnNested.L4P) (h.f3.L4 _ _ _ _ _ _ _ _)) (bq_le (g := fun p => XC 3 .body p st) (pk_le (XC 3 .body law27_TxnNested.L5P) (h.f3.L5 _ _ _ _ _ _ _)) (bq_le (g := fun p => XC 3 .body p st) (pk_le (XC 3 .body law27_TxnNested.J6P) (h.f3.J6 _ _ _ _ _ _)) (bq_le (g := fun p => XC 3 .body p st) (pk_le (XC 3 .body law27_TxnNested.J7P) (h.f3.J7 _ _ _ _ _ _ _ _)) (bq_le (g := fun p => XC 3 .body p st) (pk_le (XC 3 .body law27_TxnNested.J8P) (h.f3.J8 _ _ _ _ _ _ _ _)) (bq_le (g := fun p => XC 3 .body p st) (pk_le (XC 3 .body law27_TxnNested.J9P) (h.f3.J9 _ _ _ _)) (bq_le (g := fun p => XC 3 .body p st) (pk_le (XC 3 .body law27_TxnNested.L10P) (h.f3.L10 _ _ _ _)) (bq_le (g := fun p => XC 3 .body p st) (pk_le (XC 3 .body law27_TxnNested.J11P) (h.f3.J11 _ _)) (bq_le (g := fun p => XC 3 .body p st) (pk_le (XC 3 .body law27_TxnNested.J12P) (h.f3.J12 _ _)) (bq_le (g := fun p => XC 3 .body p st) (pk_le (XC 3 .body law27_TxnNested.L13P) (h.f3.L13 _ _ _ _ _ _ _ _ _ _ _)) (bq_le (g := fun p => XC 3 .body p st) (pk_le (XC 3 .body law27_TxnNested.J14P) (h.f3.J14 _ _ _ _ _ _ _ _ _ _ _)) (bq_le (g := fun p => XC 3 .body p st) (pk_le (XC 3 .body law27_TxnNested.J15P) (h.f3.J15 _ _ _ _ _)) (OLe.none _))))))))))))))))
theorem xb3_0_J0 (F : Fns) (n100 : Int) (n101 : Int) (b102 : Bool) : xb3_0 F law27_TxnNested.J0P (law27_TxnNested.J0F n100 n101 b102) = F.f3.J0 n100 n101 b102 := (by kernel_rfl : _ = pk (law27_TxnNested.J0F n100 n101 b102) (law27_TxnNested.J0F n100 n101 b102) (F.f3.J0 n100 n101 b102)).trans (pk_self _ _)
theorem xb3_0_L1 (F : Fns) (n111 : Int) (n112 : Int) (v113 : V) (m114 : Bool) (es115 : List V) (n116 : Int) (n117 : Int) (s118 : List O) : xb3_0 F law27_TxnNested.L1P (law27_TxnNested.L1F n111 n112 v113 m114 es115 n116 n117 s118) = F.f3.L1 n111 n112 v113 m114 es115 n116 n117 s118 := (by kernel_rfl : _ = pk (law27_TxnNested.L1F n111 n112 v113 m114 es115 n116 n117 s118) (law27_TxnNested.L1F n111 n112 v113 m114 es115 n116 n117 s118) (F.f3.L1 n111 n112 v113 m114 es115 n116 n117 s118)).trans (pk_self _ _)
theorem xb3_0_J2 (F : Fns) (n130 : Int) (n131 : Int) (v132 : V) (m133 : Bool) (es134 : List V) (n135 : Int) (s136 : ByteArray) (n137 : Int) (n138 : Int) (b139 : Bool) (s140 : List O) : xb3_0 F law27_TxnNested.J2P (law27_TxnNested.J2F n130 n131 v132 m133 es134 n135 s136 n137 n138 b139 s140) = F.f3.J2 n130 n131 v132 m133 es134 n135 s136 n137 n138 b139 s140 := (by kernel_rfl : _ = pk (law27_TxnNested.J2F n130 n131 v132 m133 es134 n135 s136 n137 n138 b139 s140) (law27_TxnNested.J2F n130 n131 v132 m133 es134 n135 s136 n137 n138 b139 s140) (F.f3.J2 n130 n131 v132 m133 es134 n135 s136 n137 n138 b139 s140)).trans (pk_self _ _)
theorem xb3_0_J3 (F : Fns) (n146 : Int) (n147 : Int) (v148 : V) (m149 : Bool) (es150 : List V) (s151 : ByteArray) (n152 : Int) (n153 : Int) (b154 : Bool) (s155 : List O) : xb3_0 F law27_TxnNested.J3P (law27_TxnNested.J3F n146 n147 v148 m149 es150 s151 n152 n153 b154 s155) = F.f3.J3 n146 n147 v148 m149 es150 s151 n152 n153 b154 s155 := (by kernel_rfl : _ = pk (law27_TxnNested.J3F n146 n147 v148 m149 es150 s151 n152 n153 b154 s155) (law27_TxnNested.J3F n146 n147 v148 m149 es150 s151 n152 n153 b154 s155) (F.f3.J3 n146 n147 v148 m149 es150 s151 n152 n153 b154 s155)).trans (pk_self _ _)
theorem xb3_0_L4 (F : Fns) (n161 : Int) (v162 : V) (m163 : Bool) (es164 : List V) (m165 : Bool) (es166 : List V) (n167 : Int) (s168 : List O) : xb3_0 F law27_TxnNested.L4P (law27_TxnNested.L4F n161 v162 m163 es164 m165 es166 n167 s168) = F.f3.L4 n161 v162 m163 es164 m165 es166 n167 s168 := (by kernel_rfl : _ = pk (law27_TxnNested.L4F n161 v162 m163 es164 m165 es166 n167 s168) (law27_TxnNested.L4F n161 v162 m163 es164 m165 es166 n167 s168) (F.f3.L4 n161 v162 m163 es164 m165 es166 n167 s168)).trans (pk_self _ _)
theorem xb3_0_L5 (F : Fns) (n174 : Int) (v175 : V) (m176 : Bool) (es177 : List V) (n178 : Int) (n179 : Int) (s180 : List O) : xb3_0 F law27_TxnNested.L5P (law27_TxnNested.L5F n174 v175 m176 es177 n178 n179 s180) = F.f3.L5 n174 v175 m176 es177 n178 n179 s180 := (by kernel_rfl : _ = pk (law27_TxnNested.L5F n174 v175 m176 es177 n178 n179 s180) (law27_TxnNested.L5F n174 v175 m176 es177 n178 n179 s180) (F.f3.L5 n174 v175 m176 es177 n178 n179 s180)).trans (pk_self _ _)
theorem xb3_0_J6 (F : Fns) (n201 : Int) (v202 : V) (m203 : Bool) (es204 : List V) (n205 : Int) (s206 : List O) : xb3_0 F law27_TxnNested.J6P (law27_TxnNested.J6F n201 v202 m203 es204 n205 s206) = F.f3.J6 n201 v202 m203 es204 n205 s206 := (by kernel_rfl : _ = pk (law27_TxnNested.J6F n201 v202 m203 es204 n205 s206) (law27_TxnNested.J6F n201 v202 m203 es204 n205 s206) (F.f3.J6 n201 v202 m203 es204 n205 s206)).trans (pk_self _ _)
theorem xb3_0_J7 (F : Fns) (n207 : Int) (v208 : V) (m209 : Bool) (es210 : List V) (m211 : Bool) (es212 : List V) (n213 : Int) (s214 : List O) : xb3_0 F law27_TxnNested.J7P (law27_TxnNested.J7F n207 v208 m209 es210 m211 es212 n213 s214) = F.f3.J7 n207 v208 m209 es210 m211 es212 n213 s214 := (by kernel_rfl : _ = pk (law27_TxnNested.J7F n207 v208 m209 es210 m211 es212 n213 s214) (law27_TxnNested.J7F n207 v208 m209 es210 m211 es212 n213 s214) (F.f3.J7 n207 v208 m209 es210 m211 es212 n213 s214)).trans (pk_self _ _)
theorem xb3_0_J8 (F : Fns) (n215 : Int) (v216 : V) (m217 : Bool) (es218 : List V) (n219 : Int) (n220 : Int) (b221 : Bool) (s222 : List O) : xb3_0 F law27_TxnNested.J8P (law27_TxnNested.J8F n215 v216 m217 es218 n219 n220 b221 s222) = F.f3.J8 n215 v216 m217 es218 n219 n220 b221 s222 := (by kernel_rfl : _ = pk (law27_TxnNested.J8F n215 v216 m217 es218 n219 n220 b221 s222) (law27_TxnNested.J8F n215 v216 m217 es218 n219 n220 b221 s222) (F.f3.J8 n215 v216 m217 es218 n219 n220 b221 s222)).trans (pk_self _ _)
theorem xb3_0_J9 (F : Fns) (v271 : V) (es272 : List V) (b273 : Bool) (s274 : List O) : xb3_0 F law27_TxnNested.J9P (law27_TxnNested.J9F v271 es272 b273 s274) = F.f3.J9 v271 es272 b273 s274 := (by kernel_rfl : _ = pk (law27_TxnNested.J9F v271 es272 b273 s274) (law27_TxnNested.J9F v271 es272 b273 s274) (F.f3.J9 v271 es272 b273 s274)).trans (pk_self _ _)
theorem xb3_0_L10 (F : Fns) (v275 : V) (es276 : List V) (n277 : Int) (s278 : List O) : xb3_0 F law27_TxnNested.L10P (law27_TxnNested.L10F v275 es276 n277 s278) = F.f3.L10 v275 es276 n277 s278 := (by kernel_rfl : _ = pk (law27_TxnNested.L10F v275 es276 n277 s278) (law27_TxnNested.L10F v275 es276 n277 s278) (F.f3.L10 v275 es276 n277 s278)).trans (pk_self _ _)
theorem xb3_0_J11 (F : Fns) (v299 : V) (s300 : List O) : xb3_0 F law27_TxnNested.J11P (law27_TxnNested.J11F v299 s300) = F.f3.J11 v299 s300 := (by kernel_rfl : _ = pk (law27_TxnNested.J11F v299 s300) (law27_TxnNested.J11F v299 s300) (F.f3.J11 v299 s300)).trans (pk_self _ _)
theorem xb3_0_J12 (F : Fns) (b315 : Bool) (s316 : List O) : xb3_0 F law27_TxnNested.J12P (law27_TxnNested.J12F b315 s316) = F.f3.J12 b315 s316 := (by kernel_rfl : _ = pk (law27_TxnNested.J12F b315 s316) (law27_TxnNested.J12F b315 s316) (F.f3.J12 b315 s316)).trans (pk_self _ _)
theorem xb3_0_L13 (F : Fns) (v317 : V) (es318 : List V) (b319 : Bool) (n320 : Int) (es321 : List V) (n322 : Int) (n323 : Int) (n324 : Int) (n325 : Int) (s326 : ByteArray) (s327 : List O) : xb3_0 F law27_TxnNested.L13P (law27_TxnNested.L13F v317 es318 b319 n320 es321 n322 n323 n324 n325 s326 s327) = F.f3.L13 v317 es318 b319 n320 es321 n322 n323 n324 n325 s326 s327 := (by kernel_rfl : _ = pk (law27_TxnNested.L13F v317 es318 b319 n320 es321 n322 n323 n324 n325 s326 s327) (law27_TxnNested.L13F v317 es318 b319 n320 es321 n322 n323 n324 n325 s326 s327) (F.f3.L13 v317 es318 b319 n320 es321 n322 n323 n324 n325 s326 s327)).trans (pk_self _ _)
theorem xb3_0_J14 (F : Fns) (v332 : V) (es333 : List V) (b334 : Bool) (n335 : Int) (es336 : List V) (n337 : Int) (n338 : Int) (n339 : Int) (n340 : Int) (s341 : ByteArray) (s342 : List O) : xb3_0 F law27_TxnNested.J14P (law27_TxnNested.J14F v332 es333 b334 n335 es336 n337 n338 n339 n340 s341 s342) = F.f3.J14 v332 es333 b334 n335 es336 n337 n338 n339 n340 s341 s342 := (by kernel_rfl : _ = pk (law27_TxnNested.J14F v332 es333 b334 n335 es336 n337 n338 n339 n340 s341 s342) (law27_TxnNested.J14F v332 es333 b334 n335 es336 n337 n338 n339 n340 s341 s342) (F.f3.J14 v332 es333 b334 n335 es336 n337 n338 n339 n340 s341 s342)).trans (pk_self _ _)
theorem xb3_0_J15 (F : Fns) (v343 : V) (es344 : List V) (n345 : Int) (b346 : Bool) (s347 : List O) : xb3_0 F law27_TxnNested.J15P (law27_TxnNested.J15F v343 es344 n345 b346 s347) = F.f3.J15 v343 es344 n345 b346 s347 := (by kernel_rfl : _ = pk (law27_TxnNested.J15F v343 es344 n345 b346 s347) (law27_TxnNested.J15F v343 es344 n345 b346 s347) (F.f3.J15 v343 es344 n345 b346 s347)).trans (pk_self _ _)
theorem st3_b {F : Fns} (h : FnsOk F) (a0 : Int) (a1 : Int) : OLe (law27_TxnNested.b (RD F) (DD F) F.f3.J0 a0 a1) (RUN 3 [(V.int .i64 a0), (V.int .i64 a1)] []) := by
  intro o e
  refine body_z (Z := ⟨RD F, DD F, xk 3 .body (xb3_0 F)⟩) ⟨RD_ok h, DD_ok h, xk_le (xb3_0_ok h)⟩ ?_
  rw [law27_TxnNested.b_eq]
  rw [show law27_TxnNested.J0 ⟨RD F, DD F, xk 3 .body (xb3_0 F)⟩ = F.f3.J0 from funext fun n100 => funext fun n101 => funext fun b102 => (show xk 3 .body (xb3_0 F) 3 .body law27_TxnNested.J0P (law27_TxnNested.J0F n100 n101 b102) = _ from by rw [xk_self]; exact xb3_0_J0 F n100 n101 b102)]
  exact e
theorem st3_J0 {F : Fns} (h : FnsOk F) (n100 : Int) (n101 : Int) (b102 : Bool) : OLe (law27_TxnNested.J0b (RD F) (DD F) F.f3.L1 n100 n101 b102) (XC 3 .body law27_TxnNested.J0P (law27_TxnNested.J0F n100 n101 b102)) := by
  intro o e
  refine exit_z (by kernel_rfl) (Z := ⟨RD F, DD F, xk 3 .body (xb3_0 F)⟩) ⟨RD_ok h, DD_ok h, xk_le (xb3_0_ok h)⟩ ?_
  rw [law27_TxnNested.J0b_eq]
  rw [show law27_TxnNested.L1 ⟨RD F, DD F, xk 3 .body (xb3_0 F)⟩ = F.f3.L1 from funext fun n111 => funext fun n112 => funext fun v113 => funext fun m114 => funext fun es115 => funext fun n116 => funext fun n117 => funext fun s118 => (show xk 3 .body (xb3_0 F) 3 .body law27_TxnNested.L1P (law27_TxnNested.L1F n111 n112 v113 m114 es115 n116 n117 s118) = _ from by rw [xk_self]; exact xb3_0_L1 F n111 n112 v113 m114 es115 n116 n117 s118)]
  exact e
theorem st3_L1 {F : Fns} (h : FnsOk F) (n111 : Int) (n112 : Int) (v113 : V) (m114 : Bool) (es115 : List V) (n116 : Int) (n117 : Int) (s118 : List O) : OLe (law27_TxnNested.L1b (RD F) (DD F) F.f3.J2 F.f3.L4 n111 n112 v113 m114 es115 n116 n117 s118) (XC 3 .body law27_TxnNested.L1P (law27_TxnNested.L1F n111 n112 v113 m114 es115 n116 n117 s118)) := by
  intro o e
  refine round_z (Z := ⟨RD F, DD F, xk 3 .body (xb3_0 F)⟩) ⟨RD_ok h, DD_ok h, xk_le (xb3_0_ok h)⟩ ?_
  rw [law27_TxnNested.L1b_eq]
  rw [show law27_TxnNested.J2 ⟨RD F, DD F, xk 3 .body (xb3_0 F)⟩ = F.f3.J2 from funext fun n130 => funext fun n131 => funext fun v132 => funext fun m133 => funext fun es134 => funext fun n135 => funext fun s136 => funext fun n137 => funext fun n138 => funext fun b139 => funext fun s140 => (show xk 3 .body (xb3_0 F) 3 .body law27_TxnNested.J2P (law27_TxnNested.J2F n130 n131 v132 m133 es134 n135 s136 n137 n138 b139 s140) = _ from by rw [xk_self]; exact xb3_0_J2 F n130 n131 v132 m133 es134 n135 s136 n137 n138 b139 s140)]
  rw [show law27_TxnNested.L4 ⟨RD F, DD F, xk 3 .body (xb3_0 F)⟩ = F.f3.L4 from funext fun n161 => funext fun v162 => funext fun m163 => funext fun es164 => funext fun m165 => funext fun es166 => funext fun n167 => funext fun s168 => (show xk 3 .body (xb3_0 F) 3 .body law27_TxnNested.L4P (law27_TxnNested.L4F n161 v162 m163 es164 m165 es166 n167 s168) = _ from by rw [xk_self]; exact xb3_0_L4 F n161 v162 m163 es164 m165 es166 n167 s168)]
  exact e
theorem st3_J2 {F : Fns} (h : FnsOk F) (n130 : Int) (n131 : Int) (v132 : V) (m133 : Bool) (es134 : List V) (n135 : Int) (s136 : ByteArray) (n137 : Int) (n138 : Int) (b139 : Bool) (s140 : List O) : OLe (law27_TxnNested.J2b (RD F) (DD F) F.f3.J3 n130 n131 v132 m133 es134 n135 s136 n137 n138 b139 s140) (XC 3 .body law27_TxnNested.J2P (law27_TxnNested.J2F n130 n131 v132 m133 es134 n135 s136 n137 n138 b139 s140)) := by
  intro o e
  refine exit_z (by kernel_rfl) (Z := ⟨RD F, DD F, xk 3 .body (xb3_0 F)⟩) ⟨RD_ok h, DD_ok h, xk_le (xb3_0_ok h)⟩ ?_
  rw [law27_TxnNested.J2b_eq]
  rw [show law27_TxnNested.J3 ⟨RD F, DD F, xk 3 .body (xb3_0 F)⟩ = F.f3.J3 from funext fun n146 => funext fun n147 => funext fun v148 => funext fun m149 => funext fun es150 => funext fun s151 => funext fun n152 => funext fun n153 => funext fun b154 => funext fun s155 => (show xk 3 .body (xb3_0 F) 3 .body law27_TxnNested.J3P (law27_TxnNested.J3F n146 n147 v148 m149 es150 s151 n152 n153 b154 s155) = _ from by rw [xk_self]; exact xb3_0_J3 F n146 n147 v148 m149 es150 s151 n152 n153 b154 s155)]
  exact e
theorem st3_J3 {F : Fns} (h : FnsOk F) (n146 : Int) (n147 : Int) (v148 : V) (m149 : Bool) (es150 : List V) (s151 : ByteArray) (n152 : Int) (n153 : Int) (b154 : Bool) (s155 : List O) : OLe (law27_TxnNested.J3b (RD F) (DD F) F.f3.L1 n146 n147 v148 m149 es150 s151 n152 n153 b154 s155) (XC 3 .body law27_TxnNested.J3P (law27_TxnNested.J3F n146 n147 v148 m149 es150 s151 n152 n153 b154 s155)) := by
  intro o e
  refine exit_z (by kernel_rfl) (Z := ⟨RD F, DD F, xk 3 .body (xb3_0 F)⟩) ⟨RD_ok h, DD_ok h, xk_le (xb3_0_ok h)⟩ ?_
  rw [law27_TxnNested.J3b_eq]
  rw [show law27_TxnNested.L1 ⟨RD F, DD F, xk 3 .body (xb3_0 F)⟩ = F.f3.L1 from funext fun n111 => funext fun n112 => funext fun v113 => funext fun m114 => funext fun es115 => funext fun n116 => funext fun n117 => funext fun s118 => (show xk 3 .body (xb3_0 F) 3 .body law27_TxnNested.L1P (law27_TxnNested.L1F n111 n112 v113 m114 es115 n116 n117 s118) = _ from by rw [xk_self]; exact xb3_0_L1 F n111 n112 v113 m114 es115 n116 n117 s118)]
  exact e
theorem st3_L4 {F : Fns} (h : FnsOk F) (n161 : Int) (v162 : V) (m163 : Bool) (es164 : List V) (m165 : Bool) (es166 : List V) (n167 : Int) (s168 : List O) : OLe (law27_TxnNested.L4b (RD F) (DD F) F.f3.L5 F.f3.J7 F.f3.J9 n161 v162 m163 es164 m165 es166 n167 s168) (XC 3 .body law27_TxnNested.L4P (law27_TxnNested.L4F n161 v162 m163 es164 m165 es166 n167 s168)) := by
  intro o e
  refine round_z (Z := ⟨RD F, DD F, xk 3 .body (xb3_0 F)⟩) ⟨RD_ok h, DD_ok h, xk_le (xb3_0_ok h)⟩ ?_
  rw [law27_TxnNested.L4b_eq]
  rw [show law27_TxnNested.L5 ⟨RD F, DD F, xk 3 .body (xb3_0 F)⟩ = F.f3.L5 from funext fun n174 => funext fun v175 => funext fun m176 => funext fun es177 => funext fun n178 => funext fun n179 => funext fun s180 => (show xk 3 .body (xb3_0 F) 3 .body law27_TxnNested.L5P (law27_TxnNested.L5F n174 v175 m176 es177 n178 n179 s180) = _ from by rw [xk_self]; exact xb3_0_L5 F n174 v175 m176 es177 n178 n179 s180)]
  rw [show law27_TxnNested.J7 ⟨RD F, DD F, xk 3 .body (xb3_0 F)⟩ = F.f3.J7 from funext fun n207 => funext fun v208 => funext fun m209 => funext fun es210 => funext fun m211 => funext fun es212 => funext fun n213 => funext fun s214 => (show xk 3 .body (xb3_0 F) 3 .body law27_TxnNested.J7P (law27_TxnNested.J7F n207 v208 m209 es210 m211 es212 n213 s214) = _ from by rw [xk_self]; exact xb3_0_J7 F n207 v208 m209 es210 m211 es212 n213 s214)]
  rw [show law27_TxnNested.J9 ⟨RD F, DD F, xk 3 .body (xb3_0 F)⟩ = F.f3.J9 from funext fun v271 => funext fun es272 => funext fun b273 => funext fun s274 => (show xk 3 .body (xb3_0 F) 3 .body law27_TxnNested.J9P (law27_TxnNested.J9F v271 es272 b273 s274) = _ from by rw [xk_self]; exact xb3_0_J9 F v271 es272 b273 s274)]
  exact e
theorem st3_L5 {F : Fns} (h : FnsOk F) (n174 : Int) (v175 : V) (m176 : Bool) (es177 : List V) (n178 : Int) (n179 : Int) (s180 : List O) : OLe (law27_TxnNested.L5b (RD F) (DD F) F.f3.J6 F.f3.J8 n174 v175 m176 es177 n178 n179 s180) (XC 3 .body law27_TxnNested.L5P (law27_TxnNested.L5F n174 v175 m176 es177 n178 n179 s180)) := by
  intro o e
  refine round_z (Z := ⟨RD F, DD F, xk 3 .body (xb3_0 F)⟩) ⟨RD_ok h, DD_ok h, xk_le (xb3_0_ok h)⟩ ?_
  rw [law27_TxnNested.L5b_eq]
  rw [show law27_TxnNested.J6 ⟨RD F, DD F, xk 3 .body (xb3_0 F)⟩ = F.f3.J6 from funext fun n201 => funext fun v202 => funext fun m203 => funext fun es204 => funext fun n205 => funext fun s206 => (show xk 3 .body (xb3_0 F) 3 .body law27_TxnNested.J6P (law27_TxnNested.J6F n201 v202 m203 es204 n205 s206) = _ from by rw [xk_self]; exact xb3_0_J6 F n201 v202 m203 es204 n205 s206)]
  rw [show law27_TxnNested.J8 ⟨RD F, DD F, xk 3 .body (xb3_0 F)⟩ = F.f3.J8 from funext fun n215 => funext fun v216 => funext fun m217 => funext fun es218 => funext fun n219 => funext fun n220 => funext fun b221 => funext fun s222 => (show xk 3 .body (xb3_0 F) 3 .body law27_TxnNested.J8P (law27_TxnNested.J8F n215 v216 m217 es218 n219 n220 b221 s222) = _ from by rw [xk_self]; exact xb3_0_J8 F n215 v216 m217 es218 n219 n220 b221 s222)]
  exact e
theorem st3_J6 {F : Fns} (h : FnsOk F) (n201 : Int) (v202 : V) (m203 : Bool) (es204 : List V) (n205 : Int) (s206 : List O) : OLe (law27_TxnNested.J6b (RD F) (DD F) F.f3.J7 n201 v202 m203 es204 n205 s206) (XC 3 .body law27_TxnNested.J6P (law27_TxnNested.J6F n201 v202 m203 es204 n205 s206)) := by
  intro o e
  refine exit_z (by kernel_rfl) (Z := ⟨RD F, DD F, xk 3 .body (xb3_0 F)⟩) ⟨RD_ok h, DD_ok h, xk_le (xb3_0_ok h)⟩ ?_
  rw [law27_TxnNested.J6b_eq]
  rw [show law27_TxnNested.J7 ⟨RD F, DD F, xk 3 .body (xb3_0 F)⟩ = F.f3.J7 from funext fun n207 => funext fun v208 => funext fun m209 => funext fun es210 => funext fun m211 => funext fun es212 => funext fun n213 => funext fun s214 => (show xk 3 .body (xb3_0 F) 3 .body law27_TxnNested.J7P (law27_TxnNested.J7F n207 v208 m209 es210 m211 es212 n213 s214) = _ from by rw [xk_self]; exact xb3_0_J7 F n207 v208 m209 es210 m211 es212 n213 s214)]
  exact e
theorem st3_J7 {F : Fns} (h : FnsOk F) (n207 : Int) (v208 : V) (m209 : Bool) (es210 : List V) (m211 : Bool) (es212 : List V) (n213 : Int) (s214 : List O) : OLe (law27_TxnNested.J7b (RD F) (DD F) F.f3.L4 n207 v208 m209 es210 m211 es212 n213 s214) (XC 3 .body law27_TxnNested.J7P (law27_TxnNested.J7F n207 v208 m209 es210 m211 es212 n213 s214)) := by
  intro o e
  refine exit_z (by kernel_rfl) (Z := ⟨RD F, DD F, xk 3 .body (xb3_0 F)⟩) ⟨RD_ok h, DD_ok h, xk_le (xb3_0_ok h)⟩ ?_
  rw [law27_TxnNested.J7b_eq]
  rw [show law27_TxnNested.L4 ⟨RD F, DD F, xk 3 .body (xb3_0 F)⟩ = F.f3.L4 from funext fun n161 => funext fun v162 => funext fun m163 => funext fun es164 => funext fun m165 => funext fun es166 => funext fun n167 => funext fun s168 => (show xk 3 .body (xb3_0 F) 3 .body law27_TxnNested.L4P (law27_TxnNested.L4F n161 v162 m163 es164 m165 es166 n167 s168) = _ from by rw [xk_self]; exact xb3_0_L4 F n161 v162 m163 es164 m165 es166 n167 s168)]
  exact e
theorem st3_J8 {F : Fns} (h : FnsOk F) (n215 : Int) (v216 : V) (m217 : Bool) (es218 : List V) (n219 : Int) (n220 : Int) (b221 : Bool) (s222 : List O) : OLe (law27_TxnNested.J8b (RD F) (DD F) F.f3.L5 n215 v216 m217 es218 n219 n220 b221 s222) (XC 3 .body law27_TxnNested.J8P (law27_TxnNested.J8F n215 v216 m217 es218 n219 n220 b221 s222)) := by
  intro o e
  refine exit_z (by kernel_rfl) (Z := ⟨RD F, DD F, xk 3 .body (xb3_0 F)⟩) ⟨RD_ok h, DD_ok h, xk_le (xb3_0_ok h)⟩ ?_
  rw [law27_TxnNested.J8b_eq]
  rw [show law27_TxnNested.L5 ⟨RD F, DD F, xk 3 .body (xb3_0 F)⟩ = F.f3.L5 from funext fun n174 => funext fun v175 => funext fun m176 => funext fun es177 => funext fun n178 => funext fun n179 => funext fun s180 => (show xk 3 .body (xb3_0 F) 3 .body law27_TxnNested.L5P (law27_TxnNested.L5F n174 v175 m176 es177 n178 n179 s180) = _ from by rw [xk_self]; exact xb3_0_L5 F n174 v175 m176 es177 n178 n179 s180)]
  exact e
theorem st3_J9 {F : Fns} (h : FnsOk F) (v271 : V) (es272 : List V) (b273 : Bool) (s274 : List O) : OLe (law27_TxnNested.J9b (RD F) (DD F) F.f3.L10 v271 es272 b273 s274) (XC 3 .body law27_TxnNested.J9P (law27_TxnNested.J9F v271 es272 b273 s274)) := by
  intro o e
  refine exit_z (by kernel_rfl) (Z := ⟨RD F, DD F, xk 3 .body (xb3_0 F)⟩) ⟨RD_ok h, DD_ok h, xk_le (xb3_0_ok h)⟩ ?_
  rw [law27_TxnNested.J9b_eq]
  rw [show law27_TxnNested.L10 ⟨RD F, DD F, xk 3 .body (xb3_0 F)⟩ = F.f3.L10 from funext fun v275 => funext fun es276 => funext fun n277 => funext fun s278 => (show xk 3 .body (xb3_0 F) 3 .body law27_TxnNested.L10P (law27_TxnNested.L10F v275 es276 n277 s278) = _ from by rw [xk_self]; exact xb3_0_L10 F v275 es276 n277 s278)]
  exact e
theorem st3_L10 {F : Fns} (h : FnsOk F) (v275 : V) (es276 : List V) (n277 : Int) (s278 : List O) : OLe (law27_TxnNested.L10b (RD F) (DD F) F.f3.J11 F.f3.L13 v275 es276 n277 s278) (XC 3 .body law27_TxnNested.L10P (law27_TxnNested.L10F v275 es276 n277 s278)) := by
  intro o e
  refine round_z (Z := ⟨RD F, DD F, xk 3 .body (xb3_0 F)⟩) ⟨RD_ok h, DD_ok h, xk_le (xb3_0_ok h)⟩ ?_
  rw [law27_TxnNested.L10b_eq]
  rw [show law27_TxnNested.J11 ⟨RD F, DD F, xk 3 .body (xb3_0 F)⟩ = F.f3.J11 from funext fun v299 => funext fun s300 => (show xk 3 .body (xb3_0 F) 3 .body law27_TxnNested.J11P (law27_TxnNested.J11F v299 s300) = _ from by rw [xk_self]; exact xb3_0_J11 F v299 s300)]
  rw [show law27_TxnNested.L13 ⟨RD F, DD F, xk 3 .body (xb3_0 F)⟩ = F.f3.L13 from funext fun v317 => funext fun es318 => funext fun b319 => funext fun n320 => funext fun es321 => funext fun n322 => funext fun n323 => funext fun n324 => funext fun n325 => funext fun s326 => funext fun s327 => (show xk 3 .body (xb3_0 F) 3 .body law27_TxnNested.L13P (law27_TxnNested.L13F v317 es318 b319 n320 es321 n322 n323 n324 n325 s326 s327) = _ from by rw [xk_self]; exact xb3_0_L13 F v317 es318 b319 n320 es321 n322 n323 n324 n325 s326 s327)]
  exact e
theorem st3_J11 {F : Fns} (h : FnsOk F) (v299 : V) (s300 : List O) : OLe (law27_TxnNested.J11b (RD F) (DD F) F.f3.J12 v299 s300) (XC 3 .body law27_TxnNested.J11P (law27_TxnNested.J11F v299 s300)) := by
  intro o e
  refine exit_z (by kernel_rfl) (Z := ⟨RD F, DD F, xk 3 .body (xb3_0 F)⟩) ⟨RD_ok h, DD_ok h, xk_le (xb3_0_ok h)⟩ ?_
  rw [law27_TxnNested.J11b_eq]
  rw [show law27_TxnNested.J12 ⟨RD F, DD F, xk 3 .body (xb3_0 F)⟩ = F.f3.J12 from funext fun b315 => funext fun s316 => (show xk 3 .body (xb3_0 F) 3 .body law27_TxnNested.J12P (law27_TxnNested.J12F b315 s316) = _ from by rw [xk_self]; exact xb3_0_J12 F b315 s316)]
  exact e
theorem st3_J12 {F : Fns} (h : FnsOk F) (b315 : Bool) (s316 : List O) : OLe (law27_TxnNested.J12b (RD F) (DD F) b315 s316) (XC 3 .body law27_TxnNested.J12P (law27_TxnNested.J12F b315 s316)) := by
  intro o e
  refine exit_z (by kernel_rfl) (Z := ⟨RD F, DD F, xk 3 .body (xb3_0 F)⟩) ⟨RD_ok h, DD_ok h, xk_le (xb3_0_ok h)⟩ ?_
  rw [law27_TxnNested.J12b_eq]
  exact e
theorem st3_L13 {F : Fns} (h : FnsOk F) (v317 : V) (es318 : List V) (b319 : Bool) (n320 : Int) (es321 : List V) (n322 : Int) (n323 : Int) (n324 : Int) (n325 : Int) (s326 : ByteArray) (s327 : List O) : OLe (law27_TxnNested.L13b (RD F) (DD F) F.f3.J14 F.f3.J15 v317 es318 b319 n320 es321 n322 n323 n324 n325 s326 s327) (XC 3 .body law27_TxnNested.L13P (law27_TxnNested.L13F v317 es318 b319 n320 es321 n322 n323 n324 n325 s326 s327)) := by
  intro o e
  refine round_z (Z := ⟨RD F, DD F, xk 3 .body (xb3_0 F)⟩) ⟨RD_ok h, DD_ok h, xk_le (xb3_0_ok h)⟩ ?_
  rw [law27_TxnNested.L13b_eq]
  rw [show law27_TxnNested.J14 ⟨RD F, DD F, xk 3 .body (xb3_0 F)⟩ = F.f3.J14 from funext fun v332 => funext fun es333 => funext fun b334 => funext fun n335 => funext fun es336 => funext fun n337 => funext fun n338 => funext fun n339 => funext fun n340 => funext fun s341 => funext fun s342 => (show xk 3 .body (xb3_0 F) 3 .body law27_TxnNested.J14P (law27_TxnNested.J14F v332 es333 b334 n335 es336 n337 n338 n339 n340 s341 s342) = _ from by rw [xk_self]; exact xb3_0_J14 F v332 es333 b334 n335 es336 n337 n338 n339 n340 s341 s342)]
  rw [show law27_TxnNested.J15 ⟨RD F, DD F, xk 3 .body (xb3_0 F)⟩ = F.f3.J15 from funext fun v343 => funext fun es344 => funext fun n345 => funext fun b346 => funext fun s347 => (show xk 3 .body (xb3_0 F) 3 .body law27_TxnNested.J15P (law27_TxnNested.J15F v343 es344 n345 b346 s347) = _ from by rw [xk_self]; exact xb3_0_J15 F v343 es344 n345 b346 s347)]
  exact e
theorem st3_J14 {F : Fns} (h : FnsOk F) (v332 : V) (es333 : List V) (b334 : Bool) (n335 : Int) (es336 : List V) (n337 : Int) (n338 : Int) (n339 : Int) (n340 : Int) (s341 : ByteArray) (s342 : List O) : OLe (law27_TxnNested.J14b (RD F) (DD F) F.f3.L13 v332 es333 b334 n335 es336 n337 n338 n339 n340 s341 s342) (XC 3 .body law27_TxnNested.J14P (law27_TxnNested.J14F v332 es333 b334 n335 es336 n337 n338 n339 n340 s341 s342)) := by
  intro o e
  refine exit_z (by kernel_rfl) (Z := ⟨RD F, DD F, xk 3 .body (xb3_0 F)⟩) ⟨RD_ok h, DD_ok h, xk_le (xb3_0_ok h)⟩ ?_
  rw [law27_TxnNested.J14b_eq]
  rw [show law27_TxnNested.L13 ⟨RD F, DD F, xk 3 .body (xb3_0 F)⟩ = F.f3.L13 from funext fun v317 => funext fun es318 => funext fun b319 => funext fun n320 => funext fun es321 => funext fun n322 => funext fun n323 => funext fun n324 => funext fun n325 => funext fun s326 => funext fun s327 => (show xk 3 .body (xb3_0 F) 3 .body law27_TxnNested.L13P (law27_TxnNested.L13F v317 es318 b319 n320 es321 n322 n323 n324 n325 s326 s327) = _ from by rw [xk_self]; exact xb3_0_L13 F v317 es318 b319 n320 es321 n322 n323 n324 n325 s326 s327)]
  exact e
theorem st3_J15 {F : Fns} (h : FnsOk F) (v343 : V) (es344 : List V) (n345 : Int) (b346 : Bool) (s347 : List O) : OLe (law27_TxnNested.J15b (RD F) (DD F) F.f3.L10 v343 es344 n345 b346 s347) (XC 3 .body law27_TxnNested.J15P (law27_TxnNested.J15F v343 es344 n345 b346 s347)) := by
  intro o e
  refine exit_z (by kernel_rfl) (Z := ⟨RD F, DD F, xk 3 .body (xb3_0 F)⟩) ⟨RD_ok h, DD_ok h, xk_le (xb3_0_ok h)⟩ ?_
  rw [law27_TxnNested.J15b_eq]
  rw [show law27_TxnNested.L10 ⟨RD F, DD F, xk 3 .body (xb3_0 F)⟩ = F.f3.L10 from funext fun v275 => funext fun es276 => funext fun n277 => funext fun s278 => (show xk 3 .body (xb3_0 F) 3 .body law27_TxnNested.L10P (law27_TxnNested.L10F v275 es276 n277 s278) = _ from by rw [xk_self]; exact xb3_0_L10 F v275 es276 n277 s278)]
  exact e
noncomputable def xb6_0 (F : Fns) (p : List Nat) (st : St) : R := bif beqP p law27_awake.L0P then pk st (law27_awake.L0F (sV st 1) (gI (sV st 3)) (gI (sV st 4)) (gES (sV st 34)) (gI (sV st 35)) (gI (sV st 36)) st.s) (F.f6.L0 (sV st 1) (gI (sV st 3)) (gI (sV st 4)) (gES (sV st 34)) (gI (sV st 35)) (gI (sV st 36)) st.s) else bif beqP p law27_awake.J1P then pk st (law27_awake.J1F (sV st 1) (gI (sV st 3)) (gI (sV st 4)) (gES (sV st 34)) (gI (sV st 35)) (gI (sV st 36)) (gB (sV st 56)) st.s) (F.f6.J1 (sV st 1) (gI (sV st 3)) (gI (sV st 4)) (gES (sV st 34)) (gI (sV st 35)) (gI (sV st 36)) (gB (sV st 56)) st.s) else bif beqP p law27_awake.J2P then pk st (law27_awake.J2F (gB (sV st 0)) st.s) (F.f6.J2 (gB (sV st 0)) st.s) else none
theorem xb6_0_ok {F : Fns} (h : FnsOk F) (p : List Nat) (st : St) : OLe (xb6_0 F p st) (XC 6 .body p st) := bq_le (g := fun p => XC 6 .body p st) (pk_le (XC 6 .body law27_awake.L0P) (h.f6.L0 _ _ _ _ _ _ _)) (bq_le (g := fun p => XC 6 .body p st) (pk_le (XC 6 .body law27_awake.J1P) (h.f6.J1 _ _ _ _ _ _ _ _)) (bq_le (g := fun p => XC 6 .body p st) (pk_le (XC 6 .body law27_awake.J2P) (h.f6.J2 _ _)) (OLe.none _)))
theorem xb6_0_L0 (F : Fns) (v131 : V) (n132 : Int) (n133 : Int) (es134 : List V) (n135 : Int) (n136 : Int) (s137 : List O) : xb6_0 F law27_awake.L0P (law27_awake.L0F v131 n132 n133 es134 n135 n136 s137) = F.f6.L0 v131 n132 n133 es134 n135 n136 s137 := (by kernel_rfl : _ = pk (law27_awake.L0F v131 n132 n133 es134 n135 n136 s137) (law27_awake.L0F v131 n132 n133 es134 n135 n136 s137) (F.f6.L0 v131 n132 n133 es134 n135 n136 s137)).trans (pk_self _ _)
theorem xb6_0_J1 (F : Fns) (v168 : V) (n169 : Int) (n170 : Int) (es171 : List V) (n172 : Int) (n173 : Int) (b174 : Bool) (s175 : List O) : xb6_0 F law27_awake.J1P (law27_awake.J1F v168 n169 n170 es171 n172 n173 b174 s175) = F.f6.J1 v168 n169 n170 es171 n172 n173 b174 s175 := (by kernel_rfl : _ = pk (law27_awake.J1F v168 n169 n170 es171 n172 n173 b174 s175) (law27_awake.J1F v168 n169 n170 es171 n172 n173 b174 s175) (F.f6.J1 v168 n169 n170 es171 n172 n173 b174 s175)).trans (pk_self _ _)
theorem xb6_0_J2 (F : Fns) (b190 : Bool) (s191 : List O) : xb6_0 F law27_awake.J2P (law27_awake.J2F b190 s191) = F.f6.J2 b190 s191 := (by kernel_rfl : _ = pk (law27_awake.J2F b190 s191) (law27_awake.J2F b190 s191) (F.f6.J2 b190 s191)).trans (pk_self _ _)
theorem st6_b {F : Fns} (h : FnsOk F) : OLe (law27_awake.b (RD F) (DD F) F.f6.L0) (RUN 6 [] []) := by
  intro o e
  refine body_z (Z := ⟨RD F, DD F, xk 6 .body (xb6_0 F)⟩) ⟨RD_ok h, DD_ok h, xk_le (xb6_0_ok h)⟩ ?_
  rw [law27_awake.b_eq]
  rw [show law27_awake.L0 ⟨RD F, DD F, xk 6 .body (xb6_0 F)⟩ = F.f6.L0 from funext fun v131 => funext fun n132 => funext fun n133 => funext fun es134 => funext fun n135 => funext fun n136 => funext fun s137 => (show xk 6 .body (xb6_0 F) 6 .body law27_awake.L0P (law27_awake.L0F v131 n132 n133 es134 n135 n136 s137) = _ from by rw [xk_self]; exact xb6_0_L0 F v131 n132 n133 es134 n135 n136 s137)]
  exact e
theorem st6_L0 {F : Fns} (h : FnsOk F) (v131 : V) (n132 : Int) (n133 : Int) (es134 : List V) (n135 : Int) (n136 : Int) (s137 : List O) : OLe (law27_awake.L0b (RD F) (DD F) F.f6.J1 F.f6.J2 v131 n132 n133 es134 n135 n136 s137) (XC 6 .body law27_awake.L0P (law27_awake.L0F v131 n132 n133 es134 n135 n136 s137)) := by
  intro o e
  refine round_z (Z := ⟨RD F, DD F, xk 6 .body (xb6_0 F)⟩) ⟨RD_ok h, DD_ok h, xk_le (xb6_0_ok h)⟩ ?_
  rw [law27_awake.L0b_eq]
  rw [show law27_awake.J1 ⟨RD F, DD F, xk 6 .body (xb6_0 F)⟩ = F.f6.J1 from funext fun v168 => funext fun n169 => funext fun n170 => funext fun es171 => funext fun n172 => funext fun n173 => funext fun b174 => funext fun s175 => (show xk 6 .body (xb6_0 F) 6 .body law27_awake.J1P (law27_awake.J1F v168 n169 n170 es171 n172 n173 b174 s175) = _ from by rw [xk_self]; exact xb6_0_J1 F v168 n169 n170 es171 n172 n173 b174 s175)]
  rw [show law27_awake.J2 ⟨RD F, DD F, xk 6 .body (xb6_0 F)⟩ = F.f6.J2 from funext fun b190 => funext fun s191 => (show xk 6 .body (xb6_0 F) 6 .body law27_awake.J2P (law27_awake.J2F b190 s191) = _ from by rw [xk_self]; exact xb6_0_J2 F b190 s191)]
  exact e
theorem st6_J1 {F : Fns} (h : FnsOk F) (v168 : V) (n169 : Int) (n170 : Int) (es171 : List V) (n172 : Int) (n173 : Int) (b174 : Bool) (s175 : List O) : OLe (law27_awake.J1b (RD F) (DD F) F.f6.L0 v168 n169 n170 es171 n172 n173 b174 s175) (XC 6 .body law27_awake.J1P (law27_awake.J1F v168 n169 n170 es171 n172 n173 b174 s175)) := by
  intro o e
  refine exit_z (by kernel_rfl) (Z := ⟨RD F, DD F, xk 6 .body (xb6_0 F)⟩) ⟨RD_ok h, DD_ok h, xk_le (xb6_0_ok h)⟩ ?_
  rw [law27_awake.J1b_eq]
  rw [show law27_awake.L0 ⟨RD F, DD F, xk 6 .body (xb6_0 F)⟩ = F.f6.L0 from funext fun v131 => funext fun n132 => funext fun n133 => funext fun es134 => funext fun n135 => funext fun n136 => funext fun s137 => (show xk 6 .body (xb6_0 F) 6 .body law27_awake.L0P (law27_awake.L0F v131 n132 n133 es134 n135 n136 s137) = _ from by rw [xk_self]; exact xb6_0_L0 F v131 n132 n133 es134 n135 n136 s137)]
  exact e
theorem st6_J2 {F : Fns} (h : FnsOk F) (b190 : Bool) (s191 : List O) : OLe (law27_awake.J2b (RD F) (DD F) b190 s191) (XC 6 .body law27_awake.J2P (law27_awake.J2F b190 s191)) := by
  intro o e
  refine exit_z (by kernel_rfl) (Z := ⟨RD F, DD F, xk 6 .body (xb6_0 F)⟩) ⟨RD_ok h, DD_ok h, xk_le (xb6_0_ok h)⟩ ?_
  rw [law27_awake.J2b_eq]
  exact e
theorem st7_b {F : Fns} (h : FnsOk F) (s : List O) : OLe (txn_New.b (RD F) (DD F) s) (RUN 7 [] s) := by
  intro o e
  refine body_z (Z := ⟨RD F, DD F, fun _ _ _ _ => none⟩) ⟨RD_ok h, DD_ok h, fun _ _ _ _ => OLe.none _⟩ ?_
  rw [txn_New.b_eq]
  exact e
noncomputable def xb8_0 (F : Fns) (p : List Nat) (st : St) : R := bif beqP p txn_Manager_Begin.J0P then pk st (txn_Manager_Begin.J0F (gO1 (sV st 0)) (gO2 (sV st 0)) (gI (sV st 1)) st.s) (F.f8.J0 (gO1 (sV st 0)) (gO2 (sV st 0)) (gI (sV st 1)) st.s) else none
theorem xb8_0_ok {F : Fns} (h : FnsOk F) (p : List Nat) (st : St) : OLe (xb8_0 F p st) (XC 8 .body p st) := bq_le (g := fun p => XC 8 .body p st) (pk_le (XC 8 .body txn_Manager_Begin.J0P) (h.f8.J0 _ _ _ _)) (OLe.none _)
theorem xb8_0_J0 (F : Fns) (i114 : Nat) (o115 : Nat) (n116 : Int) (s117 : List O) : xb8_0 F txn_Manager_Begin.J0P (txn_Manager_Begin.J0F i114 o115 n116 s117) = F.f8.J0 i114 o115 n116 s117 := (by kernel_rfl : _ = pk (txn_Manager_Begin.J0F i114 o115 n116 s117) (txn_Manager_Begin.J0F i114 o115 n116 s117) (F.f8.J0 i114 o115 n116 s117)).trans (pk_self _ _)
theorem st8_b {F : Fns} (h : FnsOk F) (i0 : Nat) (o1 : Nat) (a2 : Int) (s : List O) : OLe (txn_Manager_Begin.b (RD F) (DD F) F.f8.J0 i0 o1 a2 s) (RUN 8 [(V.obj i0 o1), (V.int .i64 a2)] s) := by
  intro o e
  refine body_z (Z := ⟨RD F, DD F, xk 8 .body (xb8_0 F)⟩) ⟨RD_ok h, DD_ok h, xk_le (xb8_0_ok h)⟩ ?_
  rw [txn_Manager_Begin.b_eq]
  rw [show txn_Manager_Begin.J0 ⟨RD F, DD F, xk 8 .body (xb8_0 F)⟩ = F.f8.J0 from funext fun i114 => funext fun o115 => funext fun n116 => funext fun s117 => (show xk 8 .body (xb8_0 F) 8 .body txn_Manager_Begin.J0P (txn_Manager_Begin.J0F i114 o115 n116 s117) = _ from by rw [xk_self]; exact xb8_0_J0 F i114 o115 n116 s117)]
  exact e
theorem st8_J0 {F : Fns} (h : FnsOk F) (i114 : Nat) (o115 : Nat) (n116 : Int) (s117 : List O) : OLe (txn_Manager_Begin.J0b (RD F) (DD F) i114 o115 n116 s117) (XC 8 .body txn_Manager_Begin.J0P (txn_Manager_Begin.J0F i114 o115 n116 s117)) := by
  intro o e
  refine exit_z (by kernel_rfl) (Z := ⟨RD F, DD F, xk 8 .body (xb8_0 F)⟩) ⟨RD_ok h, DD_ok h, xk_le (xb8_0_ok h)⟩ ?_
  rw [txn_Manager_Begin.J0b_eq]
  exact e
theorem st9_b {F : Fns} (h : FnsOk F) (i0 : Nat) (o1 : Nat) (a2 : Int) (a3 : ByteArray) (s : List O) : OLe (txn_Manager_Enlist.b (RD F) (DD F) i0 o1 a2 a3 s) (RUN 9 [(V.obj i0 o1), (V.int .i64 a2), (V.str a3)] s) := by
  intro o e
  refine body_z (Z := ⟨RD F, DD F, fun _ _ _ _ => none⟩) ⟨RD_ok h, DD_ok h, fun _ _ _ _ => OLe.none _⟩ ?_
  rw [txn_Manager_Enlist.b_eq]
  exact e
noncomputable def xb10_0 (F : Fns) (p : List Nat) (st : St) : R := bif beqP p txn_Manager_Commit.J0P then pk st (txn_Manager_Commit.J0F (gO1 (sV st 0)) (gO2 (sV st 0)) (gI (sV st 1)) (sV st 5) (gB (sV st 19)) st.s) (F.f10.J0 (gO1 (sV st 0)) (gO2 (sV st 0)) (gI (sV st 1)) (sV st 5) (gB (sV st 19)) st.s) else bif beqP p txn_Manager_Commit.L1P then pk st (txn_Manager_Commit.L1F (gO1 (sV st 0)) (gO2 (sV st 0)) (sV st 5) (sV st 57) (gI (sV st 58)) (gI (sV st 59)) st.s) (F.f10.L1 (gO1 (sV st 0)) (gO2 (sV st 0)) (sV st 5) (sV st 57) (gI (sV st 58)) (gI (sV st 59)) st.s) else bif beqP p txn_Manager_Commit.J2P then pk st (txn_Manager_Commit.J2F (gO1 (sV st 0)) (gO2 (sV st 0)) (sV st 5) (sV st 57) (gI (sV st 58)) (gI (sV st 59)) st.s) (F.f10.J2 (gO1 (sV st 0)) (gO2 (sV st 0)) (sV st 5) (sV st 57) (gI (sV st 58)) (gI (sV st 59)) st.s) else none
theorem xb10_0_ok {F : Fns} (h : FnsOk F) (p : List Nat) (st : St) : OLe (xb10_0 F p st) (XC 10 .body p st) := bq_le (g := fun p => XC 10 .body p st) (pk_le (XC 10 .body txn_Manager_Commit.J0P) (h.f10.J0 _ _ _ _ _ _)) (bq_le (g := fun p => XC 10 .body p st) (pk_le (XC 10 .body txn_Manager_Commit.L1P) (h.f10.L1 _ _ _ _ _ _ _)) (bq_le (g := fun p => XC 10 .body p st) (pk_le (XC 10 .body txn_Manager_Commit.J2P) (h.f10.J2 _ _ _ _ _ _ _)) (OLe.none _)))
theorem xb10_0_J0 (F : Fns) (i114 : Nat) (o115 : Nat) (n116 : Int) (v117 : V) (b118 : Bool) (s119 : List O) : xb10_0 F txn_Manager_Commit.J0P (txn_Manager_Commit.J0F i114 o115 n116 v117 b118 s119) = F.f10.J0 i114 o115 n116 v117 b118 s119 := (by kernel_rfl : _ = pk (txn_Manager_Commit.J0F i114 o115 n116 v117 b118 s119) (txn_Manager_Commit.J0F i114 o115 n116 v117 b118 s119) (F.f10.J0 i114 o115 n116 v117 b118 s119)).trans (pk_self _ _)
theorem xb10_0_L1 (F : Fns) (i145 : Nat) (o146 : Nat) (v147 : V) (v148 : V) (n149 : Int) (n150 : Int) (s151 : List O) : xb10_0 F txn_Manager_Commit.L1P (txn_Manager_Commit.L1F i145 o146 v147 v148 n149 n150 s151) = F.f10.L1 i145 o146 v147 v148 n149 n150 s151 := (by kernel_rfl : _ = pk (txn_Manager_Commit.L1F i145 o146 v147 v148 n149 n150 s151) (txn_Manager_Commit.L1F i145 o146 v147 v148 n149 n150 s151) (F.f10.L1 i145 o146 v147 v148 n149 n150 s151)).trans (pk_self _ _)
theorem xb10_0_J2 (F : Fns) (i164 : Nat) (o165 : Nat) (v166 : V) (v167 : V) (n168 : Int) (n169 : Int) (s170 : List O) : xb10_0 F txn_Manager_Commit.J2P (txn_Manager_Commit.J2F i164 o165 v166 v167 n168 n169 s170) = F.f10.J2 i164 o165 v166 v167 n168 n169 s170 := (by kernel_rfl : _ = pk (txn_Manager_Commit.J2F i164 o165 v166 v167 n168 n169 s170) (txn_Manager_Commit.J2F i164 o165 v166 v167 n168 n169 s170) (F.f10.J2 i164 o165 v166 v167 n168 n169 s170)).trans (pk_self _ _)
theorem st10_b {F : Fns} (h : FnsOk F) (i0 : Nat) (o1 : Nat) (a2 : Int) (s : List O) : OLe (txn_Manager_Commit.b (RD F) (DD F) F.f10.J0 i0 o1 a2 s) (RUN 10 [(V.obj i0 o1), (V.int .i64 a2)] s) := by
  intro o e
  refine body_z (Z := ⟨RD F, DD F, xk 10 .body (xb10_0 F)⟩) ⟨RD_ok h, DD_ok h, xk_le (xb10_0_ok h)⟩ ?_
  rw [txn_Manager_Commit.b_eq]
  rw [show txn_Manager_Commit.J0 ⟨RD F, DD F, xk 10 .body (xb10_0 F)⟩ = F.f10.J0 from funext fun i114 => funext fun o115 => funext fun n116 => funext fun v117 => funext fun b118 => funext fun s119 => (show xk 10 .body (xb10_0 F) 10 .body txn_Manager_Commit.J0P (txn_Manager_Commit.J0F i114 o115 n116 v117 b118 s119) = _ from by rw [xk_self]; exact xb10_0_J0 F i114 o115 n116 v117 b118 s119)]
  exact e
theorem st10_J0 {F : Fns} (h : FnsOk F) (i114 : Nat) (o115 : Nat) (n116 : Int) (v117 : V) (b118 : Bool) (s119 : List O) : OLe (txn_Manager_Commit.J0b (RD F) (DD F) F.f10.L1 i114 o115 n116 v117 b118 s119) (XC 10 .body txn_Manager_Commit.J0P (txn_Manager_Commit.J0F i114 o115 n116 v117 b118 s119)) := by
  intro o e
  refine exit_z (by kernel_rfl) (Z := ⟨RD F, DD F, xk 10 .body (xb10_0 F)⟩) ⟨RD_ok h, DD_ok h, xk_le (xb10_0_ok h)⟩ ?_
  rw [txn_Manager_Commit.J0b_eq]
  rw [show txn_Manager_Commit.L1 ⟨RD F, DD F, xk 10 .body (xb10_0 F)⟩ = F.f10.L1 from funext fun i145 => funext fun o146 => funext fun v147 => funext fun v148 => funext fun n149 => funext fun n150 => funext fun s151 => (show xk 10 .body (xb10_0 F) 10 .body txn_Manager_Commit.L1P (txn_Manager_Commit.L1F i145 o146 v147 v148 n149 n150 s151) = _ from by rw [xk_self]; exact xb10_0_L1 F i145 o146 v147 v148 n149 n150 s151)]
  exact e
theorem st10_L1 {F : Fns} (h : FnsOk F) (i145 : Nat) (o146 : Nat) (v147 : V) (v148 : V) (n149 : Int) (n150 : Int) (s151 : List O) : OLe (txn_Manager_Commit.L1b (RD F) (DD F) F.f10.J2 i145 o146 v147 v148 n149 n150 s151) (XC 10 .body txn_Manager_Commit.L1P (txn_Manager_Commit.L1F i145 o146 v147 v148 n149 n150 s151)) := by
  intro o e
  refine round_z (Z := ⟨RD F, DD F, xk 10 .body (xb10_0 F)⟩) ⟨RD_ok h, DD_ok h, xk_le (xb10_0_ok h)⟩ ?_
  rw [txn_Manager_Commit.L1b_eq]
  rw [show txn_Manager_Commit.J2 ⟨RD F, DD F, xk 10 .body (xb10_0 F)⟩ = F.f10.J2 from funext fun i164 => funext fun o165 => funext fun v166 => funext fun v167 => funext fun n168 => funext fun n169 => funext fun s170 => (show xk 10 .body (xb10_0 F) 10 .body txn_Manager_Commit.J2P (txn_Manager_Commit.J2F i164 o165 v166 v167 n168 n169 s170) = _ from by rw [xk_self]; exact xb10_0_J2 F i164 o165 v166 v167 n168 n169 s170)]
  exact e
theorem st10_J2 {F : Fns} (h : FnsOk F) (i164 : Nat) (o165 : Nat) (v166 : V) (v167 : V) (n168 : Int) (n169 : Int) (s170 : List O) : OLe (txn_Manager_Commit.J2b (RD F) (DD F) F.f10.L1 i164 o165 v166 v167 n168 n169 s170) (XC 10 .body txn_Manager_Commit.J2P (txn_Manager_Commit.J2F i164 o165 v166 v167 n168 n169 s170)) := by
  intro o e
  refine exit_z (by kernel_rfl) (Z := ⟨RD F, DD F, xk 10 .body (xb10_0 F)⟩) ⟨RD_ok h, DD_ok h, xk_le (xb10_0_ok h)⟩ ?_
  rw [txn_Manager_Commit.J2b_eq]
  rw [show txn_Manager_Commit.L1 ⟨RD F, DD F, xk 10 .body (xb10_0 F)⟩ = F.f10.L1 from funext fun i145 => funext fun o146 => funext fun v147 => funext fun v148 => funext fun n149 => funext fun n150 => funext fun s151 => (show xk 10 .body (xb10_0 F) 10 .body txn_Manager_Commit.L1P (txn_Manager_Commit.L1F i145 o146 v147 v148 n149 n150 s151) = _ from by rw [xk_self]; exact xb10_0_L1 F i145 o146 v147 v148 n149 n150 s151)]
  exact e
noncomputable def xb11_0 (F : Fns) (p : List Nat) (st : St) : R := bif beqP p txn_Manager_Rollback.L0P then pk st (txn_Manager_Rollback.L0F (gO1 (sV st 0)) (gO2 (sV st 0)) (sV st 5) (sV st 27) (gI (sV st 28)) (gI (sV st 29)) st.s) (F.f11.L0 (gO1 (sV st 0)) (gO2 (sV st 0)) (sV st 5) (sV st 27) (gI (sV st 28)) (gI (sV st 29)) st.s) else none
theorem xb11_0_ok {F : Fns} (h : FnsOk F) (p : List Nat) (st : St) : OLe (xb11_0 F p st) (XC 11 .body p st) := bq_le (g := fun p => XC 11 .body p st) (pk_le (XC 11 .body txn_Manager_Rollback.L0P) (h.f11.L0 _ _ _ _ _ _ _)) (OLe.none _)
theorem xb11_0_L0 (F : Fns) (i119 : Nat) (o120 : Nat) (v121 : V) (v122 : V) (n123 : Int) (n124 : Int) (s125 : List O) : xb11_0 F txn_Manager_Rollback.L0P (txn_Manager_Rollback.L0F i119 o120 v121 v122 n123 n124 s125) = F.f11.L0 i119 o120 v121 v122 n123 n124 s125 := (by kernel_rfl : _ = pk (txn_Manager_Rollback.L0F i119 o120 v121 v122 n123 n124 s125) (txn_Manager_Rollback.L0F i119 o120 v121 v122 n123 n124 s125) (F.f11.L0 i119 o120 v121 v122 n123 n124 s125)).trans (pk_self _ _)
theorem st11_b {F : Fns} (h : FnsOk F) (i0 : Nat) (o1 : Nat) (a2 : Int) (s : List O) : OLe (txn_Manager_Rollback.b (RD F) (DD F) F.f11.L0 i0 o1 a2 s) (RUN 11 [(V.obj i0 o1), (V.int .i64 a2)] s) := by
  intro o e
  refine body_z (Z := ⟨RD F, DD F, xk 11 .body (xb11_0 F)⟩) ⟨RD_ok h, DD_ok h, xk_le (xb11_0_ok h)⟩ ?_
  rw [txn_Manager_Rollback.b_eq]
  rw [show txn_Manager_Rollback.L0 ⟨RD F, DD F, xk 11 .body (xb11_0 F)⟩ = F.f11.L0 from funext fun i119 => funext fun o120 => funext fun v121 => funext fun v122 => funext fun n123 => funext fun n124 => funext fun s125 => (show xk 11 .body (xb11_0 F) 11 .body txn_Manager_Rollback.L0P (txn_Manager_Rollback.L0F i119 o120 v121 v122 n123 n124 s125) = _ from by rw [xk_self]; exact xb11_0_L0 F i119 o120 v121 v122 n123 n124 s125)]
  exact e
theorem st11_L0 {F : Fns} (h : FnsOk F) (i119 : Nat) (o120 : Nat) (v121 : V) (v122 : V) (n123 : Int) (n124 : Int) (s125 : List O) : OLe (txn_Manager_Rollback.L0b (RD F) (DD F) F.f11.L0 i119 o120 v121 v122 n123 n124 s125) (XC 11 .body txn_Manager_Rollback.L0P (txn_Manager_Rollback.L0F i119 o120 v121 v122 n123 n124 s125)) := by
  intro o e
  refine round_z (Z := ⟨RD F, DD F, xk 11 .body (xb11_0 F)⟩) ⟨RD_ok h, DD_ok h, xk_le (xb11_0_ok h)⟩ ?_
  rw [txn_Manager_Rollback.L0b_eq]
  rw [show txn_Manager_Rollback.L0 ⟨RD F, DD F, xk 11 .body (xb11_0 F)⟩ = F.f11.L0 from funext fun i119 => funext fun o120 => funext fun v121 => funext fun v122 => funext fun n123 => funext fun n124 => funext fun s125 => (show xk 11 .body (xb11_0 F) 11 .body txn_Manager_Rollback.L0P (txn_Manager_Rollback.L0F i119 o120 v121 v122 n123 n124 s125) = _ from by rw [xk_self]; exact xb11_0_L0 F i119 o120 v121 v122 n123 n124 s125)]
  exact e
theorem st12_b {F : Fns} (h : FnsOk F) (i0 : Nat) (o1 : Nat) (s : List O) : OLe (txn_Manager_Next.b (RD F) (DD F) i0 o1 s) (RUN 12 [(V.obj i0 o1)] s) := by
  intro o e
  refine body_z (Z := ⟨RD F, DD F, fun _ _ _ _ => none⟩) ⟨RD_ok h, DD_ok h, fun _ _ _ _ => OLe.none _⟩ ?_
  rw [txn_Manager_Next.b_eq]
  exact e
noncomputable def xb13_0 (F : Fns) (p : List Nat) (st : St) : R := bif beqP p txn_Manager_Tell.J0P then pk st (txn_Manager_Tell.J0F (gO1 (sV st 0)) (gO2 (sV st 0)) (gI (sV st 1)) (sV st 5) (gB (sV st 37)) (gI (cV st 0 0)) (gS (cV st 0 1)) (gI (cV st 1 0)) (cV st 1 1) st.s) (F.f13.J0 (gO1 (sV st 0)) (gO2 (sV st 0)) (gI (sV st 1)) (sV st 5) (gB (sV st 37)) (gI (cV st 0 0)) (gS (cV st 0 1)) (gI (cV st 1 0)) (cV st 1 1) st.s) else none
theorem xb13_0_ok {F : Fns} (h : FnsOk F) (p : List Nat) (st : St) : OLe (xb13_0 F p st) (XC 13 .body p st) := bq_le (g := fun p => XC 13 .body p st) (pk_le (XC 13 .body txn_Manager_Tell.J0P) (h.f13.J0 _ _ _ _ _ _ _ _ _ _)) (OLe.none _)
theorem xb13_0_J0 (F : Fns) (i166 : Nat) (o167 : Nat) (n168 : Int) (v169 : V) (b170 : Bool) (n171 : Int) (s172 : ByteArray) (n173 : Int) (v174 : V) (s175 : List O) : xb13_0 F txn_Manager_Tell.J0P (txn_Manager_Tell.J0F i166 o167 n168 v169 b170 n171 s172 n173 v174 s175) = F.f13.J0 i166 o167 n168 v169 b170 n171 s172 n173 v174 s175 := (by kernel_rfl : _ = pk (txn_Manager_Tell.J0F i166 o167 n168 v169 b170 n171 s172 n173 v174 s175) (txn_Manager_Tell.J0F i166 o167 n168 v169 b170 n171 s172 n173 v174 s175) (F.f13.J0 i166 o167 n168 v169 b170 n171 s172 n173 v174 s175)).trans (pk_self _ _)
theorem st13_b {F : Fns} (h : FnsOk F) (i0 : Nat) (o1 : Nat) (a2 : Int) (s : List O) : OLe (txn_Manager_Tell.b (RD F) (DD F) F.f13.J0 i0 o1 a2 s) (RUN 13 [(V.obj i0 o1), (V.int .i64 a2)] s) := by
  intro o e
  refine body_z (Z := ⟨RD F, DD F, xk 13 .body (xb13_0 F)⟩) ⟨RD_ok h, DD_ok h, xk_le (xb13_0_ok h)⟩ ?_
  rw [txn_Manager_Tell.b_eq]
  rw [show txn_Manager_Tell.J0 ⟨RD F, DD F, xk 13 .body (xb13_0 F)⟩ = F.f13.J0 from funext fun i166 => funext fun o167 => funext fun n168 => funext fun v169 => funext fun b170 => funext fun n171 => funext fun s172 => funext fun n173 => funext fun v174 => funext fun s175 => (show xk 13 .body (xb13_0 F) 13 .body txn_Manager_Tell.J0P (txn_Manager_Tell.J0F i166 o167 n168 v169 b170 n171 s172 n173 v174 s175) = _ from by rw [xk_self]; exact xb13_0_J0 F i166 o167 n168 v169 b170 n171 s172 n173 v174 s175)]
  exact e
theorem st13_J0 {F : Fns} (h : FnsOk F) (i166 : Nat) (o167 : Nat) (n168 : Int) (v169 : V) (b170 : Bool) (n171 : Int) (s172 : ByteArray) (n173 : Int) (v174 : V) (s175 : List O) : OLe (txn_Manager_Tell.J0b (RD F) (DD F) i166 o167 n168 v169 b170 n171 s172 n173 v174 s175) (XC 13 .body txn_Manager_Tell.J0P (txn_Manager_Tell.J0F i166 o167 n168 v169 b170 n171 s172 n173 v174 s175)) := by
  intro o e
  refine exit_z (by kernel_rfl) (Z := ⟨RD F, DD F, xk 13 .body (xb13_0 F)⟩) ⟨RD_ok h, DD_ok h, xk_le (xb13_0_ok h)⟩ ?_
  rw [txn_Manager_Tell.J0b_eq]
  exact e
theorem st14_b {F : Fns} (h : FnsOk F) (i0 : Nat) (o1 : Nat) (a2 : Int) (s : List O) : OLe (txn_Manager_Resources.b (RD F) (DD F) i0 o1 a2 s) (RUN 14 [(V.obj i0 o1), (V.int .i64 a2)] s) := by
  intro o e
  refine body_z (Z := ⟨RD F, DD F, fun _ _ _ _ => none⟩) ⟨RD_ok h, DD_ok h, fun _ _ _ _ => OLe.none _⟩ ?_
  rw [txn_Manager_Resources.b_eq]
  exact e
noncomputable def xb15_0 (F : Fns) (p : List Nat) (st : St) : R := bif beqP p ref12_SameTexts.L0P then pk st (ref12_SameTexts.L0F (sV st 0) (sV st 1) (gI (sV st 12)) (gI (sV st 13)) st.s) (F.f15.L0 (sV st 0) (sV st 1) (gI (sV st 12)) (gI (sV st 13)) st.s) else bif beqP p ref12_SameTexts.J1P then pk st (ref12_SameTexts.J1F (sV st 0) (sV st 1) (gI (sV st 12)) (gI (sV st 13)) st.s) (F.f15.J1 (sV st 0) (sV st 1) (gI (sV st 12)) (gI (sV st 13)) st.s) else none
theorem xb15_0_ok {F : Fns} (h : FnsOk F) (p : List Nat) (st : St) : OLe (xb15_0 F p st) (XC 15 .body p st) := bq_le (g := fun p => XC 15 .body p st) (pk_le (XC 15 .body ref12_SameTexts.L0P) (h.f15.L0 _ _ _ _ _)) (bq_le (g := fun p => XC 15 .body p st) (pk_le (XC 15 .body ref12_SameTexts.J1P) (h.f15.J1 _ _ _ _ _)) (OLe.none _))
theorem xb15_0_L0 (F : Fns) (v103 : V) (v104 : V) (n105 : Int) (n106 : Int) (s107 : List O) : xb15_0 F ref12_SameTexts.L0P (ref12_SameTexts.L0F v103 v104 n105 n106 s107) = F.f15.L0 v103 v104 n105 n106 s107 := (by kernel_rfl : _ = pk (ref12_SameTexts.L0F v103 v104 n105 n106 s107) (ref12_SameTexts.L0F v103 v104 n105 n106 s107) (F.f15.L0 v103 v104 n105 n106 s107)).trans (pk_self _ _)
theorem xb15_0_J1 (F : Fns) (v114 : V) (v115 : V) (n116 : Int) (n117 : Int) (s118 : List O) : xb15_0 F ref12_SameTexts.J1P (ref12_SameTexts.J1F v114 v115 n116 n117 s118) = F.f15.J1 v114 v115 n116 n117 s118 := (by kernel_rfl : _ = pk (ref12_SameTexts.J1F v114 v115 n116 n117 s118) (ref12_SameTexts.J1F v114 v115 n116 n117 s118) (F.f15.J1 v114 v115 n116 n117 s118)).trans (pk_self _ _)
theorem st15_b {F : Fns} (h : FnsOk F) (v0 : V) (v1 : V) (s : List O) : OLe (ref12_SameTexts.b (RD F) (DD F) F.f15.L0 v0 v1 s) (RUN 15 [v0, v1] s) := by
  intro o e
  refine body_z (Z := ⟨RD F, DD F, xk 15 .body (xb15_0 F)⟩) ⟨RD_ok h, DD_ok h, xk_le (xb15_0_ok h)⟩ ?_
  rw [ref12_SameTexts.b_eq]
  rw [show ref12_SameTexts.L0 ⟨RD F, DD F, xk 15 .body (xb15_0 F)⟩ = F.f15.L0 from funext fun v103 => funext fun v104 => funext fun n105 => funext fun n106 => funext fun s107 => (show xk 15 .body (xb15_0 F) 15 .body ref12_SameTexts.L0P (ref12_SameTexts.L0F v103 v104 n105 n106 s107) = _ from by rw [xk_self]; exact xb15_0_L0 F v103 v104 n105 n106 s107)]
  exact e
theorem st15_L0 {F : Fns} (h : FnsOk F) (v103 : V) (v104 : V) (n105 : Int) (n106 : Int) (s107 : List O) : OLe (ref12_SameTexts.L0b (RD F) (DD F) F.f15.J1 v103 v104 n105 n106 s107) (XC 15 .body ref12_SameTexts.L0P (ref12_SameTexts.L0F v103 v104 n105 n106 s107)) := by
  intro o e
  refine round_z (Z := ⟨RD F, DD F, xk 15 .body (xb15_0 F)⟩) ⟨RD_ok h, DD_ok h, xk_le (xb15_0_ok h)⟩ ?_
  rw [ref12_SameTexts.L0b_eq]
  rw [show ref12_SameTexts.J1 ⟨RD F, DD F, xk 15 .body (xb15_0 F)⟩ = F.f15.J1 from funext fun v114 => funext fun v115 => funext fun n116 => funext fun n117 => funext fun s118 => (show xk 15 .body (xb15_0 F) 15 .body ref12_SameTexts.J1P (ref12_SameTexts.J1F v114 v115 n116 n117 s118) = _ from by rw [xk_self]; exact xb15_0_J1 F v114 v115 n116 n117 s118)]
  exact e
theorem st15_J1 {F : Fns} (h : FnsOk F) (v114 : V) (v115 : V) (n116 : Int) (n117 : Int) (s118 : List O) : OLe (ref12_SameTexts.J1b (RD F) (DD F) F.f15.L0 v114 v115 n116 n117 s118) (XC 15 .body ref12_SameTexts.J1P (ref12_SameTexts.J1F v114 v115 n116 n117 s118)) := by
  intro o e
  refine exit_z (by kernel_rfl) (Z := ⟨RD F, DD F, xk 15 .body (xb15_0 F)⟩) ⟨RD_ok h, DD_ok h, xk_le (xb15_0_ok h)⟩ ?_
  rw [ref12_SameTexts.J1b_eq]
  rw [show ref12_SameTexts.L0 ⟨RD F, DD F, xk 15 .body (xb15_0 F)⟩ = F.f15.L0 from funext fun v103 => funext fun v104 => funext fun n105 => funext fun n106 => funext fun s107 => (show xk 15 .body (xb15_0 F) 15 .body ref12_SameTexts.L0P (ref12_SameTexts.L0F v103 v104 n105 n106 s107) = _ from by rw [xk_self]; exact xb15_0_L0 F v103 v104 n105 n106 s107)]
  exact e
theorem st16_b {F : Fns} (h : FnsOk F) (i0 : Nat) (o1 : Nat) (a2 : Int) (s : List O) : OLe (txn_Manager_State.b (RD F) (DD F) i0 o1 a2 s) (RUN 16 [(V.obj i0 o1), (V.int .i64 a2)] s) := by
  intro o e
  refine body_z (Z := ⟨RD F, DD F, fun _ _ _ _ => none⟩) ⟨RD_ok h, DD_ok h, fun _ _ _ _ => OLe.none _⟩ ?_
  rw [txn_Manager_State.b_eq]
  exact e
theorem st20_b {F : Fns} (h : FnsOk F) (i0 : Nat) (o1 : Nat) (s : List O) : OLe (txn_Manager_Log.b (RD F) (DD F) i0 o1 s) (RUN 20 [(V.obj i0 o1)] s) := by
  intro o e
  refine body_z (Z := ⟨RD F, DD F, fun _ _ _ _ => none⟩) ⟨RD_ok h, DD_ok h, fun _ _ _ _ => OLe.none _⟩ ?_
  rw [txn_Manager_Log.b_eq]
  exact e
theorem st25_b {F : Fns} (h : FnsOk F) (i0 : Nat) (o1 : Nat) (a2 : Int) (s : List O) : OLe (txn_Manager_find.b (RD F) (DD F) i0 o1 a2 s) (RUN 25 [(V.obj i0 o1), (V.int .i64 a2)] s) := by
  intro o e
  refine body_z (Z := ⟨RD F, DD F, fun _ _ _ _ => none⟩) ⟨RD_ok h, DD_ok h, fun _ _ _ _ => OLe.none _⟩ ?_
  rw [txn_Manager_find.b_eq]
  exact e
theorem st26_b {F : Fns} (h : FnsOk F) (i0 : Nat) (o1 : Nat) (a2 : Int) (a3 : ByteArray) (v4 : V) (s : List O) : OLe (txn_Manager_add.b (RD F) (DD F) i0 o1 a2 a3 v4 s) (RUN 26 [(V.obj i0 o1), (V.int .i64 a2), (V.str a3), v4] s) := by
  intro o e
  refine body_z (Z := ⟨RD F, DD F, fun _ _ _ _ => none⟩) ⟨RD_ok h, DD_ok h, fun _ _ _ _ => OLe.none _⟩ ?_
  rw [txn_Manager_add.b_eq]
  exact e
theorem st27_b {F : Fns} (h : FnsOk F) (i0 : Nat) (o1 : Nat) (s : List O) : OLe (txn_Manager_Enlist_1.b (RD F) (DD F) i0 o1 s) (RUN 27 [(V.obj i0 o1)] s) := by
  intro o e
  refine body_z (Z := ⟨RD F, DD F, fun _ _ _ _ => none⟩) ⟨RD_ok h, DD_ok h, fun _ _ _ _ => OLe.none _⟩ ?_
  rw [txn_Manager_Enlist_1.b_eq]
  exact e
noncomputable def xb28_0 (F : Fns) (p : List Nat) (st : St) : R := bif beqP p txn_Manager_kids.L0P then pk st (txn_Manager_kids.L0F (gO1 (sV st 0)) (gO2 (sV st 0)) (gI (sV st 1)) (sV st 5) (gI (sV st 6)) st.s) (F.f28.L0 (gO1 (sV st 0)) (gO2 (sV st 0)) (gI (sV st 1)) (sV st 5) (gI (sV st 6)) st.s) else bif beqP p txn_Manager_kids.J1P then pk st (txn_Manager_kids.J1F (gO1 (sV st 0)) (gO2 (sV st 0)) (gI (sV st 1)) (sV st 5) (gI (sV st 6)) (sV st 7) (gB (sV st 40)) st.s) (F.f28.J1 (gO1 (sV st 0)) (gO2 (sV st 0)) (gI (sV st 1)) (sV st 5) (gI (sV st 6)) (sV st 7) (gB (sV st 40)) st.s) else bif beqP p txn_Manager_kids.J2P then pk st (txn_Manager_kids.J2F (gO1 (sV st 0)) (gO2 (sV st 0)) (gI (sV st 1)) (sV st 5) (gI (sV st 6)) st.s) (F.f28.J2 (gO1 (sV st 0)) (gO2 (sV st 0)) (gI (sV st 1)) (sV st 5) (gI (sV st 6)) st.s) else none
theorem xb28_0_ok {F : Fns} (h : FnsOk F) (p : List Nat) (st : St) : OLe (xb28_0 F p st) (XC 28 .body p st) := bq_le (g := fun p => XC 28 .body p st) (pk_le (XC 28 .body txn_Manager_kids.L0P) (h.f28.L0 _ _ _ _ _ _)) (bq_le (g := fun p => XC 28 .body p st) (pk_le (XC 28 .body txn_Manager_kids.J1P) (h.f28.J1 _ _ _ _ _ _ _ _)) (bq_le (g := fun p => XC 28 .body p st) (pk_le (XC 28 .body txn_Manager_kids.J2P) (h.f28.J2 _ _ _ _ _ _)) (OLe.none _)))
theorem xb28_0_L0 (F : Fns) (i102 : Nat) (o103 : Nat) (n104 : Int) (v105 : V) (n106 : Int) (s107 : List O) : xb28_0 F txn_Manager_kids.L0P (txn_Manager_kids.L0F i102 o103 n104 v105 n106 s107) = F.f28.L0 i102 o103 n104 v105 n106 s107 := (by kernel_rfl : _ = pk (txn_Manager_kids.L0F i102 o103 n104 v105 n106 s107) (txn_Manager_kids.L0F i102 o103 n104 v105 n106 s107) (F.f28.L0 i102 o103 n104 v105 n106 s107)).trans (pk_self _ _)
theorem xb28_0_J1 (F : Fns) (i122 : Nat) (o123 : Nat) (n124 : Int) (v125 : V) (n126 : Int) (v127 : V) (b128 : Bool) (s129 : List O) : xb28_0 F txn_Manager_kids.J1P (txn_Manager_kids.J1F i122 o123 n124 v125 n126 v127 b128 s129) = F.f28.J1 i122 o123 n124 v125 n126 v127 b128 s129 := (by kernel_rfl : _ = pk (txn_Manager_kids.J1F i122 o123 n124 v125 n126 v127 b128 s129) (txn_Manager_kids.J1F i122 o123 n124 v125 n126 v127 b128 s129) (F.f28.J1 i122 o123 n124 v125 n126 v127 b128 s129)).trans (pk_self _ _)
theorem xb28_0_J2 (F : Fns) (i131 : Nat) (o132 : Nat) (n133 : Int) (v134 : V) (n135 : Int) (s136 : List O) : xb28_0 F txn_Manager_kids.J2P (txn_Manager_kids.J2F i131 o132 n133 v134 n135 s136) = F.f28.J2 i131 o132 n133 v134 n135 s136 := (by kernel_rfl : _ = pk (txn_Manager_kids.J2F i131 o132 n133 v134 n135 s136) (txn_Manager_kids.J2F i131 o132 n133 v134 n135 s136) (F.f28.J2 i131 o132 n133 v134 n135 s136)).trans (pk_self _ _)
theorem st28_b {F : Fns} (h : FnsOk F) (i0 : Nat) (o1 : Nat) (a2 : Int) (s : List O) : OLe (txn_Manager_kids.b (RD F) (DD F) F.f28.L0 i0 o1 a2 s) (RUN 28 [(V.obj i0 o1), (V.int .i64 a2)] s) := by
  intro o e
  refine body_z (Z := ⟨RD F, DD F, xk 28 .body (xb28_0 F)⟩) ⟨RD_ok h, DD_ok h, xk_le (xb28_0_ok h)⟩ ?_
  rw [txn_Manager_kids.b_eq]
  rw [show txn_Manager_kids.L0 ⟨RD F, DD F, xk 28 .body (xb28_0 F)⟩ = F.f28.L0 from funext fun i102 => funext fun o103 => funext fun n104 => funext fun v105 => funext fun n106 => funext fun s107 => (show xk 28 .body (xb28_0 F) 28 .body txn_Manager_kids.L0P (txn_Manager_kids.L0F i102 o103 n104 v105 n106 s107) = _ from by rw [xk_self]; exact xb28_0_L0 F i102 o103 n104 v105 n106 s107)]
  exact e
theorem st28_L0 {F : Fns} (h : FnsOk F) (i102 : Nat) (o103 : Nat) (n104 : Int) (v105 : V) (n106 : Int) (s107 : List O) : OLe (txn_Manager_kids.L0b (RD F) (DD F) F.f28.J1 i102 o103 n104 v105 n106 s107) (XC 28 .body txn_Manager_kids.L0P (txn_Manager_kids.L0F i102 o103 n104 v105 n106 s107)) := by
  intro o e
  refine round_z (Z := ⟨RD F, DD F, xk 28 .body (xb28_0 F)⟩) ⟨RD_ok h, DD_ok h, xk_le (xb28_0_ok h)⟩ ?_
  rw [txn_Manager_kids.L0b_eq]
  rw [show txn_Manager_kids.J1 ⟨RD F, DD F, xk 28 .body (xb28_0 F)⟩ = F.f28.J1 from funext fun i122 => funext fun o123 => funext fun n124 => funext fun v125 => funext fun n126 => funext fun v127 => funext fun b128 => funext fun s129 => (show xk 28 .body (xb28_0 F) 28 .body txn_Manager_kids.J1P (txn_Manager_kids.J1F i122 o123 n124 v125 n126 v127 b128 s129) = _ from by rw [xk_self]; exact xb28_0_J1 F i122 o123 n124 v125 n126 v127 b128 s129)]
  exact e
theorem st28_J1 {F : Fns} (h : FnsOk F) (i122 : Nat) (o123 : Nat) (n124 : Int) (v125 : V) (n126 : Int) (v127 : V) (b128 : Bool) (s129 : List O) : OLe (txn_Manager_kids.J1b (RD F) (DD F) F.f28.J2 i122 o123 n124 v125 n126 v127 b128 s129) (XC 28 .body txn_Manager_kids.J1P (txn_Manager_kids.J1F i122 o123 n124 v125 n126 v127 b128 s129)) := by
  intro o e
  refine exit_z (by kernel_rfl) (Z := ⟨RD F, DD F, xk 28 .body (xb28_0 F)⟩) ⟨RD_ok h, DD_ok h, xk_le (xb28_0_ok h)⟩ ?_
  rw [txn_Manager_kids.J1b_eq]
  rw [show txn_Manager_kids.J2 ⟨RD F, DD F, xk 28 .body (xb28_0 F)⟩ = F.f28.J2 from funext fun i131 => funext fun o132 => funext fun n133 => funext fun v134 => funext fun n135 => funext fun s136 => (show xk 28 .body (xb28_0 F) 28 .body txn_Manager_kids.J2P (txn_Manager_kids.J2F i131 o132 n133 v134 n135 s136) = _ from by rw [xk_self]; exact xb28_0_J2 F i131 o132 n133 v134 n135 s136)]
  exact e
theorem st28_J2 {F : Fns} (h : FnsOk F) (i131 : Nat) (o132 : Nat) (n133 : Int) (v134 : V) (n135 : Int) (s136 : List O) : OLe (txn_Manager_kids.J2b (RD F) (DD F) F.f28.L0 i131 o132 n133 v134 n135 s136) (XC 28 .body txn_Manager_kids.J2P (txn_Manager_kids.J2F i131 o132 n133 v134 n135 s136)) := by
  intro o e
  refine exit_z (by kernel_rfl) (Z := ⟨RD F, DD F, xk 28 .body (xb28_0 F)⟩) ⟨RD_ok h, DD_ok h, xk_le (xb28_0_ok h)⟩ ?_
  rw [txn_Manager_kids.J2b_eq]
  rw [show txn_Manager_kids.L0 ⟨RD F, DD F, xk 28 .body (xb28_0 F)⟩ = F.f28.L0 from funext fun i102 => funext fun o103 => funext fun n104 => funext fun v105 => funext fun n106 => funext fun s107 => (show xk 28 .body (xb28_0 F) 28 .body txn_Manager_kids.L0P (txn_Manager_kids.L0F i102 o103 n104 v105 n106 s107) = _ from by rw [xk_self]; exact xb28_0_L0 F i102 o103 n104 v105 n106 s107)]
  exact e
noncomputable def xb29_0 (F : Fns) (p : List Nat) (st : St) : R := bif beqP p txn_Manager_merge.J0P then pk st (txn_Manager_merge.J0F (gO1 (sV st 1)) (gO2 (sV st 1)) (sV st 5) (sV st 7) (sV st 8) (gB (sV st 51)) st.s) (F.f29.J0 (gO1 (sV st 1)) (gO2 (sV st 1)) (sV st 5) (sV st 7) (sV st 8) (gB (sV st 51)) st.s) else none
theorem xb29_0_ok {F : Fns} (h : FnsOk F) (p : List Nat) (st : St) : OLe (xb29_0 F p st) (XC 29 .body p st) := bq_le (g := fun p => XC 29 .body p st) (pk_le (XC 29 .body txn_Manager_merge.J0P) (h.f29.J0 _ _ _ _ _ _ _)) (OLe.none _)
theorem xb29_0_J0 (F : Fns) (i132 : Nat) (o133 : Nat) (v134 : V) (v135 : V) (v136 : V) (b137 : Bool) (s138 : List O) : xb29_0 F txn_Manager_merge.J0P (txn_Manager_merge.J0F i132 o133 v134 v135 v136 b137 s138) = F.f29.J0 i132 o133 v134 v135 v136 b137 s138 := (by kernel_rfl : _ = pk (txn_Manager_merge.J0F i132 o133 v134 v135 v136 b137 s138) (txn_Manager_merge.J0F i132 o133 v134 v135 v136 b137 s138) (F.f29.J0 i132 o133 v134 v135 v136 b137 s138)).trans (pk_self _ _)
theorem st29_b {F : Fns} (h : FnsOk F) (i0 : Nat) (o1 : Nat) (i2 : Nat) (o3 : Nat) (s : List O) : OLe (txn_Manager_merge.b (RD F) (DD F) F.f29.J0 i0 o1 i2 o3 s) (RUN 29 [(V.obj i0 o1), (V.obj i2 o3)] s) := by
  intro o e
  refine body_z (Z := ⟨RD F, DD F, xk 29 .body (xb29_0 F)⟩) ⟨RD_ok h, DD_ok h, xk_le (xb29_0_ok h)⟩ ?_
  rw [txn_Manager_merge.b_eq]
  rw [show txn_Manager_merge.J0 ⟨RD F, DD F, xk 29 .body (xb29_0 F)⟩ = F.f29.J0 from funext fun i132 => funext fun o133 => funext fun v134 => funext fun v135 => funext fun v136 => funext fun b137 => funext fun s138 => (show xk 29 .body (xb29_0 F) 29 .body txn_Manager_merge.J0P (txn_Manager_merge.J0F i132 o133 v134 v135 v136 b137 s138) = _ from by rw [xk_self]; exact xb29_0_J0 F i132 o133 v134 v135 v136 b137 s138)]
  exact e
theorem st29_J0 {F : Fns} (h : FnsOk F) (i132 : Nat) (o133 : Nat) (v134 : V) (v135 : V) (v136 : V) (b137 : Bool) (s138 : List O) : OLe (txn_Manager_merge.J0b (RD F) (DD F) i132 o133 v134 v135 v136 b137 s138) (XC 29 .body txn_Manager_merge.J0P (txn_Manager_merge.J0F i132 o133 v134 v135 v136 b137 s138)) := by
  intro o e
  refine exit_z (by kernel_rfl) (Z := ⟨RD F, DD F, xk 29 .body (xb29_0 F)⟩) ⟨RD_ok h, DD_ok h, xk_le (xb29_0_ok h)⟩ ?_
  rw [txn_Manager_merge.J0b_eq]
  exact e
noncomputable def xb30_0 (F : Fns) (p : List Nat) (st : St) : R := bif beqP p txn_Manager_settle.L0P then pk st (txn_Manager_settle.L0F (gO1 (sV st 0)) (gO2 (sV st 0)) (gO1 (List.getD (gC (sV st 3)) 0 V.undef)) (gO2 (List.getD (gC (sV st 3)) 0 V.undef)) (gB (sV st 4)) st.s) (F.f30.L0 (gO1 (sV st 0)) (gO2 (sV st 0)) (gO1 (List.getD (gC (sV st 3)) 0 V.undef)) (gO2 (List.getD (gC (sV st 3)) 0 V.undef)) (gB (sV st 4)) st.s) else bif beqP p txn_Manager_settle.J1P then pk st (txn_Manager_settle.J1F (gO1 (sV st 0)) (gO2 (sV st 0)) (gO1 (List.getD (gC (sV st 3)) 0 V.undef)) (gO2 (List.getD (gC (sV st 3)) 0 V.undef)) (gB (sV st 15)) st.s) (F.f30.J1 (gO1 (sV st 0)) (gO2 (sV st 0)) (gO1 (List.getD (gC (sV st 3)) 0 V.undef)) (gO2 (List.getD (gC (sV st 3)) 0 V.undef)) (gB (sV st 15)) st.s) else bif beqP p txn_Manager_settle.J2P then pk st (txn_Manager_settle.J2F (gO1 (sV st 0)) (gO2 (sV st 0)) (gO1 (List.getD (gC (sV st 3)) 0 V.undef)) (gO2 (List.getD (gC (sV st 3)) 0 V.undef)) (gB (sV st 4)) st.s) (F.f30.J2 (gO1 (sV st 0)) (gO2 (sV st 0)) (gO1 (List.getD (gC (sV st 3)) 0 V.undef)) (gO2 (List.getD (gC (sV st 3)) 0 V.undef)) (gB (sV st 4)) st.s) else bif beqP p txn_Manager_settle.J3P then pk st (txn_Manager_settle.J3F (gO1 (sV st 0)) (gO2 (sV st 0)) (gO1 (List.getD (gC (sV st 3)) 0 V.undef)) (gO2 (List.getD (gC (sV st 3)) 0 V.undef)) (gB (sV st 44)) st.s) (F.f30.J3 (gO1 (sV st 0)) (gO2 (sV st 0)) (gO1 (List.getD (gC (sV st 3)) 0 V.undef)) (gO2 (List.getD (gC (sV st 3)) 0 V.undef)) (gB (sV st 44)) st.s) else bif beqP p txn_Manager_settle.J4P then pk st (txn_Manager_settle.J4F st.s) (F.f30.J4 st.s) else none
theorem xb30_0_ok {F : Fns} (h : FnsOk F) (p : List Nat) (st : St) : OLe (xb30_0 F p st) (XC 30 .body p st) := bq_le (g := fun p => XC 30 .body p st) (pk_le (XC 30 .body txn_Manager_settle.L0P) (h.f30.L0 _ _ _ _ _ _)) (bq_le (g := fun p => XC 30 .body p st) (pk_le (XC 30 .body txn_Manager_settle.J1P) (h.f30.J1 _ _ _ _ _ _)) (bq_le (g := fun p => XC 30 .body p st) (pk_le (XC 30 .body txn_Manager_settle.J2P) (h.f30.J2 _ _ _ _ _ _)) (bq_le (g := fun p => XC 30 .body p st) (pk_le (XC 30 .body txn_Manager_settle.J3P) (h.f30.J3 _ _ _ _ _ _)) (bq_le (g := fun p => XC 30 .body p st) (pk_le (XC 30 .body txn_Manager_settle.J4P) (h.f30.J4 _)) (OLe.none _)))))
theorem xb30_0_L0 (F : Fns) (i100 : Nat) (o101 : Nat) (i102 : Nat) (o103 : Nat) (b104 : Bool) (s105 : List O) : xb30_0 F txn_Manager_settle.L0P (txn_Manager_settle.L0F i100 o101 i102 o103 b104 s105) = F.f30.L0 i100 o101 i102 o103 b104 s105 := (by kernel_rfl : _ = pk (txn_Manager_settle.L0F i100 o101 i102 o103 b104 s105) (txn_Manager_settle.L0F i100 o101 i102 o103 b104 s105) (F.f30.L0 i100 o101 i102 o103 b104 s105)).trans (pk_self _ _)
theorem xb30_0_J1 (F : Fns) (i109 : Nat) (o110 : Nat) (i111 : Nat) (o112 : Nat) (b113 : Bool) (s114 : List O) : xb30_0 F txn_Manager_settle.J1P (txn_Manager_settle.J1F i109 o110 i111 o112 b113 s114) = F.f30.J1 i109 o110 i111 o112 b113 s114 := (by kernel_rfl : _ = pk (txn_Manager_settle.J1F i109 o110 i111 o112 b113 s114) (txn_Manager_settle.J1F i109 o110 i111 o112 b113 s114) (F.f30.J1 i109 o110 i111 o112 b113 s114)).trans (pk_self _ _)
theorem xb30_0_J2 (F : Fns) (i130 : Nat) (o131 : Nat) (i132 : Nat) (o133 : Nat) (b134 : Bool) (s135 : List O) : xb30_0 F txn_Manager_settle.J2P (txn_Manager_settle.J2F i130 o131 i132 o133 b134 s135) = F.f30.J2 i130 o131 i132 o133 b134 s135 := (by kernel_rfl : _ = pk (txn_Manager_settle.J2F i130 o131 i132 o133 b134 s135) (txn_Manager_settle.J2F i130 o131 i132 o133 b134 s135) (F.f30.J2 i130 o131 i132 o133 b134 s135)).trans (pk_self _ _)
theorem xb30_0_J3 (F : Fns) (i156 : Nat) (o157 : Nat) (i158 : Nat) (o159 : Nat) (b160 : Bool) (s161 : List O) : xb30_0 F txn_Manager_settle.J3P (txn_Manager_settle.J3F i156 o157 i158 o159 b160 s161) = F.f30.J3 i156 o157 i158 o159 b160 s161 := (by kernel_rfl : _ = pk (txn_Manager_settle.J3F i156 o157 i158 o159 b160 s161) (txn_Manager_settle.J3F i156 o157 i158 o159 b160 s161) (F.f30.J3 i156 o157 i158 o159 b160 s161)).trans (pk_self _ _)
theorem xb30_0_J4 (F : Fns) (s168 : List O) : xb30_0 F txn_Manager_settle.J4P (txn_Manager_settle.J4F s168) = F.f30.J4 s168 := (by kernel_rfl : _ = pk (txn_Manager_settle.J4F s168) (txn_Manager_settle.J4F s168) (F.f30.J4 s168)).trans (pk_self _ _)
theorem st30_b {F : Fns} (h : FnsOk F) (i0 : Nat) (o1 : Nat) (i2 : Nat) (o3 : Nat) (s : List O) : OLe (txn_Manager_settle.b (RD F) (DD F) F.f30.L0 i0 o1 i2 o3 s) (RUN 30 [(V.obj i0 o1), (V.obj i2 o3)] s) := by
  intro o e
  refine body_z (Z := ⟨RD F, DD F, xk 30 .body (xb30_0 F)⟩) ⟨RD_ok h, DD_ok h, xk_le (xb30_0_ok h)⟩ ?_
  rw [txn_Manager_settle.b_eq]
  rw [show txn_Manager_settle.L0 ⟨RD F, DD F, xk 30 .body (xb30_0 F)⟩ = F.f30.L0 from funext fun i100 => funext fun o101 => funext fun i102 => funext fun o103 => funext fun b104 => funext fun s105 => (show xk 30 .body (xb30_0 F) 30 .body txn_Manager_settle.L0P (txn_Manager_settle.L0F i100 o101 i102 o103 b104 s105) = _ from by rw [xk_self]; exact xb30_0_L0 F i100 o101 i102 o103 b104 s105)]
  exact e
theorem st30_L0 {F : Fns} (h : FnsOk F) (i100 : Nat) (o101 : Nat) (i102 : Nat) (o103 : Nat) (b104 : Bool) (s105 : List O) : OLe (txn_Manager_settle.L0b (RD F) (DD F) F.f30.J1 i100 o101 i102 o103 b104 s105) (XC 30 .body txn_Manager_settle.L0P (txn_Manager_settle.L0F i100 o101 i102 o103 b104 s105)) := by
  intro o e
  refine round_z (Z := ⟨RD F, DD F, xk 30 .body (xb30_0 F)⟩) ⟨RD_ok h, DD_ok h, xk_le (xb30_0_ok h)⟩ ?_
  rw [txn_Manager_settle.L0b_eq]
  rw [show txn_Manager_settle.J1 ⟨RD F, DD F, xk 30 .body (xb30_0 F)⟩ = F.f30.J1 from funext fun i109 => funext fun o110 => funext fun i111 => funext fun o112 => funext fun b113 => funext fun s114 => (show xk 30 .body (xb30_0 F) 30 .body txn_Manager_settle.J1P (txn_Manager_settle.J1F i109 o110 i111 o112 b113 s114) = _ from by rw [xk_self]; exact xb30_0_J1 F i109 o110 i111 o112 b113 s114)]
  exact e
theorem st30_J1 {F : Fns} (h : FnsOk F) (i109 : Nat) (o110 : Nat) (i111 : Nat) (o112 : Nat) (b113 : Bool) (s114 : List O) : OLe (txn_Manager_settle.J1b (RD F) (DD F) F.f30.J2 F.f30.J3 i109 o110 i111 o112 b113 s114) (XC 30 .body txn_Manager_settle.J1P (txn_Manager_settle.J1F i109 o110 i111 o112 b113 s114)) := by
  intro o e
  refine exit_z (by kernel_rfl) (Z := ⟨RD F, DD F, xk 30 .body (xb30_0 F)⟩) ⟨RD_ok h, DD_ok h, xk_le (xb30_0_ok h)⟩ ?_
  rw [txn_Manager_settle.J1b_eq]
  rw [show txn_Manager_settle.J2 ⟨RD F, DD F, xk 30 .body (xb30_0 F)⟩ = F.f30.J2 from funext fun i130 => funext fun o131 => funext fun i132 => funext fun o133 => funext fun b134 => funext fun s135 => (show xk 30 .body (xb30_0 F) 30 .body txn_Manager_settle.J2P (txn_Manager_settle.J2F i130 o131 i132 o133 b134 s135) = _ from by rw [xk_self]; exact xb30_0_J2 F i130 o131 i132 o133 b134 s135)]
  rw [show txn_Manager_settle.J3 ⟨RD F, DD F, xk 30 .body (xb30_0 F)⟩ = F.f30.J3 from funext fun i156 => funext fun o157 => funext fun i158 => funext fun o159 => funext fun b160 => funext fun s161 => (show xk 30 .body (xb30_0 F) 30 .body txn_Manager_settle.J3P (txn_Manager_settle.J3F i156 o157 i158 o159 b160 s161) = _ from by rw [xk_self]; exact xb30_0_J3 F i156 o157 i158 o159 b160 s161)]
  exact e
theorem st30_J2 {F : Fns} (h : FnsOk F) (i130 : Nat) (o131 : Nat) (i132 : Nat) (o133 : Nat) (b134 : Bool) (s135 : List O) : OLe (txn_Manager_settle.J2b (RD F) (DD F) F.f30.L0 i130 o131 i132 o133 b134 s135) (XC 30 .body txn_Manager_settle.J2P (txn_Manager_settle.J2F i130 o131 i132 o133 b134 s135)) := by
  intro o e
  refine exit_z (by kernel_rfl) (Z := ⟨RD F, DD F, xk 30 .body (xb30_0 F)⟩) ⟨RD_ok h, DD_ok h, xk_le (xb30_0_ok h)⟩ ?_
  rw [txn_Manager_settle.J2b_eq]
  rw [show txn_Manager_settle.L0 ⟨RD F, DD F, xk 30 .body (xb30_0 F)⟩ = F.f30.L0 from funext fun i100 => funext fun o101 => funext fun i102 => funext fun o103 => funext fun b104 => funext fun s105 => (show xk 30 .body (xb30_0 F) 30 .body txn_Manager_settle.L0P (txn_Manager_settle.L0F i100 o101 i102 o103 b104 s105) = _ from by rw [xk_self]; exact xb30_0_L0 F i100 o101 i102 o103 b104 s105)]
  exact e
theorem st30_J3 {F : Fns} (h : FnsOk F) (i156 : Nat) (o157 : Nat) (i158 : Nat) (o159 : Nat) (b160 : Bool) (s161 : List O) : OLe (txn_Manager_settle.J3b (RD F) (DD F) F.f30.J4 i156 o157 i158 o159 b160 s161) (XC 30 .body txn_Manager_settle.J3P (txn_Manager_settle.J3F i156 o157 i158 o159 b160 s161)) := by
  intro o e
  refine exit_z (by kernel_rfl) (Z := ⟨RD F, DD F, xk 30 .body (xb30_0 F)⟩) ⟨RD_ok h, DD_ok h, xk_le (xb30_0_ok h)⟩ ?_
  rw [txn_Manager_settle.J3b_eq]
  rw [show txn_Manager_settle.J4 ⟨RD F, DD F, xk 30 .body (xb30_0 F)⟩ = F.f30.J4 from funext fun s168 => (show xk 30 .body (xb30_0 F) 30 .body txn_Manager_settle.J4P (txn_Manager_settle.J4F s168) = _ from by rw [xk_self]; exact xb30_0_J4 F s168)]
  exact e
theorem st30_J4 {F : Fns} (h : FnsOk F) (s168 : List O) : OLe (txn_Manager_settle.J4b (RD F) (DD F) s168) (XC 30 .body txn_Manager_settle.J4P (txn_Manager_settle.J4F s168)) := by
  intro o e
  refine exit_z (by kernel_rfl) (Z := ⟨RD F, DD F, xk 30 .body (xb30_0 F)⟩) ⟨RD_ok h, DD_ok h, xk_le (xb30_0_ok h)⟩ ?_
  rw [txn_Manager_settle.J4b_eq]
  exact e
theorem st31_b {F : Fns} (h : FnsOk F) (v0 : V) (s : List O) : OLe (slices_Clone_string_string.b (RD F) (DD F) v0 s) (RUN 31 [v0] s) := by
  intro o e
  refine body_z (Z := ⟨RD F, DD F, fun _ _ _ _ => none⟩) ⟨RD_ok h, DD_ok h, fun _ _ _ _ => OLe.none _⟩ ?_
  rw [slices_Clone_string_string.b_eq]
  exact e
noncomputable def xb32_0 (F : Fns) (p : List Nat) (st : St) : R := bif beqP p txn_Manager_back.L0P then pk st (txn_Manager_back.L0F (gO1 (sV st 1)) (gO2 (sV st 1)) (sV st 16) (gI (sV st 17)) (gI (sV st 18)) st.s) (F.f32.L0 (gO1 (sV st 1)) (gO2 (sV st 1)) (sV st 16) (gI (sV st 17)) (gI (sV st 18)) st.s) else bif beqP p txn_Manager_back.J1P then pk st (txn_Manager_back.J1F (gO1 (sV st 1)) (gO2 (sV st 1)) (gS (sV st 5)) (sV st 16) (gI (sV st 17)) (gI (sV st 18)) (gB (sV st 35)) st.s) (F.f32.J1 (gO1 (sV st 1)) (gO2 (sV st 1)) (gS (sV st 5)) (sV st 16) (gI (sV st 17)) (gI (sV st 18)) (gB (sV st 35)) st.s) else bif beqP p txn_Manager_back.J2P then pk st (txn_Manager_back.J2F (gO1 (sV st 1)) (gO2 (sV st 1)) (sV st 16) (gI (sV st 17)) (gI (sV st 18)) st.s) (F.f32.J2 (gO1 (sV st 1)) (gO2 (sV st 1)) (sV st 16) (gI (sV st 17)) (gI (sV st 18)) st.s) else none
theorem xb32_0_ok {F : Fns} (h : FnsOk F) (p : List Nat) (st : St) : OLe (xb32_0 F p st) (XC 32 .body p st) := bq_le (g := fun p => XC 32 .body p st) (pk_le (XC 32 .body txn_Manager_back.L0P) (h.f32.L0 _ _ _ _ _ _)) (bq_le (g := fun p => XC 32 .body p st) (pk_le (XC 32 .body txn_Manager_back.J1P) (h.f32.J1 _ _ _ _ _ _ _ _)) (bq_le (g := fun p => XC 32 .body p st) (pk_le (XC 32 .body txn_Manager_back.J2P) (h.f32.J2 _ _ _ _ _ _)) (OLe.none _)))
theorem xb32_0_L0 (F : Fns) (i104 : Nat) (o105 : Nat) (v106 : V) (n107 : Int) (n108 : Int) (s109 : List O) : xb32_0 F txn_Manager_back.L0P (txn_Manager_back.L0F i104 o105 v106 n107 n108 s109) = F.f32.L0 i104 o105 v106 n107 n108 s109 := (by kernel_rfl : _ = pk (txn_Manager_back.L0F i104 o105 v106 n107 n108 s109) (txn_Manager_back.L0F i104 o105 v106 n107 n108 s109) (F.f32.L0 i104 o105 v106 n107 n108 s109)).trans (pk_self _ _)
theorem xb32_0_J1 (F : Fns) (i119 : Nat) (o120 : Nat) (s121 : ByteArray) (v122 : V) (n123 : Int) (n124 : Int) (b125 : Bool) (s126 : List O) : xb32_0 F txn_Manager_back.J1P (txn_Manager_back.J1F i119 o120 s121 v122 n123 n124 b125 s126) = F.f32.J1 i119 o120 s121 v122 n123 n124 b125 s126 := (by kernel_rfl : _ = pk (txn_Manager_back.J1F i119 o120 s121 v122 n123 n124 b125 s126) (txn_Manager_back.J1F i119 o120 s121 v122 n123 n124 b125 s126) (F.f32.J1 i119 o120 s121 v122 n123 n124 b125 s126)).trans (pk_self _ _)
theorem xb32_0_J2 (F : Fns) (i132 : Nat) (o133 : Nat) (v134 : V) (n135 : Int) (n136 : Int) (s137 : List O) : xb32_0 F txn_Manager_back.J2P (txn_Manager_back.J2F i132 o133 v134 n135 n136 s137) = F.f32.J2 i132 o133 v134 n135 n136 s137 := (by kernel_rfl : _ = pk (txn_Manager_back.J2F i132 o133 v134 n135 n136 s137) (txn_Manager_back.J2F i132 o133 v134 n135 n136 s137) (F.f32.J2 i132 o133 v134 n135 n136 s137)).trans (pk_self _ _)
theorem st32_b {F : Fns} (h : FnsOk F) (i0 : Nat) (o1 : Nat) (i2 : Nat) (o3 : Nat) (s : List O) : OLe (txn_Manager_back.b (RD F) (DD F) F.f32.L0 i0 o1 i2 o3 s) (RUN 32 [(V.obj i0 o1), (V.obj i2 o3)] s) := by
  intro o e
  refine body_z (Z := ⟨RD F, DD F, xk 32 .body (xb32_0 F)⟩) ⟨RD_ok h, DD_ok h, xk_le (xb32_0_ok h)⟩ ?_
  rw [txn_Manager_back.b_eq]
  rw [show txn_Manager_back.L0 ⟨RD F, DD F, xk 32 .body (xb32_0 F)⟩ = F.f32.L0 from funext fun i104 => funext fun o105 => funext fun v106 => funext fun n107 => funext fun n108 => funext fun s109 => (show xk 32 .body (xb32_0 F) 32 .body txn_Manager_back.L0P (txn_Manager_back.L0F i104 o105 v106 n107 n108 s109) = _ from by rw [xk_self]; exact xb32_0_L0 F i104 o105 v106 n107 n108 s109)]
  exact e
theorem st32_L0 {F : Fns} (h : FnsOk F) (i104 : Nat) (o105 : Nat) (v106 : V) (n107 : Int) (n108 : Int) (s109 : List O) : OLe (txn_Manager_back.L0b (RD F) (DD F) F.f32.J1 i104 o105 v106 n107 n108 s109) (XC 32 .body txn_Manager_back.L0P (txn_Manager_back.L0F i104 o105 v106 n107 n108 s109)) := by
  intro o e
  refine round_z (Z := ⟨RD F, DD F, xk 32 .body (xb32_0 F)⟩) ⟨RD_ok h, DD_ok h, xk_le (xb32_0_ok h)⟩ ?_
  rw [txn_Manager_back.L0b_eq]
  rw [show txn_Manager_back.J1 ⟨RD F, DD F, xk 32 .body (xb32_0 F)⟩ = F.f32.J1 from funext fun i119 => funext fun o120 => funext fun s121 => funext fun v122 => funext fun n123 => funext fun n124 => funext fun b125 => funext fun s126 => (show xk 32 .body (xb32_0 F) 32 .body txn_Manager_back.J1P (txn_Manager_back.J1F i119 o120 s121 v122 n123 n124 b125 s126) = _ from by rw [xk_self]; exact xb32_0_J1 F i119 o120 s121 v122 n123 n124 b125 s126)]
  exact e
theorem st32_J1 {F : Fns} (h : FnsOk F) (i119 : Nat) (o120 : Nat) (s121 : ByteArray) (v122 : V) (n123 : Int) (n124 : Int) (b125 : Bool) (s126 : List O) : OLe (txn_Manager_back.J1b (RD F) (DD F) F.f32.J2 i119 o120 s121 v122 n123 n124 b125 s126) (XC 32 .body txn_Manager_back.J1P (txn_Manager_back.J1F i119 o120 s121 v122 n123 n124 b125 s126)) := by
  intro o e
  refine exit_z (by kernel_rfl) (Z := ⟨RD F, DD F, xk 32 .body (xb32_0 F)⟩) ⟨RD_ok h, DD_ok h, xk_le (xb32_0_ok h)⟩ ?_
  rw [txn_Manager_back.J1b_eq]
  rw [show txn_Manager_back.J2 ⟨RD F, DD F, xk 32 .body (xb32_0 F)⟩ = F.f32.J2 from funext fun i132 => funext fun o133 => funext fun v134 => funext fun n135 => funext fun n136 => funext fun s137 => (show xk 32 .body (xb32_0 F) 32 .body txn_Manager_back.J2P (txn_Manager_back.J2F i132 o133 v134 n135 n136 s137) = _ from by rw [xk_self]; exact xb32_0_J2 F i132 o133 v134 n135 n136 s137)]
  exact e
theorem st32_J2 {F : Fns} (h : FnsOk F) (i132 : Nat) (o133 : Nat) (v134 : V) (n135 : Int) (n136 : Int) (s137 : List O) : OLe (txn_Manager_back.J2b (RD F) (DD F) F.f32.L0 i132 o133 v134 n135 n136 s137) (XC 32 .body txn_Manager_back.J2P (txn_Manager_back.J2F i132 o133 v134 n135 n136 s137)) := by
  intro o e
  refine exit_z (by kernel_rfl) (Z := ⟨RD F, DD F, xk 32 .body (xb32_0 F)⟩) ⟨RD_ok h, DD_ok h, xk_le (xb32_0_ok h)⟩ ?_
  rw [txn_Manager_back.J2b_eq]
  rw [show txn_Manager_back.L0 ⟨RD F, DD F, xk 32 .body (xb32_0 F)⟩ = F.f32.L0 from funext fun i104 => funext fun o105 => funext fun v106 => funext fun n107 => funext fun n108 => funext fun s109 => (show xk 32 .body (xb32_0 F) 32 .body txn_Manager_back.L0P (txn_Manager_back.L0F i104 o105 v106 n107 n108 s109) = _ from by rw [xk_self]; exact xb32_0_L0 F i104 o105 v106 n107 n108 s109)]
  exact e
theorem st33_b {F : Fns} (h : FnsOk F) (i0 : Nat) (o1 : Nat) (s : List O) : OLe (txn_Manager_due.b (RD F) (DD F) i0 o1 s) (RUN 33 [(V.obj i0 o1)] s) := by
  intro o e
  refine body_z (Z := ⟨RD F, DD F, fun _ _ _ _ => none⟩) ⟨RD_ok h, DD_ok h, fun _ _ _ _ => OLe.none _⟩ ?_
  rw [txn_Manager_due.b_eq]
  exact e
theorem st34_b {F : Fns} (h : FnsOk F) (s : List O) : OLe (txn_answers.b (RD F) (DD F) s) (RUN 34 [] s) := by
  intro o e
  refine body_z (Z := ⟨RD F, DD F, fun _ _ _ _ => none⟩) ⟨RD_ok h, DD_ok h, fun _ _ _ _ => OLe.none _⟩ ?_
  rw [txn_answers.b_eq]
  exact e
noncomputable def xb39_0 (F : Fns) (p : List Nat) (st : St) : R := bif beqP p txn_named.L0P then pk st (txn_named.L0F (gS (sV st 0)) (gI (sV st 6)) (gI (sV st 7))) (F.f39.L0 (gS (sV st 0)) (gI (sV st 6)) (gI (sV st 7))) else bif beqP p txn_named.J1P then pk st (txn_named.J1F (gS (sV st 0)) (gI (sV st 6)) (gI (sV st 7)) (gB (sV st 30))) (F.f39.J1 (gS (sV st 0)) (gI (sV st 6)) (gI (sV st 7)) (gB (sV st 30))) else bif beqP p txn_named.J2P then pk st (txn_named.J2F (gB (sV st 2))) (F.f39.J2 (gB (sV st 2))) else none
theorem xb39_0_ok {F : Fns} (h : FnsOk F) (p : List Nat) (st : St) : OLe (xb39_0 F p st) (XC 39 .body p st) := bq_le (g := fun p => XC 39 .body p st) (pk_le (XC 39 .body txn_named.L0P) (h.f39.L0 _ _ _)) (bq_le (g := fun p => XC 39 .body p st) (pk_le (XC 39 .body txn_named.J1P) (h.f39.J1 _ _ _ _)) (bq_le (g := fun p => XC 39 .body p st) (pk_le (XC 39 .body txn_named.J2P) (h.f39.J2 _)) (OLe.none _)))
theorem xb39_0_L0 (F : Fns) (s100 : ByteArray) (n101 : Int) (n102 : Int) : xb39_0 F txn_named.L0P (txn_named.L0F s100 n101 n102) = F.f39.L0 s100 n101 n102 := (by kernel_rfl : _ = pk (txn_named.L0F s100 n101 n102) (txn_named.L0F s100 n101 n102) (F.f39.L0 s100 n101 n102)).trans (pk_self _ _)
theorem xb39_0_J1 (F : Fns) (s104 : ByteArray) (n105 : Int) (n106 : Int) (b107 : Bool) : xb39_0 F txn_named.J1P (txn_named.J1F s104 n105 n106 b107) = F.f39.J1 s104 n105 n106 b107 := (by kernel_rfl : _ = pk (txn_named.J1F s104 n105 n106 b107) (txn_named.J1F s104 n105 n106 b107) (F.f39.J1 s104 n105 n106 b107)).trans (pk_self _ _)
theorem xb39_0_J2 (F : Fns) (b108 : Bool) : xb39_0 F txn_named.J2P (txn_named.J2F b108) = F.f39.J2 b108 := (by kernel_rfl : _ = pk (txn_named.J2F b108) (txn_named.J2F b108) (F.f39.J2 b108)).trans (pk_self _ _)
theorem st39_b {F : Fns} (h : FnsOk F) (a0 : ByteArray) : OLe (txn_named.b (RD F) (DD F) F.f39.L0 a0) (RUN 39 [(V.str a0)] []) := by
  intro o e
  refine body_z (Z := ⟨RD F, DD F, xk 39 .body (xb39_0 F)⟩) ⟨RD_ok h, DD_ok h, xk_le (xb39_0_ok h)⟩ ?_
  rw [txn_named.b_eq]
  rw [show txn_named.L0 ⟨RD F, DD F, xk 39 .body (xb39_0 F)⟩ = F.f39.L0 from funext fun s100 => funext fun n101 => funext fun n102 => (show xk 39 .body (xb39_0 F) 39 .body txn_named.L0P (txn_named.L0F s100 n101 n102) = _ from by rw [xk_self]; exact xb39_0_L0 F s100 n101 n102)]
  exact e
theorem st39_L0 {F : Fns} (h : FnsOk F) (s100 : ByteArray) (n101 : Int) (n102 : Int) : OLe (txn_named.L0b (RD F) (DD F) F.f39.J1 F.f39.J2 s100 n101 n102) (XC 39 .body txn_named.L0P (txn_named.L0F s100 n101 n102)) := by
  intro o e
  refine round_z (Z := ⟨RD F, DD F, xk 39 .body (xb39_0 F)⟩) ⟨RD_ok h, DD_ok h, xk_le (xb39_0_ok h)⟩ ?_
  rw [txn_named.L0b_eq]
  rw [show txn_named.J1 ⟨RD F, DD F, xk 39 .body (xb39_0 F)⟩ = F.f39.J1 from funext fun s104 => funext fun n105 => funext fun n106 => funext fun b107 => (show xk 39 .body (xb39_0 F) 39 .body txn_named.J1P (txn_named.J1F s104 n105 n106 b107) = _ from by rw [xk_self]; exact xb39_0_J1 F s104 n105 n106 b107)]
  rw [show txn_named.J2 ⟨RD F, DD F, xk 39 .body (xb39_0 F)⟩ = F.f39.J2 from funext fun b108 => (show xk 39 .body (xb39_0 F) 39 .body txn_named.J2P (txn_named.J2F b108) = _ from by rw [xk_self]; exact xb39_0_J2 F b108)]
  exact e
theorem st39_J1 {F : Fns} (h : FnsOk F) (s104 : ByteArray) (n105 : Int) (n106 : Int) (b107 : Bool) : OLe (txn_named.J1b (RD F) (DD F) F.f39.L0 s104 n105 n106 b107) (XC 39 .body txn_named.J1P (txn_named.J1F s104 n105 n106 b107)) := by
  intro o e
  refine exit_z (by kernel_rfl) (Z := ⟨RD F, DD F, xk 39 .body (xb39_0 F)⟩) ⟨RD_ok h, DD_ok h, xk_le (xb39_0_ok h)⟩ ?_
  rw [txn_named.J1b_eq]
  rw [show txn_named.L0 ⟨RD F, DD F, xk 39 .body (xb39_0 F)⟩ = F.f39.L0 from funext fun s100 => funext fun n101 => funext fun n102 => (show xk 39 .body (xb39_0 F) 39 .body txn_named.L0P (txn_named.L0F s100 n101 n102) = _ from by rw [xk_self]; exact xb39_0_L0 F s100 n101 n102)]
  exact e
theorem st39_J2 {F : Fns} (h : FnsOk F) (b108 : Bool) : OLe (txn_named.J2b (RD F) (DD F) b108) (XC 39 .body txn_named.J2P (txn_named.J2F b108)) := by
  intro o e
  refine exit_z (by kernel_rfl) (Z := ⟨RD F, DD F, xk 39 .body (xb39_0 F)⟩) ⟨RD_ok h, DD_ok h, xk_le (xb39_0_ok h)⟩ ?_
  rw [txn_named.J2b_eq]
  exact e
theorem st40_b {F : Fns} (h : FnsOk F) (v0 : V) (a1 : ByteArray) (s : List O) : OLe (slices_Contains_string_string.b (RD F) (DD F) v0 a1 s) (RUN 40 [v0, (V.str a1)] s) := by
  intro o e
  refine body_z (Z := ⟨RD F, DD F, fun _ _ _ _ => none⟩) ⟨RD_ok h, DD_ok h, fun _ _ _ _ => OLe.none _⟩ ?_
  rw [slices_Contains_string_string.b_eq]
  exact e
noncomputable def xb41_0 (F : Fns) (p : List Nat) (st : St) : R := bif beqP p txn_Manager_merge_1.L0P then pk st (txn_Manager_merge_1.L0F (sV st 0) (sV st 7) (gI (sV st 8)) (gI (sV st 9)) st.s) (F.f41.L0 (sV st 0) (sV st 7) (gI (sV st 8)) (gI (sV st 9)) st.s) else bif beqP p txn_Manager_merge_1.J1P then pk st (txn_Manager_merge_1.J1F (sV st 0) (sV st 7) (gI (sV st 8)) (gI (sV st 9)) st.s) (F.f41.J1 (sV st 0) (sV st 7) (gI (sV st 8)) (gI (sV st 9)) st.s) else none
theorem xb41_0_ok {F : Fns} (h : FnsOk F) (p : List Nat) (st : St) : OLe (xb41_0 F p st) (XC 41 .body p st) := bq_le (g := fun p => XC 41 .body p st) (pk_le (XC 41 .body txn_Manager_merge_1.L0P) (h.f41.L0 _ _ _ _ _)) (bq_le (g := fun p => XC 41 .body p st) (pk_le (XC 41 .body txn_Manager_merge_1.J1P) (h.f41.J1 _ _ _ _ _)) (OLe.none _))
theorem xb41_0_L0 (F : Fns) (v101 : V) (v102 : V) (n103 : Int) (n104 : Int) (s105 : List O) : xb41_0 F txn_Manager_merge_1.L0P (txn_Manager_merge_1.L0F v101 v102 n103 n104 s105) = F.f41.L0 v101 v102 n103 n104 s105 := (by kernel_rfl : _ = pk (txn_Manager_merge_1.L0F v101 v102 n103 n104 s105) (txn_Manager_merge_1.L0F v101 v102 n103 n104 s105) (F.f41.L0 v101 v102 n103 n104 s105)).trans (pk_self _ _)
theorem xb41_0_J1 (F : Fns) (v115 : V) (v116 : V) (n117 : Int) (n118 : Int) (s119 : List O) : xb41_0 F txn_Manager_merge_1.J1P (txn_Manager_merge_1.J1F v115 v116 n117 n118 s119) = F.f41.J1 v115 v116 n117 n118 s119 := (by kernel_rfl : _ = pk (txn_Manager_merge_1.J1F v115 v116 n117 n118 s119) (txn_Manager_merge_1.J1F v115 v116 n117 n118 s119) (F.f41.J1 v115 v116 n117 n118 s119)).trans (pk_self _ _)
theorem st41_b {F : Fns} (h : FnsOk F) (v0 : V) (v1 : V) (s : List O) : OLe (txn_Manager_merge_1.b (RD F) (DD F) F.f41.L0 v0 v1 s) (RUN 41 [v0, v1] s) := by
  intro o e
  refine body_z (Z := ⟨RD F, DD F, xk 41 .body (xb41_0 F)⟩) ⟨RD_ok h, DD_ok h, xk_le (xb41_0_ok h)⟩ ?_
  rw [txn_Manager_merge_1.b_eq]
  rw [show txn_Manager_merge_1.L0 ⟨RD F, DD F, xk 41 .body (xb41_0 F)⟩ = F.f41.L0 from funext fun v101 => funext fun v102 => funext fun n103 => funext fun n104 => funext fun s105 => (show xk 41 .body (xb41_0 F) 41 .body txn_Manager_merge_1.L0P (txn_Manager_merge_1.L0F v101 v102 n103 n104 s105) = _ from by rw [xk_self]; exact xb41_0_L0 F v101 v102 n103 n104 s105)]
  exact e
theorem st41_L0 {F : Fns} (h : FnsOk F) (v101 : V) (v102 : V) (n103 : Int) (n104 : Int) (s105 : List O) : OLe (txn_Manager_merge_1.L0b (RD F) (DD F) F.f41.J1 v101 v102 n103 n104 s105) (XC 41 .body txn_Manager_merge_1.L0P (txn_Manager_merge_1.L0F v101 v102 n103 n104 s105)) := by
  intro o e
  refine round_z (Z := ⟨RD F, DD F, xk 41 .body (xb41_0 F)⟩) ⟨RD_ok h, DD_ok h, xk_le (xb41_0_ok h)⟩ ?_
  rw [txn_Manager_merge_1.L0b_eq]
  rw [show txn_Manager_merge_1.J1 ⟨RD F, DD F, xk 41 .body (xb41_0 F)⟩ = F.f41.J1 from funext fun v115 => funext fun v116 => funext fun n117 => funext fun n118 => funext fun s119 => (show xk 41 .body (xb41_0 F) 41 .body txn_Manager_merge_1.J1P (txn_Manager_merge_1.J1F v115 v116 n117 n118 s119) = _ from by rw [xk_self]; exact xb41_0_J1 F v115 v116 n117 n118 s119)]
  exact e
theorem st41_J1 {F : Fns} (h : FnsOk F) (v115 : V) (v116 : V) (n117 : Int) (n118 : Int) (s119 : List O) : OLe (txn_Manager_merge_1.J1b (RD F) (DD F) F.f41.L0 v115 v116 n117 n118 s119) (XC 41 .body txn_Manager_merge_1.J1P (txn_Manager_merge_1.J1F v115 v116 n117 n118 s119)) := by
  intro o e
  refine exit_z (by kernel_rfl) (Z := ⟨RD F, DD F, xk 41 .body (xb41_0 F)⟩) ⟨RD_ok h, DD_ok h, xk_le (xb41_0_ok h)⟩ ?_
  rw [txn_Manager_merge_1.J1b_eq]
  rw [show txn_Manager_merge_1.L0 ⟨RD F, DD F, xk 41 .body (xb41_0 F)⟩ = F.f41.L0 from funext fun v101 => funext fun v102 => funext fun n103 => funext fun n104 => funext fun s105 => (show xk 41 .body (xb41_0 F) 41 .body txn_Manager_merge_1.L0P (txn_Manager_merge_1.L0F v101 v102 n103 n104 s105) = _ from by rw [xk_self]; exact xb41_0_L0 F v101 v102 n103 n104 s105)]
  exact e
theorem st42_b {F : Fns} (h : FnsOk F) (s : List O) : OLe (txn_phases.b (RD F) (DD F) s) (RUN 42 [] s) := by
  intro o e
  refine body_z (Z := ⟨RD F, DD F, fun _ _ _ _ => none⟩) ⟨RD_ok h, DD_ok h, fun _ _ _ _ => OLe.none _⟩ ?_
  rw [txn_phases.b_eq]
  exact e
noncomputable def xb43_0 (F : Fns) (p : List Nat) (st : St) : R := bif beqP p slices_DeleteFunc_txn_txn_txn_txn.L0P then pk st (slices_DeleteFunc_txn_txn_txn_txn.L0F (sV st 0) (sV st 1) (gI (sV st 5)) (gI (sV st 6)) st.s) (F.f43.L0 (sV st 0) (sV st 1) (gI (sV st 5)) (gI (sV st 6)) st.s) else bif beqP p slices_DeleteFunc_txn_txn_txn_txn.J1P then pk st (slices_DeleteFunc_txn_txn_txn_txn.J1F (sV st 0) (sV st 1) (gI (sV st 5)) (gI (sV st 6)) st.s) (F.f43.J1 (sV st 0) (sV st 1) (gI (sV st 5)) (gI (sV st 6)) st.s) else none
theorem xb43_0_ok {F : Fns} (h : FnsOk F) (p : List Nat) (st : St) : OLe (xb43_0 F p st) (XC 43 .body p st) := bq_le (g := fun p => XC 43 .body p st) (pk_le (XC 43 .body slices_DeleteFunc_txn_txn_txn_txn.L0P) (h.f43.L0 _ _ _ _ _)) (bq_le (g := fun p => XC 43 .body p st) (pk_le (XC 43 .body slices_DeleteFunc_txn_txn_txn_txn.J1P) (h.f43.J1 _ _ _ _ _)) (OLe.none _))
theorem xb43_0_L0 (F : Fns) (v105 : V) (v106 : V) (n107 : Int) (n108 : Int) (s109 : List O) : xb43_0 F slices_DeleteFunc_txn_txn_txn_txn.L0P (slices_DeleteFunc_txn_txn_txn_txn.L0F v105 v106 n107 n108 s109) = F.f43.L0 v105 v106 n107 n108 s109 := (by kernel_rfl : _ = pk (slices_DeleteFunc_txn_txn_txn_txn.L0F v105 v106 n107 n108 s109) (slices_DeleteFunc_txn_txn_txn_txn.L0F v105 v106 n107 n108 s109) (F.f43.L0 v105 v106 n107 n108 s109)).trans (pk_self _ _)
theorem xb43_0_J1 (F : Fns) (v122 : V) (v123 : V) (n124 : Int) (n125 : Int) (s126 : List O) : xb43_0 F slices_DeleteFunc_txn_txn_txn_txn.J1P (slices_DeleteFunc_txn_txn_txn_txn.J1F v122 v123 n124 n125 s126) = F.f43.J1 v122 v123 n124 n125 s126 := (by kernel_rfl : _ = pk (slices_DeleteFunc_txn_txn_txn_txn.J1F v122 v123 n124 n125 s126) (slices_DeleteFunc_txn_txn_txn_txn.J1F v122 v123 n124 n125 s126) (F.f43.J1 v122 v123 n124 n125 s126)).trans (pk_self _ _)
theorem st43_b {F : Fns} (h : FnsOk F) (v0 : V) (v1 : V) (s : List O) : OLe (slices_DeleteFunc_txn_txn_txn_txn.b (RD F) (DD F) F.f43.L0 v0 v1 s) (RUN 43 [v0, v1] s) := by
  intro o e
  refine body_z (Z := ⟨RD F, DD F, xk 43 .body (xb43_0 F)⟩) ⟨RD_ok h, DD_ok h, xk_le (xb43_0_ok h)⟩ ?_
  rw [slices_DeleteFunc_txn_txn_txn_txn.b_eq]
  rw [show slices_DeleteFunc_txn_txn_txn_txn.L0 ⟨RD F, DD F, xk 43 .body (xb43_0 F)⟩ = F.f43.L0 from funext fun v105 => funext fun v106 => funext fun n107 => funext fun n108 => funext fun s109 => (show xk 43 .body (xb43_0 F) 43 .body slices_DeleteFunc_txn_txn_txn_txn.L0P (slices_DeleteFunc_txn_txn_txn_txn.L0F v105 v106 n107 n108 s109) = _ from by rw [xk_self]; exact xb43_0_L0 F v105 v106 n107 n108 s109)]
  exact e
theorem st43_L0 {F : Fns} (h : FnsOk F) (v105 : V) (v106 : V) (n107 : Int) (n108 : Int) (s109 : List O) : OLe (slices_DeleteFunc_txn_txn_txn_txn.L0b (RD F) (DD F) F.f43.J1 v105 v106 n107 n108 s109) (XC 43 .body slices_DeleteFunc_txn_txn_txn_txn.L0P (slices_DeleteFunc_txn_txn_txn_txn.L0F v105 v106 n107 n108 s109)) := by
  intro o e
  refine round_z (Z := ⟨RD F, DD F, xk 43 .body (xb43_0 F)⟩) ⟨RD_ok h, DD_ok h, xk_le (xb43_0_ok h)⟩ ?_
  rw [slices_DeleteFunc_txn_txn_txn_txn.L0b_eq]
  rw [show slices_DeleteFunc_txn_txn_txn_txn.J1 ⟨RD F, DD F, xk 43 .body (xb43_0 F)⟩ = F.f43.J1 from funext fun v122 => funext fun v123 => funext fun n124 => funext fun n125 => funext fun s126 => (show xk 43 .body (xb43_0 F) 43 .body slices_DeleteFunc_txn_txn_txn_txn.J1P (slices_DeleteFunc_txn_txn_txn_txn.J1F v122 v123 n124 n125 s126) = _ from by rw [xk_self]; exact xb43_0_J1 F v122 v123 n124 n125 s126)]
  exact e
theorem st43_J1 {F : Fns} (h : FnsOk F) (v122 : V) (v123 : V) (n124 : Int) (n125 : Int) (s126 : List O) : OLe (slices_DeleteFunc_txn_txn_txn_txn.J1b (RD F) (DD F) F.f43.L0 v122 v123 n124 n125 s126) (XC 43 .body slices_DeleteFunc_txn_txn_txn_txn.J1P (slices_DeleteFunc_txn_txn_txn_txn.J1F v122 v123 n124 n125 s126)) := by
  intro o e
  refine exit_z (by kernel_rfl) (Z := ⟨RD F, DD F, xk 43 .body (xb43_0 F)⟩) ⟨RD_ok h, DD_ok h, xk_le (xb43_0_ok h)⟩ ?_
  rw [slices_DeleteFunc_txn_txn_txn_txn.J1b_eq]
  rw [show slices_DeleteFunc_txn_txn_txn_txn.L0 ⟨RD F, DD F, xk 43 .body (xb43_0 F)⟩ = F.f43.L0 from funext fun v105 => funext fun v106 => funext fun n107 => funext fun n108 => funext fun s109 => (show xk 43 .body (xb43_0 F) 43 .body slices_DeleteFunc_txn_txn_txn_txn.L0P (slices_DeleteFunc_txn_txn_txn_txn.L0F v105 v106 n107 n108 s109) = _ from by rw [xk_self]; exact xb43_0_L0 F v105 v106 n107 n108 s109)]
  exact e
theorem st44_b {F : Fns} (h : FnsOk F) (i0 : Nat) (o1 : Nat) (p2 : V) (s : List O) : OLe (txn_Manager_settle_1.b (RD F) (DD F) i0 o1 p2 s) (RUN 44 [(V.obj i0 o1), (V.ref [p2])] s) := by
  intro o e
  refine body_z (Z := ⟨RD F, DD F, fun _ _ _ _ => none⟩) ⟨RD_ok h, DD_ok h, fun _ _ _ _ => OLe.none _⟩ ?_
  rw [txn_Manager_settle_1.b_eq]
  exact e
noncomputable def xb45_0 (F : Fns) (p : List Nat) (st : St) : R := bif beqP p txn_Manager_toldBefore.J0P then pk st (txn_Manager_toldBefore.J0F st.s) (F.f45.J0 st.s) else none
theorem xb45_0_ok {F : Fns} (h : FnsOk F) (p : List Nat) (st : St) : OLe (xb45_0 F p st) (XC 45 .body p st) := bq_le (g := fun p => XC 45 .body p st) (pk_le (XC 45 .body txn_Manager_toldBefore.J0P) (h.f45.J0 _)) (OLe.none _)
theorem xb45_0_J0 (F : Fns) (s111 : List O) : xb45_0 F txn_Manager_toldBefore.J0P (txn_Manager_toldBefore.J0F s111) = F.f45.J0 s111 := (by kernel_rfl : _ = pk (txn_Manager_toldBefore.J0F s111) (txn_Manager_toldBefore.J0F s111) (F.f45.J0 s111)).trans (pk_self _ _)
theorem st45_b {F : Fns} (h : FnsOk F) (i0 : Nat) (o1 : Nat) (i2 : Nat) (o3 : Nat) (a4 : Int) (a5 : ByteArray) (a6 : Int) (s : List O) : OLe (txn_Manager_toldBefore.b (RD F) (DD F) F.f45.J0 i0 o1 i2 o3 a4 a5 a6 s) (RUN 45 [(V.obj i0 o1), (V.obj i2 o3), (V.agg [(V.int .i64 a4), (V.str a5)]), (V.int .i64 a6)] s) := by
  intro o e
  refine body_z (Z := ⟨RD F, DD F, xk 45 .body (xb45_0 F)⟩) ⟨RD_ok h, DD_ok h, xk_le (xb45_0_ok h)⟩ ?_
  rw [txn_Manager_toldBefore.b_eq]
  rw [show txn_Manager_toldBefore.J0 ⟨RD F, DD F, xk 45 .body (xb45_0 F)⟩ = F.f45.J0 from funext fun s111 => (show xk 45 .body (xb45_0 F) 45 .body txn_Manager_toldBefore.J0P (txn_Manager_toldBefore.J0F s111) = _ from by rw [xk_self]; exact xb45_0_J0 F s111)]
  exact e
theorem st45_J0 {F : Fns} (h : FnsOk F) (s111 : List O) : OLe (txn_Manager_toldBefore.J0b (RD F) (DD F) s111) (XC 45 .body txn_Manager_toldBefore.J0P (txn_Manager_toldBefore.J0F s111)) := by
  intro o e
  refine exit_z (by kernel_rfl) (Z := ⟨RD F, DD F, xk 45 .body (xb45_0 F)⟩) ⟨RD_ok h, DD_ok h, xk_le (xb45_0_ok h)⟩ ?_
  rw [txn_Manager_toldBefore.J0b_eq]
  exact e
noncomputable def xb46_0 (F : Fns) (p : List Nat) (st : St) : R := bif beqP p txn_Manager_toldPrepare.J0P then pk st (txn_Manager_toldPrepare.J0F st.s) (F.f46.J0 st.s) else bif beqP p txn_Manager_toldPrepare.J1P then pk st (txn_Manager_toldPrepare.J1F st.s) (F.f46.J1 st.s) else bif beqP p txn_Manager_toldPrepare.J2P then pk st (txn_Manager_toldPrepare.J2F st.s) (F.f46.J2 st.s) else bif beqP p txn_Manager_toldPrepare.J3P then pk st (txn_Manager_toldPrepare.J3F st.s) (F.f46.J3 st.s) else none
theorem xb46_0_ok {F : Fns} (h : FnsOk F) (p : List Nat) (st : St) : OLe (xb46_0 F p st) (XC 46 .body p st) := bq_le (g := fun p => XC 46 .body p st) (pk_le (XC 46 .body txn_Manager_toldPrepare.J0P) (h.f46.J0 _)) (bq_le (g := fun p => XC 46 .body p st) (pk_le (XC 46 .body txn_Manager_toldPrepare.J1P) (h.f46.J1 _)) (bq_le (g := fun p => XC 46 .body p st) (pk_le (XC 46 .body txn_Manager_toldPrepare.J2P) (h.f46.J2 _)) (bq_le (g := fun p => XC 46 .body p st) (pk_le (XC 46 .body txn_Manager_toldPrepare.J3P) (h.f46.J3 _)) (OLe.none _))))
theorem xb46_0_J0 (F : Fns) (s109 : List O) : xb46_0 F txn_Manager_toldPrepare.J0P (txn_Manager_toldPrepare.J0F s109) = F.f46.J0 s109 := (by kernel_rfl : _ = pk (txn_Manager_toldPrepare.J0F s109) (txn_Manager_toldPrepare.J0F s109) (F.f46.J0 s109)).trans (pk_self _ _)
theorem xb46_0_J1 (F : Fns) (s121 : List O) : xb46_0 F txn_Manager_toldPrepare.J1P (txn_Manager_toldPrepare.J1F s121) = F.f46.J1 s121 := (by kernel_rfl : _ = pk (txn_Manager_toldPrepare.J1F s121) (txn_Manager_toldPrepare.J1F s121) (F.f46.J1 s121)).trans (pk_self _ _)
theorem xb46_0_J2 (F : Fns) (s128 : List O) : xb46_0 F txn_Manager_toldPrepare.J2P (txn_Manager_toldPrepare.J2F s128) = F.f46.J2 s128 := (by kernel_rfl : _ = pk (txn_Manager_toldPrepare.J2F s128) (txn_Manager_toldPrepare.J2F s128) (F.f46.J2 s128)).trans (pk_self _ _)
theorem xb46_0_J3 (F : Fns) (s134 : List O) : xb46_0 F txn_Manager_toldPrepare.J3P (txn_Manager_toldPrepare.J3F s134) = F.f46.J3 s134 := (by kernel_rfl : _ = pk (txn_Manager_toldPrepare.J3F s134) (txn_Manager_toldPrepare.J3F s134) (F.f46.J3 s134)).trans (pk_self _ _)
theorem st46_b {F : Fns} (h : FnsOk F) (i0 : Nat) (o1 : Nat) (i2 : Nat) (o3 : Nat) (a4 : Int) (a5 : ByteArray) (a6 : Int) (s : List O) : OLe (txn_Manager_toldPrepare.b (RD F) (DD F) F.f46.J0 F.f46.J1 F.f46.J2 F.f46.J3 i0 o1 i2 o3 a4 a5 a6 s) (RUN 46 [(V.obj i0 o1), (V.obj i2 o3), (V.agg [(V.int .i64 a4), (V.str a5)]), (V.int .i64 a6)] s) := by
  intro o e
  refine body_z (Z := ⟨RD F, DD F, xk 46 .body (xb46_0 F)⟩) ⟨RD_ok h, DD_ok h, xk_le (xb46_0_ok h)⟩ ?_
  rw [txn_Manager_toldPrepare.b_eq]
  rw [show txn_Manager_toldPrepare.J0 ⟨RD F, DD F, xk 46 .body (xb46_0 F)⟩ = F.f46.J0 from funext fun s109 => (show xk 46 .body (xb46_0 F) 46 .body txn_Manager_toldPrepare.J0P (txn_Manager_toldPrepare.J0F s109) = _ from by rw [xk_self]; exact xb46_0_J0 F s109)]
  rw [show txn_Manager_toldPrepare.J1 ⟨RD F, DD F, xk 46 .body (xb46_0 F)⟩ = F.f46.J1 from funext fun s121 => (show xk 46 .body (xb46_0 F) 46 .body txn_Manager_toldPrepare.J1P (txn_Manager_toldPrepare.J1F s121) = _ from by rw [xk_self]; exact xb46_0_J1 F s121)]
  rw [show txn_Manager_toldPrepare.J2 ⟨RD F, DD F, xk 46 .body (xb46_0 F)⟩ = F.f46.J2 from funext fun s128 => (show xk 46 .body (xb46_0 F) 46 .body txn_Manager_toldPrepare.J2P (txn_Manager_toldPrepare.J2F s128) = _ from by rw [xk_self]; exact xb46_0_J2 F s128)]
  rw [show txn_Manager_toldPrepare.J3 ⟨RD F, DD F, xk 46 .body (xb46_0 F)⟩ = F.f46.J3 from funext fun s134 => (show xk 46 .body (xb46_0 F) 46 .body txn_Manager_toldPrepare.J3P (txn_Manager_toldPrepare.J3F s134) = _ from by rw [xk_self]; exact xb46_0_J3 F s134)]
  exact e
theorem st46_J0 {F : Fns} (h : FnsOk F) (s109 : List O) : OLe (txn_Manager_toldPrepare.J0b (RD F) (DD F) s109) (XC 46 .body txn_Manager_toldPrepare.J0P (txn_Manager_toldPrepare.J0F s109)) := by
  intro o e
  refine exit_z (by kernel_rfl) (Z := ⟨RD F, DD F, xk 46 .body (xb46_0 F)⟩) ⟨RD_ok h, DD_ok h, xk_le (xb46_0_ok h)⟩ ?_
  rw [txn_Manager_toldPrepare.J0b_eq]
  exact e
theorem st46_J1 {F : Fns} (h : FnsOk F) (s121 : List O) : OLe (txn_Manager_toldPrepare.J1b (RD F) (DD F) F.f46.J0 s121) (XC 46 .body txn_Manager_toldPrepare.J1P (txn_Manager_toldPrepare.J1F s121)) := by
  intro o e
  refine exit_z (by kernel_rfl) (Z := ⟨RD F, DD F, xk 46 .body (xb46_0 F)⟩) ⟨RD_ok h, DD_ok h, xk_le (xb46_0_ok h)⟩ ?_
  rw [txn_Manager_toldPrepare.J1b_eq]
  rw [show txn_Manager_toldPrepare.J0 ⟨RD F, DD F, xk 46 .body (xb46_0 F)⟩ = F.f46.J0 from funext fun s109 => (show xk 46 .body (xb46_0 F) 46 .body txn_Manager_toldPrepare.J0P (txn_Manager_toldPrepare.J0F s109) = _ from by rw [xk_self]; exact xb46_0_J0 F s109)]
  exact e
theorem st46_J2 {F : Fns} (h : FnsOk F) (s128 : List O) : OLe (txn_Manager_toldPrepare.J2b (RD F) (DD F) F.f46.J1 s128) (XC 46 .body txn_Manager_toldPrepare.J2P (txn_Manager_toldPrepare.J2F s128)) := by
  intro o e
  refine exit_z (by kernel_rfl) (Z := ⟨RD F, DD F, xk 46 .body (xb46_0 F)⟩) ⟨RD_ok h, DD_ok h, xk_le (xb46_0_ok h)⟩ ?_
  rw [txn_Manager_toldPrepare.J2b_eq]
  rw [show txn_Manager_toldPrepare.J1 ⟨RD F, DD F, xk 46 .body (xb46_0 F)⟩ = F.f46.J1 from funext fun s121 => (show xk 46 .body (xb46_0 F) 46 .body txn_Manager_toldPrepare.J1P (txn_Manager_toldPrepare.J1F s121) = _ from by rw [xk_self]; exact xb46_0_J1 F s121)]
  exact e
theorem st46_J3 {F : Fns} (h : FnsOk F) (s134 : List O) : OLe (txn_Manager_toldPrepare.J3b (RD F) (DD F) F.f46.J2 s134) (XC 46 .body txn_Manager_toldPrepare.J3P (txn_Manager_toldPrepare.J3F s134)) := by
  intro o e
  refine exit_z (by kernel_rfl) (Z := ⟨RD F, DD F, xk 46 .body (xb46_0 F)⟩) ⟨RD_ok h, DD_ok h, xk_le (xb46_0_ok h)⟩ ?_
  rw [txn_Manager_toldPrepare.J3b_eq]
  rw [show txn_Manager_toldPrepare.J2 ⟨RD F, DD F, xk 46 .body (xb46_0 F)⟩ = F.f46.J2 from funext fun s128 => (show xk 46 .body (xb46_0 F) 46 .body txn_Manager_toldPrepare.J2P (txn_Manager_toldPrepare.J2F s128) = _ from by rw [xk_self]; exact xb46_0_J2 F s128)]
  exact e
noncomputable def xb47_0 (F : Fns) (p : List Nat) (st : St) : R := bif beqP p txn_Manager_toldEnd.J0P then pk st (txn_Manager_toldEnd.J0F (gO1 (sV st 1)) (gO2 (sV st 1)) (gI (sV st 3)) (gI (List.getD (gC (sV st 6)) 0 V.undef)) (gS (List.getD (gC (sV st 6)) 1 V.undef)) (gI (sV st 8)) (gB (sV st 9)) st.s) (F.f47.J0 (gO1 (sV st 1)) (gO2 (sV st 1)) (gI (sV st 3)) (gI (List.getD (gC (sV st 6)) 0 V.undef)) (gS (List.getD (gC (sV st 6)) 1 V.undef)) (gI (sV st 8)) (gB (sV st 9)) st.s) else bif beqP p txn_Manager_toldEnd.J1P then pk st (txn_Manager_toldEnd.J1F (gO1 (sV st 1)) (gO2 (sV st 1)) (gI (sV st 3)) (gI (List.getD (gC (sV st 6)) 0 V.undef)) (gS (List.getD (gC (sV st 6)) 1 V.undef)) (sV st 8) (sV st 9) st.s) (F.f47.J1 (gO1 (sV st 1)) (gO2 (sV st 1)) (gI (sV st 3)) (gI (List.getD (gC (sV st 6)) 0 V.undef)) (gS (List.getD (gC (sV st 6)) 1 V.undef)) (sV st 8) (sV st 9) st.s) else bif beqP p txn_Manager_toldEnd.J2P then pk st (txn_Manager_toldEnd.J2F (gO1 (sV st 1)) (gO2 (sV st 1)) (gI (List.getD (gC (sV st 6)) 0 V.undef)) (gS (List.getD (gC (sV st 6)) 1 V.undef)) (sV st 8) (sV st 9) (gB (sV st 32)) st.s) (F.f47.J2 (gO1 (sV st 1)) (gO2 (sV st 1)) (gI (List.getD (gC (sV st 6)) 0 V.undef)) (gS (List.getD (gC (sV st 6)) 1 V.undef)) (sV st 8) (sV st 9) (gB (sV st 32)) st.s) else bif beqP p txn_Manager_toldEnd.J3P then pk st (txn_Manager_toldEnd.J3F (sV st 8) (sV st 9) st.s) (F.f47.J3 (sV st 8) (sV st 9) st.s) else bif beqP p txn_Manager_toldEnd.J4P then pk st (txn_Manager_toldEnd.J4F (gO1 (sV st 1)) (gO2 (sV st 1)) (gI (sV st 3)) (gI (List.getD (gC (sV st 6)) 0 V.undef)) (gS (List.getD (gC (sV st 6)) 1 V.undef)) st.s) (F.f47.J4 (gO1 (sV st 1)) (gO2 (sV st 1)) (gI (sV st 3)) (gI (List.getD (gC (sV st 6)) 0 V.undef)) (gS (List.getD (gC (sV st 6)) 1 V.undef)) st.s) else bif beqP p txn_Manager_toldEnd.J5P then pk st (txn_Manager_toldEnd.J5F (gO1 (sV st 1)) (gO2 (sV st 1)) (gI (sV st 3)) (gI (List.getD (gC (sV st 6)) 0 V.undef)) (gS (List.getD (gC (sV st 6)) 1 V.undef)) st.s) (F.f47.J5 (gO1 (sV st 1)) (gO2 (sV st 1)) (gI (sV st 3)) (gI (List.getD (gC (sV st 6)) 0 V.undef)) (gS (List.getD (gC (sV st 6)) 1 V.undef)) st.s) else none
theorem xb47_0_ok {F : Fns} (h : FnsOk F) (p : List Nat) (st : St) : OLe (xb47_0 F p st) (XC 47 .body p st) := bq_le (g := fun p => XC 47 .body p st) (pk_le (XC 47 .body txn_Manager_toldEnd.J0P) (h.f47.J0 _ _ _ _ _ _ _ _)) (bq_le (g := fun p => XC 47 .body p st) (pk_le (XC 47 .body txn_Manager_toldEnd.J1P) (h.f47.J1 _ _ _ _ _ _ _ _)) (bq_le (g := fun p => XC 47 .body p st) (pk_le (XC 47 .body txn_Manager_toldEnd.J2P) (h.f47.J2 _ _ _ _ _ _ _ _)) (bq_le (g := fun p => XC 47 .body p st) (pk_le (XC 47 .body txn_Manager_toldEnd.J3P) (h.f47.J3 _ _ _)) (bq_le (g := fun p => XC 47 .body p st) (pk_le (XC 47 .body txn_Manager_toldEnd.J4P) (h.f47.J4 _ _ _ _ _ _)) (bq_le (g := fun p => XC 47 .body p st) (pk_le (XC 47 .body txn_Manager_toldEnd.J5P) (h.f47.J5 _ _ _ _ _ _)) (OLe.none _))))))
theorem xb47_0_J0 (F : Fns) (i100 : Nat) (o101 : Nat) (n102 : Int) (n103 : Int) (s104 : ByteArray) (n105 : Int) (b106 : Bool) (s107 : List O) : xb47_0 F txn_Manager_toldEnd.J0P (txn_Manager_toldEnd.J0F i100 o101 n102 n103 s104 n105 b106 s107) = F.f47.J0 i100 o101 n102 n103 s104 n105 b106 s107 := (by kernel_rfl : _ = pk (txn_Manager_toldEnd.J0F i100 o101 n102 n103 s104 n105 b106 s107) (txn_Manager_toldEnd.J0F i100 o101 n102 n103 s104 n105 b106 s107) (F.f47.J0 i100 o101 n102 n103 s104 n105 b106 s107)).trans (pk_self _ _)
theorem xb47_0_J1 (F : Fns) (i109 : Nat) (o110 : Nat) (n111 : Int) (n112 : Int) (s113 : ByteArray) (v114 : V) (v115 : V) (s116 : List O) : xb47_0 F txn_Manager_toldEnd.J1P (txn_Manager_toldEnd.J1F i109 o110 n111 n112 s113 v114 v115 s116) = F.f47.J1 i109 o110 n111 n112 s113 v114 v115 s116 := (by kernel_rfl : _ = pk (txn_Manager_toldEnd.J1F i109 o110 n111 n112 s113 v114 v115 s116) (txn_Manager_toldEnd.J1F i109 o110 n111 n112 s113 v114 v115 s116) (F.f47.J1 i109 o110 n111 n112 s113 v114 v115 s116)).trans (pk_self _ _)
theorem xb47_0_J2 (F : Fns) (i117 : Nat) (o118 : Nat) (n119 : Int) (s120 : ByteArray) (v121 : V) (v122 : V) (b123 : Bool) (s124 : List O) : xb47_0 F txn_Manager_toldEnd.J2P (txn_Manager_toldEnd.J2F i117 o118 n119 s120 v121 v122 b123 s124) = F.f47.J2 i117 o118 n119 s120 v121 v122 b123 s124 := (by kernel_rfl : _ = pk (txn_Manager_toldEnd.J2F i117 o118 n119 s120 v121 v122 b123 s124) (txn_Manager_toldEnd.J2F i117 o118 n119 s120 v121 v122 b123 s124) (F.f47.J2 i117 o118 n119 s120 v121 v122 b123 s124)).trans (pk_self _ _)
theorem xb47_0_J3 (F : Fns) (v128 : V) (v129 : V) (s130 : List O) : xb47_0 F txn_Manager_toldEnd.J3P (txn_Manager_toldEnd.J3F v128 v129 s130) = F.f47.J3 v128 v129 s130 := (by kernel_rfl : _ = pk (txn_Manager_toldEnd.J3F v128 v129 s130) (txn_Manager_toldEnd.J3F v128 v129 s130) (F.f47.J3 v128 v129 s130)).trans (pk_self _ _)
theorem xb47_0_J4 (F : Fns) (i132 : Nat) (o133 : Nat) (n134 : Int) (n135 : Int) (s136 : ByteArray) (s137 : List O) : xb47_0 F txn_Manager_toldEnd.J4P (txn_Manager_toldEnd.J4F i132 o133 n134 n135 s136 s137) = F.f47.J4 i132 o133 n134 n135 s136 s137 := (by kernel_rfl : _ = pk (txn_Manager_toldEnd.J4F i132 o133 n134 n135 s136 s137) (txn_Manager_toldEnd.J4F i132 o133 n134 n135 s136 s137) (F.f47.J4 i132 o133 n134 n135 s136 s137)).trans (pk_self _ _)
theorem xb47_0_J5 (F : Fns) (i143 : Nat) (o144 : Nat) (n145 : Int) (n146 : Int) (s147 : ByteArray) (s148 : List O) : xb47_0 F txn_Manager_toldEnd.J5P (txn_Manager_toldEnd.J5F i143 o144 n145 n146 s147 s148) = F.f47.J5 i143 o144 n145 n146 s147 s148 := (by kernel_rfl : _ = pk (txn_Manager_toldEnd.J5F i143 o144 n145 n146 s147 s148) (txn_Manager_toldEnd.J5F i143 o144 n145 n146 s147 s148) (F.f47.J5 i143 o144 n145 n146 s147 s148)).trans (pk_self _ _)
theorem st47_b {F : Fns} (h : FnsOk F) (i0 : Nat) (o1 : Nat) (i2 : Nat) (o3 : Nat) (a4 : Int) (a5 : ByteArray) (a6 : Int) (s : List O) : OLe (txn_Manager_toldEnd.b (RD F) (DD F) F.f47.J0 i0 o1 i2 o3 a4 a5 a6 s) (RUN 47 [(V.obj i0 o1), (V.obj i2 o3), (V.agg [(V.int .i64 a4), (V.str a5)]), (V.int .i64 a6)] s) := by
  intro o e
  refine body_z (Z := ⟨RD F, DD F, xk 47 .body (xb47_0 F)⟩) ⟨RD_ok h, DD_ok h, xk_le (xb47_0_ok h)⟩ ?_
  rw [txn_Manager_toldEnd.b_eq]
  rw [show txn_Manager_toldEnd.J0 ⟨RD F, DD F, xk 47 .body (xb47_0 F)⟩ = F.f47.J0 from funext fun i100 => funext fun o101 => funext fun n102 => funext fun n103 => funext fun s104 => funext fun n105 => funext fun b106 => funext fun s107 => (show xk 47 .body (xb47_0 F) 47 .body txn_Manager_toldEnd.J0P (txn_Manager_toldEnd.J0F i100 o101 n102 n103 s104 n105 b106 s107) = _ from by rw [xk_self]; exact xb47_0_J0 F i100 o101 n102 n103 s104 n105 b106 s107)]
  exact e
theorem st47_J0 {F : Fns} (h : FnsOk F) (i100 : Nat) (o101 : Nat) (n102 : Int) (n103 : Int) (s104 : ByteArray) (n105 : Int) (b106 : Bool) (s107 : List O) : OLe (txn_Manager_toldEnd.J0b (RD F) (DD F) F.f47.J1 F.f47.J4 F.f47.J5 i100 o101 n102 n103 s104 n105 b106 s107) (XC 47 .body txn_Manager_toldEnd.J0P (txn_Manager_toldEnd.J0F i100 o101 n102 n103 s104 n105 b106 s107)) := by
  intro o e
  refine exit_z (by kernel_rfl) (Z := ⟨RD F, DD F, xk 47 .body (xb47_0 F)⟩) ⟨RD_ok h, DD_ok h, xk_le (xb47_0_ok h)⟩ ?_
  rw [txn_Manager_toldEnd.J0b_eq]
  rw [show txn_Manager_toldEnd.J1 ⟨RD F, DD F, xk 47 .body (xb47_0 F)⟩ = F.f47.J1 from funext fun i109 => funext fun o110 => funext fun n111 => funext fun n112 => funext fun s113 => funext fun v114 => funext fun v115 => funext fun s116 => (show xk 47 .body (xb47_0 F) 47 .body txn_Manager_toldEnd.J1P (txn_Manager_toldEnd.J1F i109 o110 n111 n112 s113 v114 v115 s116) = _ from by rw [xk_self]; exact xb47_0_J1 F i109 o110 n111 n112 s113 v114 v115 s116)]
  rw [show txn_Manager_toldEnd.J4 ⟨RD F, DD F, xk 47 .body (xb47_0 F)⟩ = F.f47.J4 from funext fun i132 => funext fun o133 => funext fun n134 => funext fun n135 => funext fun s136 => funext fun s137 => (show xk 47 .body (xb47_0 F) 47 .body txn_Manager_toldEnd.J4P (txn_Manager_toldEnd.J4F i132 o133 n134 n135 s136 s137) = _ from by rw [xk_self]; exact xb47_0_J4 F i132 o133 n134 n135 s136 s137)]
  rw [show txn_Manager_toldEnd.J5 ⟨RD F, DD F, xk 47 .body (xb47_0 F)⟩ = F.f47.J5 from funext fun i143 => funext fun o144 => funext fun n145 => funext fun n146 => funext fun s147 => funext fun s148 => (show xk 47 .body (xb47_0 F) 47 .body txn_Manager_toldEnd.J5P (txn_Manager_toldEnd.J5F i143 o144 n145 n146 s147 s148) = _ from by rw [xk_self]; exact xb47_0_J5 F i143 o144 n145 n146 s147 s148)]
  exact e
theorem st47_J1 {F : Fns} (h : FnsOk F) (i109 : Nat) (o110 : Nat) (n111 : Int) (n112 : Int) (s113 : ByteArray) (v114 : V) (v115 : V) (s116 : List O) : OLe (txn_Manager_toldEnd.J1b (RD F) (DD F) F.f47.J2 i109 o110 n111 n112 s113 v114 v115 s116) (XC 47 .body txn_Manager_toldEnd.J1P (txn_Manager_toldEnd.J1F i109 o110 n111 n112 s113 v114 v115 s116)) := by
  intro o e
  refine exit_z (by kernel_rfl) (Z := ⟨RD F, DD F, xk 47 .body (xb47_0 F)⟩) ⟨RD_ok h, DD_ok h, xk_le (xb47_0_ok h)⟩ ?_
  rw [txn_Manager_toldEnd.J1b_eq]
  rw [show txn_Manager_toldEnd.J2 ⟨RD F, DD F, xk 47 .body (xb47_0 F)⟩ = F.f47.J2 from funext fun i117 => funext fun o118 => funext fun n119 => funext fun s120 => funext fun v121 => funext fun v122 => funext fun b123 => funext fun s124 => (show xk 47 .body (xb47_0 F) 47 .body txn_Manager_toldEnd.J2P (txn_Manager_toldEnd.J2F i117 o118 n119 s120 v121 v122 b123 s124) = _ from by rw [xk_self]; exact xb47_0_J2 F i117 o118 n119 s120 v121 v122 b123 s124)]
  exact e
theorem st47_J2 {F : Fns} (h : FnsOk F) (i117 : Nat) (o118 : Nat) (n119 : Int) (s120 : ByteArray) (v121 : V) (v122 : V) (b123 : Bool) (s124 : List O) : OLe (txn_Manager_toldEnd.J2b (RD F) (DD F) F.f47.J3 i117 o118 n119 s120 v121 v122 b123 s124) (XC 47 .body txn_Manager_toldEnd.J2P (txn_Manager_toldEnd.J2F i117 o118 n119 s120 v121 v122 b123 s124)) := by
  intro o e
  refine exit_z (by kernel_rfl) (Z := ⟨RD F, DD F, xk 47 .body (xb47_0 F)⟩) ⟨RD_ok h, DD_ok h, xk_le (xb47_0_ok h)⟩ ?_
  rw [txn_Manager_toldEnd.J2b_eq]
  rw [show txn_Manager_toldEnd.J3 ⟨RD F, DD F, xk 47 .body (xb47_0 F)⟩ = F.f47.J3 from funext fun v128 => funext fun v129 => funext fun s130 => (show xk 47 .body (xb47_0 F) 47 .body txn_Manager_toldEnd.J3P (txn_Manager_toldEnd.J3F v128 v129 s130) = _ from by rw [xk_self]; exact xb47_0_J3 F v128 v129 s130)]
  exact e
theorem st47_J3 {F : Fns} (h : FnsOk F) (v128 : V) (v129 : V) (s130 : List O) : OLe (txn_Manager_toldEnd.J3b (RD F) (DD F) v128 v129 s130) (XC 47 .body txn_Manager_toldEnd.J3P (txn_Manager_toldEnd.J3F v128 v129 s130)) := by
  intro o e
  refine exit_z (by kernel_rfl) (Z := ⟨RD F, DD F, xk 47 .body (xb47_0 F)⟩) ⟨RD_ok h, DD_ok h, xk_le (xb47_0_ok h)⟩ ?_
  rw [txn_Manager_toldEnd.J3b_eq]
  exact e
theorem st47_J4 {F : Fns} (h : FnsOk F) (i132 : Nat) (o133 : Nat) (n134 : Int) (n135 : Int) (s136 : ByteArray) (s137 : List O) : OLe (txn_Manager_toldEnd.J4b (RD F) (DD F) F.f47.J1 i132 o133 n134 n135 s136 s137) (XC 47 .body txn_Manager_toldEnd.J4P (txn_Manager_toldEnd.J4F i132 o133 n134 n135 s136 s137)) := by
  intro o e
  refine exit_z (by kernel_rfl) (Z := ⟨RD F, DD F, xk 47 .body (xb47_0 F)⟩) ⟨RD_ok h, DD_ok h, xk_le (xb47_0_ok h)⟩ ?_
  rw [txn_Manager_toldEnd.J4b_eq]
  rw [show txn_Manager_toldEnd.J1 ⟨RD F, DD F, xk 47 .body (xb47_0 F)⟩ = F.f47.J1 from funext fun i109 => funext fun o110 => funext fun n111 => funext fun n112 => funext fun s113 => funext fun v114 => funext fun v115 => funext fun s116 => (show xk 47 .body (xb47_0 F) 47 .body txn_Manager_toldEnd.J1P (txn_Manager_toldEnd.J1F i109 o110 n111 n112 s113 v114 v115 s116) = _ from by rw [xk_self]; exact xb47_0_J1 F i109 o110 n111 n112 s113 v114 v115 s116)]
  exact e
theorem st47_J5 {F : Fns} (h : FnsOk F) (i143 : Nat) (o144 : Nat) (n145 : Int) (n146 : Int) (s147 : ByteArray) (s148 : List O) : OLe (txn_Manager_toldEnd.J5b (RD F) (DD F) F.f47.J4 i143 o144 n145 n146 s147 s148) (XC 47 .body txn_Manager_toldEnd.J5P (txn_Manager_toldEnd.J5F i143 o144 n145 n146 s147 s148)) := by
  intro o e
  refine exit_z (by kernel_rfl) (Z := ⟨RD F, DD F, xk 47 .body (xb47_0 F)⟩) ⟨RD_ok h, DD_ok h, xk_le (xb47_0_ok h)⟩ ?_
  rw [txn_Manager_toldEnd.J5b_eq]
  rw [show txn_Manager_toldEnd.J4 ⟨RD F, DD F, xk 47 .body (xb47_0 F)⟩ = F.f47.J4 from funext fun i132 => funext fun o133 => funext fun n134 => funext fun n135 => funext fun s136 => funext fun s137 => (show xk 47 .body (xb47_0 F) 47 .body txn_Manager_toldEnd.J4P (txn_Manager_toldEnd.J4F i132 o133 n134 n135 s136 s137) = _ from by rw [xk_self]; exact xb47_0_J4 F i132 o133 n134 n135 s136 s137)]
  exact e
noncomputable def xb48_0 (F : Fns) (p : List Nat) (st : St) : R := bif beqP p txn_Manager_toldOne.J0P then pk st (txn_Manager_toldOne.J0F (gO1 (sV st 1)) (gO2 (sV st 1)) (gI (sV st 3)) (gI (List.getD (gC (sV st 6)) 0 V.undef)) (gS (List.getD (gC (sV st 6)) 1 V.undef)) (sV st 23) st.s) (F.f48.J0 (gO1 (sV st 1)) (gO2 (sV st 1)) (gI (sV st 3)) (gI (List.getD (gC (sV st 6)) 0 V.undef)) (gS (List.getD (gC (sV st 6)) 1 V.undef)) (sV st 23) st.s) else bif beqP p txn_Manager_toldOne.J1P then pk st (txn_Manager_toldOne.J1F (gO1 (sV st 1)) (gO2 (sV st 1)) (gI (List.getD (gC (sV st 6)) 0 V.undef)) (gS (List.getD (gC (sV st 6)) 1 V.undef)) (sV st 23) (gB (sV st 35)) st.s) (F.f48.J1 (gO1 (sV st 1)) (gO2 (sV st 1)) (gI (List.getD (gC (sV st 6)) 0 V.undef)) (gS (List.getD (gC (sV st 6)) 1 V.undef)) (sV st 23) (gB (sV st 35)) st.s) else bif beqP p txn_Manager_toldOne.J2P then pk st (txn_Manager_toldOne.J2F (sV st 23) st.s) (F.f48.J2 (sV st 23) st.s) else bif beqP p txn_Manager_toldOne.J3P then pk st (txn_Manager_toldOne.J3F (gO1 (sV st 1)) (gO2 (sV st 1)) (gI (sV st 3)) (gI (List.getD (gC (sV st 6)) 0 V.undef)) (gS (List.getD (gC (sV st 6)) 1 V.undef)) (sV st 23) st.s) (F.f48.J3 (gO1 (sV st 1)) (gO2 (sV st 1)) (gI (sV st 3)) (gI (List.getD (gC (sV st 6)) 0 V.undef)) (gS (List.getD (gC (sV st 6)) 1 V.undef)) (sV st 23) st.s) else bif beqP p txn_Manager_toldOne.J4P then pk st (txn_Manager_toldOne.J4F (gO1 (sV st 1)) (gO2 (sV st 1)) (gI (sV st 3)) (gI (List.getD (gC (sV st 6)) 0 V.undef)) (gS (List.getD (gC (sV st 6)) 1 V.undef)) (gB (sV st 23)) st.s) (F.f48.J4 (gO1 (sV st 1)) (gO2 (sV st 1)) (gI (sV st 3)) (gI (List.getD (gC (sV st 6)) 0 V.undef)) (gS (List.getD (gC (sV st 6)) 1 V.undef)) (gB (sV st 23)) st.s) else bif beqP p txn_Manager_toldOne.J5P then pk st (txn_Manager_toldOne.J5F (gO1 (sV st 1)) (gO2 (sV st 1)) (gI (sV st 3)) (gI (List.getD (gC (sV st 6)) 0 V.undef)) (gS (List.getD (gC (sV st 6)) 1 V.undef)) (sV st 23) st.s) (F.f48.J5 (gO1 (sV st 1)) (gO2 (sV st 1)) (gI (sV st 3)) (gI (List.getD (gC (sV st 6)) 0 V.undef)) (gS (List.getD (gC (sV st 6)) 1 V.undef)) (sV st 23) st.s) else none
theorem xb48_0_ok {F : Fns} (h : FnsOk F) (p : List Nat) (st : St) : OLe (xb48_0 F p st) (XC 48 .body p st) := bq_le (g := fun p => XC 48 .body p st) (pk_le (XC 48 .body txn_Manager_toldOne.J0P) (h.f48.J0 _ _ _ _ _ _ _)) (bq_le (g := fun p => XC 48 .body p st) (pk_le (XC 48 .body txn_Manager_toldOne.J1P) (h.f48.J1 _ _ _ _ _ _ _)) (bq_le (g := fun p => XC 48 .body p st) (pk_le (XC 48 .body txn_Manager_toldOne.J2P) (h.f48.J2 _ _)) (bq_le (g := fun p => XC 48 .body p st) (pk_le (XC 48 .body txn_Manager_toldOne.J3P) (h.f48.J3 _ _ _ _ _ _ _)) (bq_le (g := fun p => XC 48 .body p st) (pk_le (XC 48 .body txn_Manager_toldOne.J4P) (h.f48.J4 _ _ _ _ _ _ _)) (bq_le (g := fun p => XC 48 .body p st) (pk_le (XC 48 .body txn_Manager_toldOne.J5P) (h.f48.J5 _ _ _ _ _ _ _)) (OLe.none _))))))
theorem xb48_0_J0 (F : Fns) (i102 : Nat) (o103 : Nat) (n104 : Int) (n105 : Int) (s106 : ByteArray) (v107 : V) (s108 : List O) : xb48_0 F txn_Manager_toldOne.J0P (txn_Manager_toldOne.J0F i102 o103 n104 n105 s106 v107 s108) = F.f48.J0 i102 o103 n104 n105 s106 v107 s108 := (by kernel_rfl : _ = pk (txn_Manager_toldOne.J0F i102 o103 n104 n105 s106 v107 s108) (txn_Manager_toldOne.J0F i102 o103 n104 n105 s106 v107 s108) (F.f48.J0 i102 o103 n104 n105 s106 v107 s108)).trans (pk_self _ _)
theorem xb48_0_J1 (F : Fns) (i109 : Nat) (o110 : Nat) (n111 : Int) (s112 : ByteArray) (v113 : V) (b114 : Bool) (s115 : List O) : xb48_0 F txn_Manager_toldOne.J1P (txn_Manager_toldOne.J1F i109 o110 n111 s112 v113 b114 s115) = F.f48.J1 i109 o110 n111 s112 v113 b114 s115 := (by kernel_rfl : _ = pk (txn_Manager_toldOne.J1F i109 o110 n111 s112 v113 b114 s115) (txn_Manager_toldOne.J1F i109 o110 n111 s112 v113 b114 s115) (F.f48.J1 i109 o110 n111 s112 v113 b114 s115)).trans (pk_self _ _)
theorem xb48_0_J2 (F : Fns) (v119 : V) (s120 : List O) : xb48_0 F txn_Manager_toldOne.J2P (txn_Manager_toldOne.J2F v119 s120) = F.f48.J2 v119 s120 := (by kernel_rfl : _ = pk (txn_Manager_toldOne.J2F v119 s120) (txn_Manager_toldOne.J2F v119 s120) (F.f48.J2 v119 s120)).trans (pk_self _ _)
theorem xb48_0_J3 (F : Fns) (i122 : Nat) (o123 : Nat) (n124 : Int) (n125 : Int) (s126 : ByteArray) (v127 : V) (s128 : List O) : xb48_0 F txn_Manager_toldOne.J3P (txn_Manager_toldOne.J3F i122 o123 n124 n125 s126 v127 s128) = F.f48.J3 i122 o123 n124 n125 s126 v127 s128 := (by kernel_rfl : _ = pk (txn_Manager_toldOne.J3F i122 o123 n124 n125 s126 v127 s128) (txn_Manager_toldOne.J3F i122 o123 n124 n125 s126 v127 s128) (F.f48.J3 i122 o123 n124 n125 s126 v127 s128)).trans (pk_self _ _)
theorem xb48_0_J4 (F : Fns) (i129 : Nat) (o130 : Nat) (n131 : Int) (n132 : Int) (s133 : ByteArray) (b134 : Bool) (s135 : List O) : xb48_0 F txn_Manager_toldOne.J4P (txn_Manager_toldOne.J4F i129 o130 n131 n132 s133 b134 s135) = F.f48.J4 i129 o130 n131 n132 s133 b134 s135 := (by kernel_rfl : _ = pk (txn_Manager_toldOne.J4F i129 o130 n131 n132 s133 b134 s135) (txn_Manager_toldOne.J4F i129 o130 n131 n132 s133 b134 s135) (F.f48.J4 i129 o130 n131 n132 s133 b134 s135)).trans (pk_self _ _)
theorem xb48_0_J5 (F : Fns) (i137 : Nat) (o138 : Nat) (n139 : Int) (n140 : Int) (s141 : ByteArray) (v142 : V) (s143 : List O) : xb48_0 F txn_Manager_toldOne.J5P (txn_Manager_toldOne.J5F i137 o138 n139 n140 s141 v142 s143) = F.f48.J5 i137 o138 n139 n140 s141 v142 s143 := (by kernel_rfl : _ = pk (txn_Manager_toldOne.J5F i137 o138 n139 n140 s141 v142 s143) (txn_Manager_toldOne.J5F i137 o138 n139 n140 s141 v142 s143) (F.f48.J5 i137 o138 n139 n140 s141 v142 s143)).trans (pk_self _ _)
theorem st48_b {F : Fns} (h : FnsOk F) (i0 : Nat) (o1 : Nat) (i2 : Nat) (o3 : Nat) (a4 : Int) (a5 : ByteArray) (a6 : Int) (s : List O) : OLe (txn_Manager_toldOne.b (RD F) (DD F) F.f48.J0 F.f48.J3 F.f48.J4 i0 o1 i2 o3 a4 a5 a6 s) (RUN 48 [(V.obj i0 o1), (V.obj i2 o3), (V.agg [(V.int .i64 a4), (V.str a5)]), (V.int .i64 a6)] s) := by
  intro o e
  refine body_z (Z := ⟨RD F, DD F, xk 48 .body (xb48_0 F)⟩) ⟨RD_ok h, DD_ok h, xk_le (xb48_0_ok h)⟩ ?_
  rw [txn_Manager_toldOne.b_eq]
  rw [show txn_Manager_toldOne.J0 ⟨RD F, DD F, xk 48 .body (xb48_0 F)⟩ = F.f48.J0 from funext fun i102 => funext fun o103 => funext fun n104 => funext fun n105 => funext fun s106 => funext fun v107 => funext fun s108 => (show xk 48 .body (xb48_0 F) 48 .body txn_Manager_toldOne.J0P (txn_Manager_toldOne.J0F i102 o103 n104 n105 s106 v107 s108) = _ from by rw [xk_self]; exact xb48_0_J0 F i102 o103 n104 n105 s106 v107 s108)]
  rw [show txn_Manager_toldOne.J3 ⟨RD F, DD F, xk 48 .body (xb48_0 F)⟩ = F.f48.J3 from funext fun i122 => funext fun o123 => funext fun n124 => funext fun n125 => funext fun s126 => funext fun v127 => funext fun s128 => (show xk 48 .body (xb48_0 F) 48 .body txn_Manager_toldOne.J3P (txn_Manager_toldOne.J3F i122 o123 n124 n125 s126 v127 s128) = _ from by rw [xk_self]; exact xb48_0_J3 F i122 o123 n124 n125 s126 v127 s128)]
  rw [show txn_Manager_toldOne.J4 ⟨RD F, DD F, xk 48 .body (xb48_0 F)⟩ = F.f48.J4 from funext fun i129 => funext fun o130 => funext fun n131 => funext fun n132 => funext fun s133 => funext fun b134 => funext fun s135 => (show xk 48 .body (xb48_0 F) 48 .body txn_Manager_toldOne.J4P (txn_Manager_toldOne.J4F i129 o130 n131 n132 s133 b134 s135) = _ from by rw [xk_self]; exact xb48_0_J4 F i129 o130 n131 n132 s133 b134 s135)]
  exact e
theorem st48_J0 {F : Fns} (h : FnsOk F) (i102 : Nat) (o103 : Nat) (n104 : Int) (n105 : Int) (s106 : ByteArray) (v107 : V) (s108 : List O) : OLe (txn_Manager_toldOne.J0b (RD F) (DD F) F.f48.J1 i102 o103 n104 n105 s106 v107 s108) (XC 48 .body txn_Manager_toldOne.J0P (txn_Manager_toldOne.J0F i102 o103 n104 n105 s106 v107 s108)) := by
  intro o e
  refine exit_z (by kernel_rfl) (Z := ⟨RD F, DD F, xk 48 .body (xb48_0 F)⟩) ⟨RD_ok h, DD_ok h, xk_le (xb48_0_ok h)⟩ ?_
  rw [txn_Manager_toldOne.J0b_eq]
  rw [show txn_Manager_toldOne.J1 ⟨RD F, DD F, xk 48 .body (xb48_0 F)⟩ = F.f48.J1 from funext fun i109 => funext fun o110 => funext fun n111 => funext fun s112 => funext fun v113 => funext fun b114 => funext fun s115 => (show xk 48 .body (xb48_0 F) 48 .body txn_Manager_toldOne.J1P (txn_Manager_toldOne.J1F i109 o110 n111 s112 v113 b114 s115) = _ from by rw [xk_self]; exact xb48_0_J1 F i109 o110 n111 s112 v113 b114 s115)]
  exact e
theorem st48_J1 {F : Fns} (h : FnsOk F) (i109 : Nat) (o110 : Nat) (n111 : Int) (s112 : ByteArray) (v113 : V) (b114 : Bool) (s115 : List O) : OLe (txn_Manager_toldOne.J1b (RD F) (DD F) F.f48.J2 i109 o110 n111 s112 v113 b114 s115) (XC 48 .body txn_Manager_toldOne.J1P (txn_Manager_toldOne.J1F i109 o110 n111 s112 v113 b114 s115)) := by
  intro o e
  refine exit_z (by kernel_rfl) (Z := ⟨RD F, DD F, xk 48 .body (xb48_0 F)⟩) ⟨RD_ok h, DD_ok h, xk_le (xb48_0_ok h)⟩ ?_
  rw [txn_Manager_toldOne.J1b_eq]
  rw [show txn_Manager_toldOne.J2 ⟨RD F, DD F, xk 48 .body (xb48_0 F)⟩ = F.f48.J2 from funext fun v119 => funext fun s120 => (show xk 48 .body (xb48_0 F) 48 .body txn_Manager_toldOne.J2P (txn_Manager_toldOne.J2F v119 s120) = _ from by rw [xk_self]; exact xb48_0_J2 F v119 s120)]
  exact e
theorem st48_J2 {F : Fns} (h : FnsOk F) (v119 : V) (s120 : List O) : OLe (txn_Manager_toldOne.J2b (RD F) (DD F) v119 s120) (XC 48 .body txn_Manager_toldOne.J2P (txn_Manager_toldOne.J2F v119 s120)) := by
  intro o e
  refine exit_z (by kernel_rfl) (Z := ⟨RD F, DD F, xk 48 .body (xb48_0 F)⟩) ⟨RD_ok h, DD_ok h, xk_le (xb48_0_ok h)⟩ ?_
  rw [txn_Manager_toldOne.J2b_eq]
  exact e
theorem st48_J3 {F : Fns} (h : FnsOk F) (i122 : Nat) (o123 : Nat) (n124 : Int) (n125 : Int) (s126 : ByteArray) (v127 : V) (s128 : List O) : OLe (txn_Manager_toldOne.J3b (RD F) (DD F) F.f48.J0 i122 o123 n124 n125 s126 v127 s128) (XC 48 .body txn_Manager_toldOne.J3P (txn_Manager_toldOne.J3F i122 o123 n124 n125 s126 v127 s128)) := by
  intro o e
  refine exit_z (by kernel_rfl) (Z := ⟨RD F, DD F, xk 48 .body (xb48_0 F)⟩) ⟨RD_ok h, DD_ok h, xk_le (xb48_0_ok h)⟩ ?_
  rw [txn_Manager_toldOne.J3b_eq]
  rw [show txn_Manager_toldOne.J0 ⟨RD F, DD F, xk 48 .body (xb48_0 F)⟩ = F.f48.J0 from funext fun i102 => funext fun o103 => funext fun n104 => funext fun n105 => funext fun s106 => funext fun v107 => funext fun s108 => (show xk 48 .body (xb48_0 F) 48 .body txn_Manager_toldOne.J0P (txn_Manager_toldOne.J0F i102 o103 n104 n105 s106 v107 s108) = _ from by rw [xk_self]; exact xb48_0_J0 F i102 o103 n104 n105 s106 v107 s108)]
  exact e
theorem st48_J4 {F : Fns} (h : FnsOk F) (i129 : Nat) (o130 : Nat) (n131 : Int) (n132 : Int) (s133 : ByteArray) (b134 : Bool) (s135 : List O) : OLe (txn_Manager_toldOne.J4b (RD F) (DD F) F.f48.J5 i129 o130 n131 n132 s133 b134 s135) (XC 48 .body txn_Manager_toldOne.J4P (txn_Manager_toldOne.J4F i129 o130 n131 n132 s133 b134 s135)) := by
  intro o e
  refine exit_z (by kernel_rfl) (Z := ⟨RD F, DD F, xk 48 .body (xb48_0 F)⟩) ⟨RD_ok h, DD_ok h, xk_le (xb48_0_ok h)⟩ ?_
  rw [txn_Manager_toldOne.J4b_eq]
  rw [show txn_Manager_toldOne.J5 ⟨RD F, DD F, xk 48 .body (xb48_0 F)⟩ = F.f48.J5 from funext fun i137 => funext fun o138 => funext fun n139 => funext fun n140 => funext fun s141 => funext fun v142 => funext fun s143 => (show xk 48 .body (xb48_0 F) 48 .body txn_Manager_toldOne.J5P (txn_Manager_toldOne.J5F i137 o138 n139 n140 s141 v142 s143) = _ from by rw [xk_self]; exact xb48_0_J5 F i137 o138 n139 n140 s141 v142 s143)]
  exact e
theorem st48_J5 {F : Fns} (h : FnsOk F) (i137 : Nat) (o138 : Nat) (n139 : Int) (n140 : Int) (s141 : ByteArray) (v142 : V) (s143 : List O) : OLe (txn_Manager_toldOne.J5b (RD F) (DD F) F.f48.J3 i137 o138 n139 n140 s141 v142 s143) (XC 48 .body txn_Manager_toldOne.J5P (txn_Manager_toldOne.J5F i137 o138 n139 n140 s141 v142 s143)) := by
  intro o e
  refine exit_z (by kernel_rfl) (Z := ⟨RD F, DD F, xk 48 .body (xb48_0 F)⟩) ⟨RD_ok h, DD_ok h, xk_le (xb48_0_ok h)⟩ ?_
  rw [txn_Manager_toldOne.J5b_eq]
  rw [show txn_Manager_toldOne.J3 ⟨RD F, DD F, xk 48 .body (xb48_0 F)⟩ = F.f48.J3 from funext fun i122 => funext fun o123 => funext fun n124 => funext fun n125 => funext fun s126 => funext fun v127 => funext fun s128 => (show xk 48 .body (xb48_0 F) 48 .body txn_Manager_toldOne.J3P (txn_Manager_toldOne.J3F i122 o123 n124 n125 s126 v127 s128) = _ from by rw [xk_self]; exact xb48_0_J3 F i122 o123 n124 n125 s126 v127 s128)]
  exact e
noncomputable def xb49_0 (F : Fns) (p : List Nat) (st : St) : R := bif beqP p txn_Manager_toldForget.J0P then pk st (txn_Manager_toldForget.J0F st.s) (F.f49.J0 st.s) else none
theorem xb49_0_ok {F : Fns} (h : FnsOk F) (p : List Nat) (st : St) : OLe (xb49_0 F p st) (XC 49 .body p st) := bq_le (g := fun p => XC 49 .body p st) (pk_le (XC 49 .body txn_Manager_toldForget.J0P) (h.f49.J0 _)) (OLe.none _)
theorem xb49_0_J0 (F : Fns) (s105 : List O) : xb49_0 F txn_Manager_toldForget.J0P (txn_Manager_toldForget.J0F s105) = F.f49.J0 s105 := (by kernel_rfl : _ = pk (txn_Manager_toldForget.J0F s105) (txn_Manager_toldForget.J0F s105) (F.f49.J0 s105)).trans (pk_self _ _)
theorem st49_b {F : Fns} (h : FnsOk F) (i0 : Nat) (o1 : Nat) (i2 : Nat) (o3 : Nat) (a4 : Int) (a5 : ByteArray) (a6 : Int) (s : List O) : OLe (txn_Manager_toldForget.b (RD F) (DD F) F.f49.J0 i0 o1 i2 o3 a4 a5 a6 s) (RUN 49 [(V.obj i0 o1), (V.obj i2 o3), (V.agg [(V.int .i64 a4), (V.str a5)]), (V.int .i64 a6)] s) := by
  intro o e
  refine body_z (Z := ⟨RD F, DD F, xk 49 .body (xb49_0 F)⟩) ⟨RD_ok h, DD_ok h, xk_le (xb49_0_ok h)⟩ ?_
  rw [txn_Manager_toldForget.b_eq]
  rw [show txn_Manager_toldForget.J0 ⟨RD F, DD F, xk 49 .body (xb49_0 F)⟩ = F.f49.J0 from funext fun s105 => (show xk 49 .body (xb49_0 F) 49 .body txn_Manager_toldForget.J0P (txn_Manager_toldForget.J0F s105) = _ from by rw [xk_self]; exact xb49_0_J0 F s105)]
  exact e
theorem st49_J0 {F : Fns} (h : FnsOk F) (s105 : List O) : OLe (txn_Manager_toldForget.J0b (RD F) (DD F) s105) (XC 49 .body txn_Manager_toldForget.J0P (txn_Manager_toldForget.J0F s105)) := by
  intro o e
  refine exit_z (by kernel_rfl) (Z := ⟨RD F, DD F, xk 49 .body (xb49_0 F)⟩) ⟨RD_ok h, DD_ok h, xk_le (xb49_0_ok h)⟩ ?_
  rw [txn_Manager_toldForget.J0b_eq]
  exact e
theorem st50_b {F : Fns} (h : FnsOk F) (i0 : Nat) (o1 : Nat) (i2 : Nat) (o3 : Nat) (a4 : Int) (a5 : ByteArray) (a6 : Int) (s : List O) : OLe (txn_answers_1.b (RD F) (DD F) i0 o1 i2 o3 a4 a5 a6 s) (RUN 50 [(V.obj i0 o1), (V.obj i2 o3), (V.agg [(V.int .i64 a4), (V.str a5)]), (V.int .i64 a6)] s) := by
  intro o e
  refine body_z (Z := ⟨RD F, DD F, fun _ _ _ _ => none⟩) ⟨RD_ok h, DD_ok h, fun _ _ _ _ => OLe.none _⟩ ?_
  rw [txn_answers_1.b_eq]
  exact e
noncomputable def xb53_0 (F : Fns) (p : List Nat) (st : St) : R := bif beqP p slices_Index_string_string.L0P then pk st (slices_Index_string_string.L0F (sV st 0) (gS (sV st 1)) (gI (sV st 7)) (gI (sV st 8)) st.s) (F.f53.L0 (sV st 0) (gS (sV st 1)) (gI (sV st 7)) (gI (sV st 8)) st.s) else none
theorem xb53_0_ok {F : Fns} (h : FnsOk F) (p : List Nat) (st : St) : OLe (xb53_0 F p st) (XC 53 .body p st) := bq_le (g := fun p => XC 53 .body p st) (pk_le (XC 53 .body slices_Index_string_string.L0P) (h.f53.L0 _ _ _ _ _)) (OLe.none _)
theorem xb53_0_L0 (F : Fns) (v101 : V) (s102 : ByteArray) (n103 : Int) (n104 : Int) (s105 : List O) : xb53_0 F slices_Index_string_string.L0P (slices_Index_string_string.L0F v101 s102 n103 n104 s105) = F.f53.L0 v101 s102 n103 n104 s105 := (by kernel_rfl : _ = pk (slices_Index_string_string.L0F v101 s102 n103 n104 s105) (slices_Index_string_string.L0F v101 s102 n103 n104 s105) (F.f53.L0 v101 s102 n103 n104 s105)).trans (pk_self _ _)
theorem st53_b {F : Fns} (h : FnsOk F) (v0 : V) (a1 : ByteArray) (s : List O) : OLe (slices_Index_string_string.b (RD F) (DD F) F.f53.L0 v0 a1 s) (RUN 53 [v0, (V.str a1)] s) := by
  intro o e
  refine body_z (Z := ⟨RD F, DD F, xk 53 .body (xb53_0 F)⟩) ⟨RD_ok h, DD_ok h, xk_le (xb53_0_ok h)⟩ ?_
  rw [slices_Index_string_string.b_eq]
  rw [show slices_Index_string_string.L0 ⟨RD F, DD F, xk 53 .body (xb53_0 F)⟩ = F.f53.L0 from funext fun v101 => funext fun s102 => funext fun n103 => funext fun n104 => funext fun s105 => (show xk 53 .body (xb53_0 F) 53 .body slices_Index_string_string.L0P (slices_Index_string_string.L0F v101 s102 n103 n104 s105) = _ from by rw [xk_self]; exact xb53_0_L0 F v101 s102 n103 n104 s105)]
  exact e
theorem st53_L0 {F : Fns} (h : FnsOk F) (v101 : V) (s102 : ByteArray) (n103 : Int) (n104 : Int) (s105 : List O) : OLe (slices_Index_string_string.L0b (RD F) (DD F) F.f53.L0 v101 s102 n103 n104 s105) (XC 53 .body slices_Index_string_string.L0P (slices_Index_string_string.L0F v101 s102 n103 n104 s105)) := by
  intro o e
  refine round_z (Z := ⟨RD F, DD F, xk 53 .body (xb53_0 F)⟩) ⟨RD_ok h, DD_ok h, xk_le (xb53_0_ok h)⟩ ?_
  rw [slices_Index_string_string.L0b_eq]
  rw [show slices_Index_string_string.L0 ⟨RD F, DD F, xk 53 .body (xb53_0 F)⟩ = F.f53.L0 from funext fun v101 => funext fun s102 => funext fun n103 => funext fun n104 => funext fun s105 => (show xk 53 .body (xb53_0 F) 53 .body slices_Index_string_string.L0P (slices_Index_string_string.L0F v101 s102 n103 n104 s105) = _ from by rw [xk_self]; exact xb53_0_L0 F v101 s102 n103 n104 s105)]
  exact e
noncomputable def xb54_0 (F : Fns) (p : List Nat) (st : St) : R := bif beqP p txn_Manager_prepared.J0P then pk st (txn_Manager_prepared.J0F (gO1 (sV st 0)) (gO2 (sV st 0)) (gO1 (sV st 1)) (gO2 (sV st 1)) (gB (sV st 9)) st.s) (F.f54.J0 (gO1 (sV st 0)) (gO2 (sV st 0)) (gO1 (sV st 1)) (gO2 (sV st 1)) (gB (sV st 9)) st.s) else bif beqP p txn_Manager_prepared.L1P then pk st (txn_Manager_prepared.L1F (gO1 (sV st 0)) (gO2 (sV st 0)) (gO1 (sV st 1)) (gO2 (sV st 1)) (sV st 59) (gI (sV st 60)) (gI (sV st 61)) st.s) (F.f54.L1 (gO1 (sV st 0)) (gO2 (sV st 0)) (gO1 (sV st 1)) (gO2 (sV st 1)) (sV st 59) (gI (sV st 60)) (gI (sV st 61)) st.s) else bif beqP p txn_Manager_prepared.J2P then pk st (txn_Manager_prepared.J2F (gO1 (sV st 0)) (gO2 (sV st 0)) (gO1 (sV st 1)) (gO2 (sV st 1)) (sV st 59) (gI (sV st 60)) (gI (sV st 61)) st.s) (F.f54.J2 (gO1 (sV st 0)) (gO2 (sV st 0)) (gO1 (sV st 1)) (gO2 (sV st 1)) (sV st 59) (gI (sV st 60)) (gI (sV st 61)) st.s) else bif beqP p txn_Manager_prepared.J3P then pk st (txn_Manager_prepared.J3F (gO1 (sV st 0)) (gO2 (sV st 0)) (gO1 (sV st 1)) (gO2 (sV st 1)) st.s) (F.f54.J3 (gO1 (sV st 0)) (gO2 (sV st 0)) (gO1 (sV st 1)) (gO2 (sV st 1)) st.s) else bif beqP p txn_Manager_prepared.J4P then pk st (txn_Manager_prepared.J4F (gO1 (sV st 1)) (gO2 (sV st 1)) st.s) (F.f54.J4 (gO1 (sV st 1)) (gO2 (sV st 1)) st.s) else bif beqP p txn_Manager_prepared.L5P then pk st (txn_Manager_prepared.L5F (gO1 (sV st 1)) (gO2 (sV st 1)) (sV st 121) (gI (sV st 122)) (gI (sV st 123)) st.s) (F.f54.L5 (gO1 (sV st 1)) (gO2 (sV st 1)) (sV st 121) (gI (sV st 122)) (gI (sV st 123)) st.s) else bif beqP p txn_Manager_prepared.J6P then pk st (txn_Manager_prepared.J6F (gO1 (sV st 1)) (gO2 (sV st 1)) (sV st 121) (gI (sV st 122)) (gI (sV st 123)) st.s) (F.f54.J6 (gO1 (sV st 1)) (gO2 (sV st 1)) (sV st 121) (gI (sV st 122)) (gI (sV st 123)) st.s) else none
theorem xb54_0_ok {F : Fns} (h : FnsOk F) (p : List Nat) (st : St) : OLe (xb54_0 F p st) (XC 54 .body p st) := bq_le (g := fun p => XC 54 .body p st) (pk_le (XC 54 .body txn_Manager_prepared.J0P) (h.f54.J0 _ _ _ _ _ _)) (bq_le (g := fun p => XC 54 .body p st) (pk_le (XC 54 .body txn_Manager_prepared.L1P) (h.f54.L1 _ _ _ _ _ _ _ _)) (bq_le (g := fun p => XC 54 .body p st) (pk_le (XC 54 .body txn_Manager_prepared.J2P) (h.f54.J2 _ _ _ _ _ _ _ _)) (bq_le (g := fun p => XC 54 .body p st) (pk_le (XC 54 .body txn_Manager_prepared.J3P) (h.f54.J3 _ _ _ _ _)) (bq_le (g := fun p => XC 54 .body p st) (pk_le (XC 54 .body txn_Manager_prepared.J4P) (h.f54.J4 _ _ _)) (bq_le (g := fun p => XC 54 .body p st) (pk_le (XC 54 .body txn_Manager_prepared.L5P) (h.f54.L5 _ _ _ _ _ _)) (bq_le (g := fun p => XC 54 .body p st) (pk_le (XC 54 .body txn_Manager_prepared.J6P) (h.f54.J6 _ _ _ _ _ _)) (OLe.none _)))))))
theorem xb54_0_J0 (F : Fns) (i104 : Nat) (o105 : Nat) (i106 : Nat) (o107 : Nat) (b108 : Bool) (s109 : List O) : xb54_0 F txn_Manager_prepared.J0P (txn_Manager_prepared.J0F i104 o105 i106 o107 b108 s109) = F.f54.J0 i104 o105 i106 o107 b108 s109 := (by kernel_rfl : _ = pk (txn_Manager_prepared.J0F i104 o105 i106 o107 b108 s109) (txn_Manager_prepared.J0F i104 o105 i106 o107 b108 s109) (F.f54.J0 i104 o105 i106 o107 b108 s109)).trans (pk_self _ _)
theorem xb54_0_L1 (F : Fns) (i126 : Nat) (o127 : Nat) (i128 : Nat) (o129 : Nat) (v130 : V) (n131 : Int) (n132 : Int) (s133 : List O) : xb54_0 F txn_Manager_prepared.L1P (txn_Manager_prepared.L1F i126 o127 i128 o129 v130 n131 n132 s133) = F.f54.L1 i126 o127 i128 o129 v130 n131 n132 s133 := (by kernel_rfl : _ = pk (txn_Manager_prepared.L1F i126 o127 i128 o129 v130 n131 n132 s133) (txn_Manager_prepared.L1F i126 o127 i128 o129 v130 n131 n132 s133) (F.f54.L1 i126 o127 i128 o129 v130 n131 n132 s133)).trans (pk_self _ _)
theorem xb54_0_J2 (F : Fns) (i142 : Nat) (o143 : Nat) (i144 : Nat) (o145 : Nat) (v146 : V) (n147 : Int) (n148 : Int) (s149 : List O) : xb54_0 F txn_Manager_prepared.J2P (txn_Manager_prepared.J2F i142 o143 i144 o145 v146 n147 n148 s149) = F.f54.J2 i142 o143 i144 o145 v146 n147 n148 s149 := (by kernel_rfl : _ = pk (txn_Manager_prepared.J2F i142 o143 i144 o145 v146 n147 n148 s149) (txn_Manager_prepared.J2F i142 o143 i144 o145 v146 n147 n148 s149) (F.f54.J2 i142 o143 i144 o145 v146 n147 n148 s149)).trans (pk_self _ _)
theorem xb54_0_J3 (F : Fns) (i155 : Nat) (o156 : Nat) (i157 : Nat) (o158 : Nat) (s159 : List O) : xb54_0 F txn_Manager_prepared.J3P (txn_Manager_prepared.J3F i155 o156 i157 o158 s159) = F.f54.J3 i155 o156 i157 o158 s159 := (by kernel_rfl : _ = pk (txn_Manager_prepared.J3F i155 o156 i157 o158 s159) (txn_Manager_prepared.J3F i155 o156 i157 o158 s159) (F.f54.J3 i155 o156 i157 o158 s159)).trans (pk_self _ _)
theorem xb54_0_J4 (F : Fns) (i178 : Nat) (o179 : Nat) (s180 : List O) : xb54_0 F txn_Manager_prepared.J4P (txn_Manager_prepared.J4F i178 o179 s180) = F.f54.J4 i178 o179 s180 := (by kernel_rfl : _ = pk (txn_Manager_prepared.J4F i178 o179 s180) (txn_Manager_prepared.J4F i178 o179 s180) (F.f54.J4 i178 o179 s180)).trans (pk_self _ _)
theorem xb54_0_L5 (F : Fns) (i183 : Nat) (o184 : Nat) (v185 : V) (n186 : Int) (n187 : Int) (s188 : List O) : xb54_0 F txn_Manager_prepared.L5P (txn_Manager_prepared.L5F i183 o184 v185 n186 n187 s188) = F.f54.L5 i183 o184 v185 n186 n187 s188 := (by kernel_rfl : _ = pk (txn_Manager_prepared.L5F i183 o184 v185 n186 n187 s188) (txn_Manager_prepared.L5F i183 o184 v185 n186 n187 s188) (F.f54.L5 i183 o184 v185 n186 n187 s188)).trans (pk_self _ _)
theorem xb54_0_J6 (F : Fns) (i197 : Nat) (o198 : Nat) (v199 : V) (n200 : Int) (n201 : Int) (s202 : List O) : xb54_0 F txn_Manager_prepared.J6P (txn_Manager_prepared.J6F i197 o198 v199 n200 n201 s202) = F.f54.J6 i197 o198 v199 n200 n201 s202 := (by kernel_rfl : _ = pk (txn_Manager_prepared.J6F i197 o198 v199 n200 n201 s202) (txn_Manager_prepared.J6F i197 o198 v199 n200 n201 s202) (F.f54.J6 i197 o198 v199 n200 n201 s202)).trans (pk_self _ _)
theorem st54_b {F : Fns} (h : FnsOk F) (i0 : Nat) (o1 : Nat) (i2 : Nat) (o3 : Nat) (s : List O) : OLe (txn_Manager_prepared.b (RD F) (DD F) F.f54.J0 i0 o1 i2 o3 s) (RUN 54 [(V.obj i0 o1), (V.obj i2 o3)] s) := by
  intro o e
  refine body_z (Z := ⟨RD F, DD F, xk 54 .body (xb54_0 F)⟩) ⟨RD_ok h, DD_ok h, xk_le (xb54_0_ok h)⟩ ?_
  rw [txn_Manager_prepared.b_eq]
  rw [show txn_Manager_prepared.J0 ⟨RD F, DD F, xk 54 .body (xb54_0 F)⟩ = F.f54.J0 from funext fun i104 => funext fun o105 => funext fun i106 => funext fun o107 => funext fun b108 => funext fun s109 => (show xk 54 .body (xb54_0 F) 54 .body txn_Manager_prepared.J0P (txn_Manager_prepared.J0F i104 o105 i106 o107 b108 s109) = _ from by rw [xk_self]; exact xb54_0_J0 F i104 o105 i106 o107 b108 s109)]
  exact e
theorem st54_J0 {F : Fns} (h : FnsOk F) (i104 : Nat) (o105 : Nat) (i106 : Nat) (o107 : Nat) (b108 : Bool) (s109 : List O) : OLe (txn_Manager_prepared.J0b (RD F) (DD F) F.f54.L1 F.f54.J3 i104 o105 i106 o107 b108 s109) (XC 54 .body txn_Manager_prepared.J0P (txn_Manager_prepared.J0F i104 o105 i106 o107 b108 s109)) := by
  intro o e
  refine exit_z (by kernel_rfl) (Z := ⟨RD F, DD F, xk 54 .body (xb54_0 F)⟩) ⟨RD_ok h, DD_ok h, xk_le (xb54_0_ok h)⟩ ?_
  rw [txn_Manager_prepared.J0b_eq]
  rw [show txn_Manager_prepared.L1 ⟨RD F, DD F, xk 54 .body (xb54_0 F)⟩ = F.f54.L1 from funext fun i126 => funext fun o127 => funext fun i128 => funext fun o129 => funext fun v130 => funext fun n131 => funext fun n132 => funext fun s133 => (show xk 54 .body (xb54_0 F) 54 .body txn_Manager_prepared.L1P (txn_Manager_prepared.L1F i126 o127 i128 o129 v130 n131 n132 s133) = _ from by rw [xk_self]; exact xb54_0_L1 F i126 o127 i128 o129 v130 n131 n132 s133)]
  rw [show txn_Manager_prepared.J3 ⟨RD F, DD F, xk 54 .body (xb54_0 F)⟩ = F.f54.J3 from funext fun i155 => funext fun o156 => funext fun i157 => funext fun o158 => funext fun s159 => (show xk 54 .body (xb54_0 F) 54 .body txn_Manager_prepared.J3P (txn_Manager_prepared.J3F i155 o156 i157 o158 s159) = _ from by rw [xk_self]; exact xb54_0_J3 F i155 o156 i157 o158 s159)]
  exact e
theorem st54_L1 {F : Fns} (h : FnsOk F) (i126 : Nat) (o127 : Nat) (i128 : Nat) (o129 : Nat) (v130 : V) (n131 : Int) (n132 : Int) (s133 : List O) : OLe (txn_Manager_prepared.L1b (RD F) (DD F) F.f54.J2 F.f54.J3 i126 o127 i128 o129 v130 n131 n132 s133) (XC 54 .body txn_Manager_prepared.L1P (txn_Manager_prepared.L1F i126 o127 i128 o129 v130 n131 n132 s133)) := by
  intro o e
  refine round_z (Z := ⟨RD F, DD F, xk 54 .body (xb54_0 F)⟩) ⟨RD_ok h, DD_ok h, xk_le (xb54_0_ok h)⟩ ?_
  rw [txn_Manager_prepared.L1b_eq]
  rw [show txn_Manager_prepared.J2 ⟨RD F, DD F, xk 54 .body (xb54_0 F)⟩ = F.f54.J2 from funext fun i142 => funext fun o143 => funext fun i144 => funext fun o145 => funext fun v146 => funext fun n147 => funext fun n148 => funext fun s149 => (show xk 54 .body (xb54_0 F) 54 .body txn_Manager_prepared.J2P (txn_Manager_prepared.J2F i142 o143 i144 o145 v146 n147 n148 s149) = _ from by rw [xk_self]; exact xb54_0_J2 F i142 o143 i144 o145 v146 n147 n148 s149)]
  rw [show txn_Manager_prepared.J3 ⟨RD F, DD F, xk 54 .body (xb54_0 F)⟩ = F.f54.J3 from funext fun i155 => funext fun o156 => funext fun i157 => funext fun o158 => funext fun s159 => (show xk 54 .body (xb54_0 F) 54 .body txn_Manager_prepared.J3P (txn_Manager_prepared.J3F i155 o156 i157 o158 s159) = _ from by rw [xk_self]; exact xb54_0_J3 F i155 o156 i157 o158 s159)]
  exact e
theorem st54_J2 {F : Fns} (h : FnsOk F) (i142 : Nat) (o143 : Nat) (i144 : Nat) (o145 : Nat) (v146 : V) (n147 : Int) (n148 : Int) (s149 : List O) : OLe (txn_Manager_prepared.J2b (RD F) (DD F) F.f54.L1 i142 o143 i144 o145 v146 n147 n148 s149) (XC 54 .body txn_Manager_prepared.J2P (txn_Manager_prepared.J2F i142 o143 i144 o145 v146 n147 n148 s149)) := by
  intro o e
  refine exit_z (by kernel_rfl) (Z := ⟨RD F, DD F, xk 54 .body (xb54_0 F)⟩) ⟨RD_ok h, DD_ok h, xk_le (xb54_0_ok h)⟩ ?_
  rw [txn_Manager_prepared.J2b_eq]
  rw [show txn_Manager_prepared.L1 ⟨RD F, DD F, xk 54 .body (xb54_0 F)⟩ = F.f54.L1 from funext fun i126 => funext fun o127 => funext fun i128 => funext fun o129 => funext fun v130 => funext fun n131 => funext fun n132 => funext fun s133 => (show xk 54 .body (xb54_0 F) 54 .body txn_Manager_prepared.L1P (txn_Manager_prepared.L1F i126 o127 i128 o129 v130 n131 n132 s133) = _ from by rw [xk_self]; exact xb54_0_L1 F i126 o127 i128 o129 v130 n131 n132 s133)]
  exact e
theorem st54_J3 {F : Fns} (h : FnsOk F) (i155 : Nat) (o156 : Nat) (i157 : Nat) (o158 : Nat) (s159 : List O) : OLe (txn_Manager_prepared.J3b (RD F) (DD F) F.f54.J4 i155 o156 i157 o158 s159) (XC 54 .body txn_Manager_prepared.J3P (txn_Manager_prepared.J3F i155 o156 i157 o158 s159)) := by
  intro o e
  refine exit_z (by kernel_rfl) (Z := ⟨RD F, DD F, xk 54 .body (xb54_0 F)⟩) ⟨RD_ok h, DD_ok h, xk_le (xb54_0_ok h)⟩ ?_
  rw [txn_Manager_prepared.J3b_eq]
  rw [show txn_Manager_prepared.J4 ⟨RD F, DD F, xk 54 .body (xb54_0 F)⟩ = F.f54.J4 from funext fun i178 => funext fun o179 => funext fun s180 => (show xk 54 .body (xb54_0 F) 54 .body txn_Manager_prepared.J4P (txn_Manager_prepared.J4F i178 o179 s180) = _ from by rw [xk_self]; exact xb54_0_J4 F i178 o179 s180)]
  exact e
theorem st54_J4 {F : Fns} (h : FnsOk F) (i178 : Nat) (o179 : Nat) (s180 : List O) : OLe (txn_Manager_prepared.J4b (RD F) (DD F) F.f54.L5 i178 o179 s180) (XC 54 .body txn_Manager_prepared.J4P (txn_Manager_prepared.J4F i178 o179 s180)) := by
  intro o e
  refine exit_z (by kernel_rfl) (Z := ⟨RD F, DD F, xk 54 .body (xb54_0 F)⟩) ⟨RD_ok h, DD_ok h, xk_le (xb54_0_ok h)⟩ ?_
  rw [txn_Manager_prepared.J4b_eq]
  rw [show txn_Manager_prepared.L5 ⟨RD F, DD F, xk 54 .body (xb54_0 F)⟩ = F.f54.L5 from funext fun i183 => funext fun o184 => funext fun v185 => funext fun n186 => funext fun n187 => funext fun s188 => (show xk 54 .body (xb54_0 F) 54 .body txn_Manager_prepared.L5P (txn_Manager_prepared.L5F i183 o184 v185 n186 n187 s188) = _ from by rw [xk_self]; exact xb54_0_L5 F i183 o184 v185 n186 n187 s188)]
  exact e
theorem st54_L5 {F : Fns} (h : FnsOk F) (i183 : Nat) (o184 : Nat) (v185 : V) (n186 : Int) (n187 : Int) (s188 : List O) : OLe (txn_Manager_prepared.L5b (RD F) (DD F) F.f54.J6 i183 o184 v185 n186 n187 s188) (XC 54 .body txn_Manager_prepared.L5P (txn_Manager_prepared.L5F i183 o184 v185 n186 n187 s188)) := by
  intro o e
  refine round_z (Z := ⟨RD F, DD F, xk 54 .body (xb54_0 F)⟩) ⟨RD_ok h, DD_ok h, xk_le (xb54_0_ok h)⟩ ?_
  rw [txn_Manager_prepared.L5b_eq]
  rw [show txn_Manager_prepared.J6 ⟨RD F, DD F, xk 54 .body (xb54_0 F)⟩ = F.f54.J6 from funext fun i197 => funext fun o198 => funext fun v199 => funext fun n200 => funext fun n201 => funext fun s202 => (show xk 54 .body (xb54_0 F) 54 .body txn_Manager_prepared.J6P (txn_Manager_prepared.J6F i197 o198 v199 n200 n201 s202) = _ from by rw [xk_self]; exact xb54_0_J6 F i197 o198 v199 n200 n201 s202)]
  exact e
theorem st54_J6 {F : Fns} (h : FnsOk F) (i197 : Nat) (o198 : Nat) (v199 : V) (n200 : Int) (n201 : Int) (s202 : List O) : OLe (txn_Manager_prepared.J6b (RD F) (DD F) F.f54.L5 i197 o198 v199 n200 n201 s202) (XC 54 .body txn_Manager_prepared.J6P (txn_Manager_prepared.J6F i197 o198 v199 n200 n201 s202)) := by
  intro o e
  refine exit_z (by kernel_rfl) (Z := ⟨RD F, DD F, xk 54 .body (xb54_0 F)⟩) ⟨RD_ok h, DD_ok h, xk_le (xb54_0_ok h)⟩ ?_
  rw [txn_Manager_prepared.J6b_eq]
  rw [show txn_Manager_prepared.L5 ⟨RD F, DD F, xk 54 .body (xb54_0 F)⟩ = F.f54.L5 from funext fun i183 => funext fun o184 => funext fun v185 => funext fun n186 => funext fun n187 => funext fun s188 => (show xk 54 .body (xb54_0 F) 54 .body txn_Manager_prepared.L5P (txn_Manager_prepared.L5F i183 o184 v185 n186 n187 s188) = _ from by rw [xk_self]; exact xb54_0_L5 F i183 o184 v185 n186 n187 s188)]
  exact e
noncomputable def xb55_0 (F : Fns) (p : List Nat) (st : St) : R := bif beqP p txn_Manager_ended.L0P then pk st (txn_Manager_ended.L0F (gO1 (sV st 1)) (gO2 (sV st 1)) (sV st 19) (gI (sV st 20)) (gI (sV st 21)) st.s) (F.f55.L0 (gO1 (sV st 1)) (gO2 (sV st 1)) (sV st 19) (gI (sV st 20)) (gI (sV st 21)) st.s) else bif beqP p txn_Manager_ended.J1P then pk st (txn_Manager_ended.J1F (gO1 (sV st 1)) (gO2 (sV st 1)) (sV st 19) (gI (sV st 20)) (gI (sV st 21)) st.s) (F.f55.J1 (gO1 (sV st 1)) (gO2 (sV st 1)) (sV st 19) (gI (sV st 20)) (gI (sV st 21)) st.s) else bif beqP p txn_Manager_ended.J2P then pk st (txn_Manager_ended.J2F (gO1 (sV st 0)) (gO2 (sV st 0)) (gO1 (sV st 1)) (gO2 (sV st 1)) (gB (sV st 78)) st.s) (F.f55.J2 (gO1 (sV st 0)) (gO2 (sV st 0)) (gO1 (sV st 1)) (gO2 (sV st 1)) (gB (sV st 78)) st.s) else bif beqP p txn_Manager_ended.J3P then pk st (txn_Manager_ended.J3F (gO1 (sV st 1)) (gO2 (sV st 1)) st.s) (F.f55.J3 (gO1 (sV st 1)) (gO2 (sV st 1)) st.s) else bif beqP p txn_Manager_ended.L4P then pk st (txn_Manager_ended.L4F (gO1 (sV st 1)) (gO2 (sV st 1)) (sV st 103) (gI (sV st 104)) (gI (sV st 105)) st.s) (F.f55.L4 (gO1 (sV st 1)) (gO2 (sV st 1)) (sV st 103) (gI (sV st 104)) (gI (sV st 105)) st.s) else bif beqP p txn_Manager_ended.J5P then pk st (txn_Manager_ended.J5F (gO1 (sV st 1)) (gO2 (sV st 1)) (sV st 103) (gI (sV st 104)) (gI (sV st 105)) st.s) (F.f55.J5 (gO1 (sV st 1)) (gO2 (sV st 1)) (sV st 103) (gI (sV st 104)) (gI (sV st 105)) st.s) else bif beqP p txn_Manager_ended.J6P then pk st (txn_Manager_ended.J6F st.s) (F.f55.J6 st.s) else none
theorem xb55_0_ok {F : Fns} (h : FnsOk F) (p : List Nat) (st : St) : OLe (xb55_0 F p st) (XC 55 .body p st) := bq_le (g := fun p => XC 55 .body p st) (pk_le (XC 55 .body txn_Manager_ended.L0P) (h.f55.L0 _ _ _ _ _ _)) (bq_le (g := fun p => XC 55 .body p st) (pk_le (XC 55 .body txn_Manager_ended.J1P) (h.f55.J1 _ _ _ _ _ _)) (bq_le (g := fun p => XC 55 .body p st) (pk_le (XC 55 .body txn_Manager_ended.J2P) (h.f55.J2 _ _ _ _ _ _)) (bq_le (g := fun p => XC 55 .body p st) (pk_le (XC 55 .body txn_Manager_ended.J3P) (h.f55.J3 _ _ _)) (bq_le (g := fun p => XC 55 .body p st) (pk_le (XC 55 .body txn_Manager_ended.L4P) (h.f55.L4 _ _ _ _ _ _)) (bq_le (g := fun p => XC 55 .body p st) (pk_le (XC 55 .body txn_Manager_ended.J5P) (h.f55.J5 _ _ _ _ _ _)) (bq_le (g := fun p => XC 55 .body p st) (pk_le (XC 55 .body txn_Manager_ended.J6P) (h.f55.J6 _)) (OLe.none _)))))))
theorem xb55_0_L0 (F : Fns) (i104 : Nat) (o105 : Nat) (v106 : V) (n107 : Int) (n108 : Int) (s109 : List O) : xb55_0 F txn_Manager_ended.L0P (txn_Manager_ended.L0F i104 o105 v106 n107 n108 s109) = F.f55.L0 i104 o105 v106 n107 n108 s109 := (by kernel_rfl : _ = pk (txn_Manager_ended.L0F i104 o105 v106 n107 n108 s109) (txn_Manager_ended.L0F i104 o105 v106 n107 n108 s109) (F.f55.L0 i104 o105 v106 n107 n108 s109)).trans (pk_self _ _)
theorem xb55_0_J1 (F : Fns) (i124 : Nat) (o125 : Nat) (v126 : V) (n127 : Int) (n128 : Int) (s129 : List O) : xb55_0 F txn_Manager_ended.J1P (txn_Manager_ended.J1F i124 o125 v126 n127 n128 s129) = F.f55.J1 i124 o125 v126 n127 n128 s129 := (by kernel_rfl : _ = pk (txn_Manager_ended.J1F i124 o125 v126 n127 n128 s129) (txn_Manager_ended.J1F i124 o125 v126 n127 n128 s129) (F.f55.J1 i124 o125 v126 n127 n128 s129)).trans (pk_self _ _)
theorem xb55_0_J2 (F : Fns) (i154 : Nat) (o155 : Nat) (i156 : Nat) (o157 : Nat) (b158 : Bool) (s159 : List O) : xb55_0 F txn_Manager_ended.J2P (txn_Manager_ended.J2F i154 o155 i156 o157 b158 s159) = F.f55.J2 i154 o155 i156 o157 b158 s159 := (by kernel_rfl : _ = pk (txn_Manager_ended.J2F i154 o155 i156 o157 b158 s159) (txn_Manager_ended.J2F i154 o155 i156 o157 b158 s159) (F.f55.J2 i154 o155 i156 o157 b158 s159)).trans (pk_self _ _)
theorem xb55_0_J3 (F : Fns) (i168 : Nat) (o169 : Nat) (s170 : List O) : xb55_0 F txn_Manager_ended.J3P (txn_Manager_ended.J3F i168 o169 s170) = F.f55.J3 i168 o169 s170 := (by kernel_rfl : _ = pk (txn_Manager_ended.J3F i168 o169 s170) (txn_Manager_ended.J3F i168 o169 s170) (F.f55.J3 i168 o169 s170)).trans (pk_self _ _)
theorem xb55_0_L4 (F : Fns) (i175 : Nat) (o176 : Nat) (v177 : V) (n178 : Int) (n179 : Int) (s180 : List O) : xb55_0 F txn_Manager_ended.L4P (txn_Manager_ended.L4F i175 o176 v177 n178 n179 s180) = F.f55.L4 i175 o176 v177 n178 n179 s180 := (by kernel_rfl : _ = pk (txn_Manager_ended.L4F i175 o176 v177 n178 n179 s180) (txn_Manager_ended.L4F i175 o176 v177 n178 n179 s180) (F.f55.L4 i175 o176 v177 n178 n179 s180)).trans (pk_self _ _)
theorem xb55_0_J5 (F : Fns) (i189 : Nat) (o190 : Nat) (v191 : V) (n192 : Int) (n193 : Int) (s194 : List O) : xb55_0 F txn_Manager_ended.J5P (txn_Manager_ended.J5F i189 o190 v191 n192 n193 s194) = F.f55.J5 i189 o190 v191 n192 n193 s194 := (by kernel_rfl : _ = pk (txn_Manager_ended.J5F i189 o190 v191 n192 n193 s194) (txn_Manager_ended.J5F i189 o190 v191 n192 n193 s194) (F.f55.J5 i189 o190 v191 n192 n193 s194)).trans (pk_self _ _)
theorem xb55_0_J6 (F : Fns) (s198 : List O) : xb55_0 F txn_Manager_ended.J6P (txn_Manager_ended.J6F s198) = F.f55.J6 s198 := (by kernel_rfl : _ = pk (txn_Manager_ended.J6F s198) (txn_Manager_ended.J6F s198) (F.f55.J6 s198)).trans (pk_self _ _)
theorem st55_b {F : Fns} (h : FnsOk F) (i0 : Nat) (o1 : Nat) (i2 : Nat) (o3 : Nat) (s : List O) : OLe (txn_Manager_ended.b (RD F) (DD F) F.f55.L0 F.f55.J2 i0 o1 i2 o3 s) (RUN 55 [(V.obj i0 o1), (V.obj i2 o3)] s) := by
  intro o e
  refine body_z (Z := ⟨RD F, DD F, xk 55 .body (xb55_0 F)⟩) ⟨RD_ok h, DD_ok h, xk_le (xb55_0_ok h)⟩ ?_
  rw [txn_Manager_ended.b_eq]
  rw [show txn_Manager_ended.L0 ⟨RD F, DD F, xk 55 .body (xb55_0 F)⟩ = F.f55.L0 from funext fun i104 => funext fun o105 => funext fun v106 => funext fun n107 => funext fun n108 => funext fun s109 => (show xk 55 .body (xb55_0 F) 55 .body txn_Manager_ended.L0P (txn_Manager_ended.L0F i104 o105 v106 n107 n108 s109) = _ from by rw [xk_self]; exact xb55_0_L0 F i104 o105 v106 n107 n108 s109)]
  rw [show txn_Manager_ended.J2 ⟨RD F, DD F, xk 55 .body (xb55_0 F)⟩ = F.f55.J2 from funext fun i154 => funext fun o155 => funext fun i156 => funext fun o157 => funext fun b158 => funext fun s159 => (show xk 55 .body (xb55_0 F) 55 .body txn_Manager_ended.J2P (txn_Manager_ended.J2F i154 o155 i156 o157 b158 s159) = _ from by rw [xk_self]; exact xb55_0_J2 F i154 o155 i156 o157 b158 s159)]
  exact e
theorem st55_L0 {F : Fns} (h : FnsOk F) (i104 : Nat) (o105 : Nat) (v106 : V) (n107 : Int) (n108 : Int) (s109 : List O) : OLe (txn_Manager_ended.L0b (RD F) (DD F) F.f55.J1 i104 o105 v106 n107 n108 s109) (XC 55 .body txn_Manager_ended.L0P (txn_Manager_ended.L0F i104 o105 v106 n107 n108 s109)) := by
  intro o e
  refine round_z (Z := ⟨RD F, DD F, xk 55 .body (xb55_0 F)⟩) ⟨RD_ok h, DD_ok h, xk_le (xb55_0_ok h)⟩ ?_
  rw [txn_Manager_ended.L0b_eq]
  rw [show txn_Manager_ended.J1 ⟨RD F, DD F, xk 55 .body (xb55_0 F)⟩ = F.f55.J1 from funext fun i124 => funext fun o125 => funext fun v126 => funext fun n127 => funext fun n128 => funext fun s129 => (show xk 55 .body (xb55_0 F) 55 .body txn_Manager_ended.J1P (txn_Manager_ended.J1F i124 o125 v126 n127 n128 s129) = _ from by rw [xk_self]; exact xb55_0_J1 F i124 o125 v126 n127 n128 s129)]
  exact e
theorem st55_J1 {F : Fns} (h : FnsOk F) (i124 : Nat) (o125 : Nat) (v126 : V) (n127 : Int) (n128 : Int) (s129 : List O) : OLe (txn_Manager_ended.J1b (RD F) (DD F) F.f55.L0 i124 o125 v126 n127 n128 s129) (XC 55 .body txn_Manager_ended.J1P (txn_Manager_ended.J1F i124 o125 v126 n127 n128 s129)) := by
  intro o e
  refine exit_z (by kernel_rfl) (Z := ⟨RD F, DD F, xk 55 .body (xb55_0 F)⟩) ⟨RD_ok h, DD_ok h, xk_le (xb55_0_ok h)⟩ ?_
  rw [txn_Manager_ended.J1b_eq]
  rw [show txn_Manager_ended.L0 ⟨RD F, DD F, xk 55 .body (xb55_0 F)⟩ = F.f55.L0 from funext fun i104 => funext fun o105 => funext fun v106 => funext fun n107 => funext fun n108 => funext fun s109 => (show xk 55 .body (xb55_0 F) 55 .body txn_Manager_ended.L0P (txn_Manager_ended.L0F i104 o105 v106 n107 n108 s109) = _ from by rw [xk_self]; exact xb55_0_L0 F i104 o105 v106 n107 n108 s109)]
  exact e
theorem st55_J2 {F : Fns} (h : FnsOk F) (i154 : Nat) (o155 : Nat) (i156 : Nat) (o157 : Nat) (b158 : Bool) (s159 : List O) : OLe (txn_Manager_ended.J2b (RD F) (DD F) F.f55.J3 i154 o155 i156 o157 b158 s159) (XC 55 .body txn_Manager_ended.J2P (txn_Manager_ended.J2F i154 o155 i156 o157 b158 s159)) := by
  intro o e
  refine exit_z (by kernel_rfl) (Z := ⟨RD F, DD F, xk 55 .body (xb55_0 F)⟩) ⟨RD_ok h, DD_ok h, xk_le (xb55_0_ok h)⟩ ?_
  rw [txn_Manager_ended.J2b_eq]
  rw [show txn_Manager_ended.J3 ⟨RD F, DD F, xk 55 .body (xb55_0 F)⟩ = F.f55.J3 from funext fun i168 => funext fun o169 => funext fun s170 => (show xk 55 .body (xb55_0 F) 55 .body txn_Manager_ended.J3P (txn_Manager_ended.J3F i168 o169 s170) = _ from by rw [xk_self]; exact xb55_0_J3 F i168 o169 s170)]
  exact e
theorem st55_J3 {F : Fns} (h : FnsOk F) (i168 : Nat) (o169 : Nat) (s170 : List O) : OLe (txn_Manager_ended.J3b (RD F) (DD F) F.f55.L4 F.f55.J6 i168 o169 s170) (XC 55 .body txn_Manager_ended.J3P (txn_Manager_ended.J3F i168 o169 s170)) := by
  intro o e
  refine exit_z (by kernel_rfl) (Z := ⟨RD F, DD F, xk 55 .body (xb55_0 F)⟩) ⟨RD_ok h, DD_ok h, xk_le (xb55_0_ok h)⟩ ?_
  rw [txn_Manager_ended.J3b_eq]
  rw [show txn_Manager_ended.L4 ⟨RD F, DD F, xk 55 .body (xb55_0 F)⟩ = F.f55.L4 from funext fun i175 => funext fun o176 => funext fun v177 => funext fun n178 => funext fun n179 => funext fun s180 => (show xk 55 .body (xb55_0 F) 55 .body txn_Manager_ended.L4P (txn_Manager_ended.L4F i175 o176 v177 n178 n179 s180) = _ from by rw [xk_self]; exact xb55_0_L4 F i175 o176 v177 n178 n179 s180)]
  rw [show txn_Manager_ended.J6 ⟨RD F, DD F, xk 55 .body (xb55_0 F)⟩ = F.f55.J6 from funext fun s198 => (show xk 55 .body (xb55_0 F) 55 .body txn_Manager_ended.J6P (txn_Manager_ended.J6F s198) = _ from by rw [xk_self]; exact xb55_0_J6 F s198)]
  exact e
theorem st55_L4 {F : Fns} (h : FnsOk F) (i175 : Nat) (o176 : Nat) (v177 : V) (n178 : Int) (n179 : Int) (s180 : List O) : OLe (txn_Manager_ended.L4b (RD F) (DD F) F.f55.J5 F.f55.J6 i175 o176 v177 n178 n179 s180) (XC 55 .body txn_Manager_ended.L4P (txn_Manager_ended.L4F i175 o176 v177 n178 n179 s180)) := by
  intro o e
  refine round_z (Z := ⟨RD F, DD F, xk 55 .body (xb55_0 F)⟩) ⟨RD_ok h, DD_ok h, xk_le (xb55_0_ok h)⟩ ?_
  rw [txn_Manager_ended.L4b_eq]
  rw [show txn_Manager_ended.J5 ⟨RD F, DD F, xk 55 .body (xb55_0 F)⟩ = F.f55.J5 from funext fun i189 => funext fun o190 => funext fun v191 => funext fun n192 => funext fun n193 => funext fun s194 => (show xk 55 .body (xb55_0 F) 55 .body txn_Manager_ended.J5P (txn_Manager_ended.J5F i189 o190 v191 n192 n193 s194) = _ from by rw [xk_self]; exact xb55_0_J5 F i189 o190 v191 n192 n193 s194)]
  rw [show txn_Manager_ended.J6 ⟨RD F, DD F, xk 55 .body (xb55_0 F)⟩ = F.f55.J6 from funext fun s198 => (show xk 55 .body (xb55_0 F) 55 .body txn_Manager_ended.J6P (txn_Manager_ended.J6F s198) = _ from by rw [xk_self]; exact xb55_0_J6 F s198)]
  exact e
theorem st55_J5 {F : Fns} (h : FnsOk F) (i189 : Nat) (o190 : Nat) (v191 : V) (n192 : Int) (n193 : Int) (s194 : List O) : OLe (txn_Manager_ended.J5b (RD F) (DD F) F.f55.L4 i189 o190 v191 n192 n193 s194) (XC 55 .body txn_Manager_ended.J5P (txn_Manager_ended.J5F i189 o190 v191 n192 n193 s194)) := by
  intro o e
  refine exit_z (by kernel_rfl) (Z := ⟨RD F, DD F, xk 55 .body (xb55_0 F)⟩) ⟨RD_ok h, DD_ok h, xk_le (xb55_0_ok h)⟩ ?_
  rw [txn_Manager_ended.J5b_eq]
  rw [show txn_Manager_ended.L4 ⟨RD F, DD F, xk 55 .body (xb55_0 F)⟩ = F.f55.L4 from funext fun i175 => funext fun o176 => funext fun v177 => funext fun n178 => funext fun n179 => funext fun s180 => (show xk 55 .body (xb55_0 F) 55 .body txn_Manager_ended.L4P (txn_Manager_ended.L4F i175 o176 v177 n178 n179 s180) = _ from by rw [xk_self]; exact xb55_0_L4 F i175 o176 v177 n178 n179 s180)]
  exact e
theorem st55_J6 {F : Fns} (h : FnsOk F) (s198 : List O) : OLe (txn_Manager_ended.J6b (RD F) (DD F) s198) (XC 55 .body txn_Manager_ended.J6P (txn_Manager_ended.J6F s198)) := by
  intro o e
  refine exit_z (by kernel_rfl) (Z := ⟨RD F, DD F, xk 55 .body (xb55_0 F)⟩) ⟨RD_ok h, DD_ok h, xk_le (xb55_0_ok h)⟩ ?_
  rw [txn_Manager_ended.J6b_eq]
  exact e
noncomputable def xb56_0 (F : Fns) (p : List Nat) (st : St) : R := bif beqP p slices_IndexFunc_txn_txn_txn_txn.L0P then pk st (slices_IndexFunc_txn_txn_txn_txn.L0F (sV st 0) (sV st 1) (gI (sV st 7)) (gI (sV st 8)) st.s) (F.f56.L0 (sV st 0) (sV st 1) (gI (sV st 7)) (gI (sV st 8)) st.s) else none
theorem xb56_0_ok {F : Fns} (h : FnsOk F) (p : List Nat) (st : St) : OLe (xb56_0 F p st) (XC 56 .body p st) := bq_le (g := fun p => XC 56 .body p st) (pk_le (XC 56 .body slices_IndexFunc_txn_txn_txn_txn.L0P) (h.f56.L0 _ _ _ _ _)) (OLe.none _)
theorem xb56_0_L0 (F : Fns) (v101 : V) (v102 : V) (n103 : Int) (n104 : Int) (s105 : List O) : xb56_0 F slices_IndexFunc_txn_txn_txn_txn.L0P (slices_IndexFunc_txn_txn_txn_txn.L0F v101 v102 n103 n104 s105) = F.f56.L0 v101 v102 n103 n104 s105 := (by kernel_rfl : _ = pk (slices_IndexFunc_txn_txn_txn_txn.L0F v101 v102 n103 n104 s105) (slices_IndexFunc_txn_txn_txn_txn.L0F v101 v102 n103 n104 s105) (F.f56.L0 v101 v102 n103 n104 s105)).trans (pk_self _ _)
theorem st56_b {F : Fns} (h : FnsOk F) (v0 : V) (v1 : V) (s : List O) : OLe (slices_IndexFunc_txn_txn_txn_txn.b (RD F) (DD F) F.f56.L0 v0 v1 s) (RUN 56 [v0, v1] s) := by
  intro o e
  refine body_z (Z := ⟨RD F, DD F, xk 56 .body (xb56_0 F)⟩) ⟨RD_ok h, DD_ok h, xk_le (xb56_0_ok h)⟩ ?_
  rw [slices_IndexFunc_txn_txn_txn_txn.b_eq]
  rw [show slices_IndexFunc_txn_txn_txn_txn.L0 ⟨RD F, DD F, xk 56 .body (xb56_0 F)⟩ = F.f56.L0 from funext fun v101 => funext fun v102 => funext fun n103 => funext fun n104 => funext fun s105 => (show xk 56 .body (xb56_0 F) 56 .body slices_IndexFunc_txn_txn_txn_txn.L0P (slices_IndexFunc_txn_txn_txn_txn.L0F v101 v102 n103 n104 s105) = _ from by rw [xk_self]; exact xb56_0_L0 F v101 v102 n103 n104 s105)]
  exact e
theorem st56_L0 {F : Fns} (h : FnsOk F) (v101 : V) (v102 : V) (n103 : Int) (n104 : Int) (s105 : List O) : OLe (slices_IndexFunc_txn_txn_txn_txn.L0b (RD F) (DD F) F.f56.L0 v101 v102 n103 n104 s105) (XC 56 .body slices_IndexFunc_txn_txn_txn_txn.L0P (slices_IndexFunc_txn_txn_txn_txn.L0F v101 v102 n103 n104 s105)) := by
  intro o e
  refine round_z (Z := ⟨RD F, DD F, xk 56 .body (xb56_0 F)⟩) ⟨RD_ok h, DD_ok h, xk_le (xb56_0_ok h)⟩ ?_
  rw [slices_IndexFunc_txn_txn_txn_txn.L0b_eq]
  rw [show slices_IndexFunc_txn_txn_txn_txn.L0 ⟨RD F, DD F, xk 56 .body (xb56_0 F)⟩ = F.f56.L0 from funext fun v101 => funext fun v102 => funext fun n103 => funext fun n104 => funext fun s105 => (show xk 56 .body (xb56_0 F) 56 .body slices_IndexFunc_txn_txn_txn_txn.L0P (slices_IndexFunc_txn_txn_txn_txn.L0F v101 v102 n103 n104 s105) = _ from by rw [xk_self]; exact xb56_0_L0 F v101 v102 n103 n104 s105)]
  exact e
theorem st57_b {F : Fns} (h : FnsOk F) (a0 : ByteArray) (a1 : Int) (a2 : ByteArray) : OLe (txn_Manager_toldPrepare_1.b (RD F) (DD F) a0 a1 a2) (RUN 57 [(V.str a0), (V.ref [(V.int .i64 a1), (V.str a2)])] []) := by
  intro o e
  refine body_z (Z := ⟨RD F, DD F, fun _ _ _ _ => none⟩) ⟨RD_ok h, DD_ok h, fun _ _ _ _ => OLe.none _⟩ ?_
  rw [txn_Manager_toldPrepare_1.b_eq]
  exact e
noncomputable def xb58_0 (F : Fns) (p : List Nat) (st : St) : R := bif beqP p slices_DeleteFunc_string_string.L0P then pk st (slices_DeleteFunc_string_string.L0F (sV st 0) (sV st 1) (gI (sV st 5)) (gI (sV st 6)) st.s) (F.f58.L0 (sV st 0) (sV st 1) (gI (sV st 5)) (gI (sV st 6)) st.s) else bif beqP p slices_DeleteFunc_string_string.J1P then pk st (slices_DeleteFunc_string_string.J1F (sV st 0) (sV st 1) (gI (sV st 5)) (gI (sV st 6)) st.s) (F.f58.J1 (sV st 0) (sV st 1) (gI (sV st 5)) (gI (sV st 6)) st.s) else none
theorem xb58_0_ok {F : Fns} (h : FnsOk F) (p : List Nat) (st : St) : OLe (xb58_0 F p st) (XC 58 .body p st) := bq_le (g := fun p => XC 58 .body p st) (pk_le (XC 58 .body slices_DeleteFunc_string_string.L0P) (h.f58.L0 _ _ _ _ _)) (bq_le (g := fun p => XC 58 .body p st) (pk_le (XC 58 .body slices_DeleteFunc_string_string.J1P) (h.f58.J1 _ _ _ _ _)) (OLe.none _))
theorem xb58_0_L0 (F : Fns) (v105 : V) (v106 : V) (n107 : Int) (n108 : Int) (s109 : List O) : xb58_0 F slices_DeleteFunc_string_string.L0P (slices_DeleteFunc_string_string.L0F v105 v106 n107 n108 s109) = F.f58.L0 v105 v106 n107 n108 s109 := (by kernel_rfl : _ = pk (slices_DeleteFunc_string_string.L0F v105 v106 n107 n108 s109) (slices_DeleteFunc_string_string.L0F v105 v106 n107 n108 s109) (F.f58.L0 v105 v106 n107 n108 s109)).trans (pk_self _ _)
theorem xb58_0_J1 (F : Fns) (v123 : V) (v124 : V) (n125 : Int) (n126 : Int) (s127 : List O) : xb58_0 F slices_DeleteFunc_string_string.J1P (slices_DeleteFunc_string_string.J1F v123 v124 n125 n126 s127) = F.f58.J1 v123 v124 n125 n126 s127 := (by kernel_rfl : _ = pk (slices_DeleteFunc_string_string.J1F v123 v124 n125 n126 s127) (slices_DeleteFunc_string_string.J1F v123 v124 n125 n126 s127) (F.f58.J1 v123 v124 n125 n126 s127)).trans (pk_self _ _)
theorem st58_b {F : Fns} (h : FnsOk F) (v0 : V) (v1 : V) (s : List O) : OLe (slices_DeleteFunc_string_string.b (RD F) (DD F) F.f58.L0 v0 v1 s) (RUN 58 [v0, v1] s) := by
  intro o e
  refine body_z (Z := ⟨RD F, DD F, xk 58 .body (xb58_0 F)⟩) ⟨RD_ok h, DD_ok h, xk_le (xb58_0_ok h)⟩ ?_
  rw [slices_DeleteFunc_string_string.b_eq]
  rw [show slices_DeleteFunc_string_string.L0 ⟨RD F, DD F, xk 58 .body (xb58_0 F)⟩ = F.f58.L0 from funext fun v105 => funext fun v106 => funext fun n107 => funext fun n108 => funext fun s109 => (show xk 58 .body (xb58_0 F) 58 .body slices_DeleteFunc_string_string.L0P (slices_DeleteFunc_string_string.L0F v105 v106 n107 n108 s109) = _ from by rw [xk_self]; exact xb58_0_L0 F v105 v106 n107 n108 s109)]
  exact e
theorem st58_L0 {F : Fns} (h : FnsOk F) (v105 : V) (v106 : V) (n107 : Int) (n108 : Int) (s109 : List O) : OLe (slices_DeleteFunc_string_string.L0b (RD F) (DD F) F.f58.J1 v105 v106 n107 n108 s109) (XC 58 .body slices_DeleteFunc_string_string.L0P (slices_DeleteFunc_string_string.L0F v105 v106 n107 n108 s109)) := by
  intro o e
  refine round_z (Z := ⟨RD F, DD F, xk 58 .body (xb58_0 F)⟩) ⟨RD_ok h, DD_ok h, xk_le (xb58_0_ok h)⟩ ?_
  rw [slices_DeleteFunc_string_string.L0b_eq]
  rw [show slices_DeleteFunc_string_string.J1 ⟨RD F, DD F, xk 58 .body (xb58_0 F)⟩ = F.f58.J1 from funext fun v123 => funext fun v124 => funext fun n125 => funext fun n126 => funext fun s127 => (show xk 58 .body (xb58_0 F) 58 .body slices_DeleteFunc_string_string.J1P (slices_DeleteFunc_string_string.J1F v123 v124 n125 n126 s127) = _ from by rw [xk_self]; exact xb58_0_J1 F v123 v124 n125 n126 s127)]
  exact e
theorem st58_J1 {F : Fns} (h : FnsOk F) (v123 : V) (v124 : V) (n125 : Int) (n126 : Int) (s127 : List O) : OLe (slices_DeleteFunc_string_string.J1b (RD F) (DD F) F.f58.L0 v123 v124 n125 n126 s127) (XC 58 .body slices_DeleteFunc_string_string.J1P (slices_DeleteFunc_string_string.J1F v123 v124 n125 n126 s127)) := by
  intro o e
  refine exit_z (by kernel_rfl) (Z := ⟨RD F, DD F, xk 58 .body (xb58_0 F)⟩) ⟨RD_ok h, DD_ok h, xk_le (xb58_0_ok h)⟩ ?_
  rw [slices_DeleteFunc_string_string.J1b_eq]
  rw [show slices_DeleteFunc_string_string.L0 ⟨RD F, DD F, xk 58 .body (xb58_0 F)⟩ = F.f58.L0 from funext fun v105 => funext fun v106 => funext fun n107 => funext fun n108 => funext fun s109 => (show xk 58 .body (xb58_0 F) 58 .body slices_DeleteFunc_string_string.L0P (slices_DeleteFunc_string_string.L0F v105 v106 n107 n108 s109) = _ from by rw [xk_self]; exact xb58_0_L0 F v105 v106 n107 n108 s109)]
  exact e
noncomputable def xb64_0 (F : Fns) (p : List Nat) (st : St) : R := bif beqP p slices_IndexFunc_string_string.L0P then pk st (slices_IndexFunc_string_string.L0F (sV st 0) (sV st 1) (gI (sV st 7)) (gI (sV st 8)) st.s) (F.f64.L0 (sV st 0) (sV st 1) (gI (sV st 7)) (gI (sV st 8)) st.s) else none
theorem xb64_0_ok {F : Fns} (h : FnsOk F) (p : List Nat) (st : St) : OLe (xb64_0 F p st) (XC 64 .body p st) := bq_le (g := fun p => XC 64 .body p st) (pk_le (XC 64 .body slices_IndexFunc_string_string.L0P) (h.f64.L0 _ _ _ _ _)) (OLe.none _)
theorem xb64_0_L0 (F : Fns) (v101 : V) (v102 : V) (n103 : Int) (n104 : Int) (s105 : List O) : xb64_0 F slices_IndexFunc_string_string.L0P (slices_IndexFunc_string_string.L0F v101 v102 n103 n104 s105) = F.f64.L0 v101 v102 n103 n104 s105 := (by kernel_rfl : _ = pk (slices_IndexFunc_string_string.L0F v101 v102 n103 n104 s105) (slices_IndexFunc_string_string.L0F v101 v102 n103 n104 s105) (F.f64.L0 v101 v102 n103 n104 s105)).trans (pk_self _ _)
theorem st64_b {F : Fns} (h : FnsOk F) (v0 : V) (v1 : V) (s : List O) : OLe (slices_IndexFunc_string_string.b (RD F) (DD F) F.f64.L0 v0 v1 s) (RUN 64 [v0, v1] s) := by
  intro o e
  refine body_z (Z := ⟨RD F, DD F, xk 64 .body (xb64_0 F)⟩) ⟨RD_ok h, DD_ok h, xk_le (xb64_0_ok h)⟩ ?_
  rw [slices_IndexFunc_string_string.b_eq]
  rw [show slices_IndexFunc_string_string.L0 ⟨RD F, DD F, xk 64 .body (xb64_0 F)⟩ = F.f64.L0 from funext fun v101 => funext fun v102 => funext fun n103 => funext fun n104 => funext fun s105 => (show xk 64 .body (xb64_0 F) 64 .body slices_IndexFunc_string_string.L0P (slices_IndexFunc_string_string.L0F v101 v102 n103 n104 s105) = _ from by rw [xk_self]; exact xb64_0_L0 F v101 v102 n103 n104 s105)]
  exact e
theorem st64_L0 {F : Fns} (h : FnsOk F) (v101 : V) (v102 : V) (n103 : Int) (n104 : Int) (s105 : List O) : OLe (slices_IndexFunc_string_string.L0b (RD F) (DD F) F.f64.L0 v101 v102 n103 n104 s105) (XC 64 .body slices_IndexFunc_string_string.L0P (slices_IndexFunc_string_string.L0F v101 v102 n103 n104 s105)) := by
  intro o e
  refine round_z (Z := ⟨RD F, DD F, xk 64 .body (xb64_0 F)⟩) ⟨RD_ok h, DD_ok h, xk_le (xb64_0_ok h)⟩ ?_
  rw [slices_IndexFunc_string_string.L0b_eq]
  rw [show slices_IndexFunc_string_string.L0 ⟨RD F, DD F, xk 64 .body (xb64_0 F)⟩ = F.f64.L0 from funext fun v101 => funext fun v102 => funext fun n103 => funext fun n104 => funext fun s105 => (show xk 64 .body (xb64_0 F) 64 .body slices_IndexFunc_string_string.L0P (slices_IndexFunc_string_string.L0F v101 v102 n103 n104 s105) = _ from by rw [xk_self]; exact xb64_0_L0 F v101 v102 n103 n104 s105)]
  exact e
noncomputable def step1 (F : Fns) : Fns where
  f3 := { b := law27_TxnNested.b (RD F) (DD F) F.f3.J0, J0 := law27_TxnNested.J0b (RD F) (DD F) F.f3.L1, L1 := law27_TxnNested.L1b (RD F) (DD F) F.f3.J2 F.f3.L4, J2 := law27_TxnNested.J2b (RD F) (DD F) F.f3.J3, J3 := law27_TxnNested.J3b (RD F) (DD F) F.f3.L1, L4 := law27_TxnNested.L4b (RD F) (DD F) F.f3.L5 F.f3.J7 F.f3.J9, L5 := law27_TxnNested.L5b (RD F) (DD F) F.f3.J6 F.f3.J8, J6 := law27_TxnNested.J6b (RD F) (DD F) F.f3.J7, J7 := law27_TxnNested.J7b (RD F) (DD F) F.f3.L4, J8 := law27_TxnNested.J8b (RD F) (DD F) F.f3.L5, J9 := law27_TxnNested.J9b (RD F) (DD F) F.f3.L10, L10 := law27_TxnNested.L10b (RD F) (DD F) F.f3.J11 F.f3.L13, J11 := law27_TxnNested.J11b (RD F) (DD F) F.f3.J12, J12 := law27_TxnNested.J12b (RD F) (DD F), L13 := law27_TxnNested.L13b (RD F) (DD F) F.f3.J14 F.f3.J15, J14 := law27_TxnNested.J14b (RD F) (DD F) F.f3.L13, J15 := law27_TxnNested.J15b (RD F) (DD F) F.f3.L10 }
  f6 := { b := law27_awake.b (RD F) (DD F) F.f6.L0, L0 := law27_awake.L0b (RD F) (DD F) F.f6.J1 F.f6.J2, J1 := law27_awake.J1b (RD F) (DD F) F.f6.L0, J2 := law27_awake.J2b (RD F) (DD F) }
  f7 := { b := txn_New.b (RD F) (DD F) }
  f8 := { b := txn_Manager_Begin.b (RD F) (DD F) F.f8.J0, J0 := txn_Manager_Begin.J0b (RD F) (DD F) }
  f9 := { b := txn_Manager_Enlist.b (RD F) (DD F) }
  f10 := { b := txn_Manager_Commit.b (RD F) (DD F) F.f10.J0, J0 := txn_Manager_Commit.J0b (RD F) (DD F) F.f10.L1, L1 := txn_Manager_Commit.L1b (RD F) (DD F) F.f10.J2, J2 := txn_Manager_Commit.J2b (RD F) (DD F) F.f10.L1 }
  f11 := { b := txn_Manager_Rollback.b (RD F) (DD F) F.f11.L0, L0 := txn_Manager_Rollback.L0b (RD F) (DD F) F.f11.L0 }
  f12 := { b := txn_Manager_Next.b (RD F) (DD F) }
  f13 := { b := txn_Manager_Tell.b (RD F) (DD F) F.f13.J0, J0 := txn_Manager_Tell.J0b (RD F) (DD F) }
  f14 := { b := txn_Manager_Resources.b (RD F) (DD F) }
  f15 := { b := ref12_SameTexts.b (RD F) (DD F) F.f15.L0, L0 := ref12_SameTexts.L0b (RD F) (DD F) F.f15.J1, J1 := ref12_SameTexts.J1b (RD F) (DD F) F.f15.L0 }
  f16 := { b := txn_Manager_State.b (RD F) (DD F) }
  f20 := { b := txn_Manager_Log.b (RD F) (DD F) }
  f25 := { b := txn_Manager_find.b (RD F) (DD F) }
  f26 := { b := txn_Manager_add.b (RD F) (DD F) }
  f27 := { b := txn_Manager_Enlist_1.b (RD F) (DD F) }
  f28 := { b := txn_Manager_kids.b (RD F) (DD F) F.f28.L0, L0 := txn_Manager_kids.L0b (RD F) (DD F) F.f28.J1, J1 := txn_Manager_kids.J1b (RD F) (DD F) F.f28.J2, J2 := txn_Manager_kids.J2b (RD F) (DD F) F.f28.L0 }
  f29 := { b := txn_Manager_merge.b (RD F) (DD F) F.f29.J0, J0 := txn_Manager_merge.J0b (RD F) (DD F) }
  f30 := { b := txn_Manager_settle.b (RD F) (DD F) F.f30.L0, L0 := txn_Manager_settle.L0b (RD F) (DD F) F.f30.J1, J1 := txn_Manager_settle.J1b (RD F) (DD F) F.f30.J2 F.f30.J3, J2 := txn_Manager_settle.J2b (RD F) (DD F) F.f30.L0, J3 := txn_Manager_settle.J3b (RD F) (DD F) F.f30.J4, J4 := txn_Manager_settle.J4b (RD F) (DD F) }
  f31 := { b := slices_Clone_string_string.b (RD F) (DD F) }
  f32 := { b := txn_Manager_back.b (RD F) (DD F) F.f32.L0, L0 := txn_Manager_back.L0b (RD F) (DD F) F.f32.J1, J1 := txn_Manager_back.J1b (RD F) (DD F) F.f32.J2, J2 := txn_Manager_back.J2b (RD F) (DD F) F.f32.L0 }
  f33 := { b := txn_Manager_due.b (RD F) (DD F) }
  f34 := { b := txn_answers.b (RD F) (DD F) }
  f39 := { b := txn_named.b (RD F) (DD F) F.f39.L0, L0 := txn_named.L0b (RD F) (DD F) F.f39.J1 F.f39.J2, J1 := txn_named.J1b (RD F) (DD F) F.f39.L0, J2 := txn_named.J2b (RD F) (DD F) }
  f40 := { b := slices_Contains_string_string.b (RD F) (DD F) }
  f41 := { b := txn_Manager_merge_1.b (RD F) (DD F) F.f41.L0, L0 := txn_Manager_merge_1.L0b (RD F) (DD F) F.f41.J1, J1 := txn_Manager_merge_1.J1b (RD F) (DD F) F.f41.L0 }
  f42 := { b := txn_phases.b (RD F) (DD F) }
  f43 := { b := slices_DeleteFunc_txn_txn_txn_txn.b (RD F) (DD F) F.f43.L0, L0 := slices_DeleteFunc_txn_txn_txn_txn.L0b (RD F) (DD F) F.f43.J1, J1 := slices_DeleteFunc_txn_txn_txn_txn.J1b (RD F) (DD F) F.f43.L0 }
  f44 := { b := txn_Manager_settle_1.b (RD F) (DD F) }
  f45 := { b := txn_Manager_toldBefore.b (RD F) (DD F) F.f45.J0, J0 := txn_Manager_toldBefore.J0b (RD F) (DD F) }
  f46 := { b := txn_Manager_toldPrepare.b (RD F) (DD F) F.f46.J0 F.f46.J1 F.f46.J2 F.f46.J3, J0 := txn_Manager_toldPrepare.J0b (RD F) (DD F), J1 := txn_Manager_toldPrepare.J1b (RD F) (DD F) F.f46.J0, J2 := txn_Manager_toldPrepare.J2b (RD F) (DD F) F.f46.J1, J3 := txn_Manager_toldPrepare.J3b (RD F) (DD F) F.f46.J2 }
  f47 := { b := txn_Manager_toldEnd.b (RD F) (DD F) F.f47.J0, J0 := txn_Manager_toldEnd.J0b (RD F) (DD F) F.f47.J1 F.f47.J4 F.f47.J5, J1 := txn_Manager_toldEnd.J1b (RD F) (DD F) F.f47.J2, J2 := txn_Manager_toldEnd.J2b (RD F) (DD F) F.f47.J3, J3 := txn_Manager_toldEnd.J3b (RD F) (DD F), J4 := txn_Manager_toldEnd.J4b (RD F) (DD F) F.f47.J1, J5 := txn_Manager_toldEnd.J5b (RD F) (DD F) F.f47.J4 }
  f48 := { b := txn_Manager_toldOne.b (RD F) (DD F) F.f48.J0 F.f48.J3 F.f48.J4, J0 := txn_Manager_toldOne.J0b (RD F) (DD F) F.f48.J1, J1 := txn_Manager_toldOne.J1b (RD F) (DD F) F.f48.J2, J2 := txn_Manager_toldOne.J2b (RD F) (DD F), J3 := txn_Manager_toldOne.J3b (RD F) (DD F) F.f48.J0, J4 := txn_Manager_toldOne.J4b (RD F) (DD F) F.f48.J5, J5 := txn_Manager_toldOne.J5b (RD F) (DD F) F.f48.J3 }
  f49 := { b := txn_Manager_toldForget.b (RD F) (DD F) F.f49.J0, J0 := txn_Manager_toldForget.J0b (RD F) (DD F) }
  f50 := { b := txn_answers_1.b (RD F) (DD F) }
  f53 := { b := slices_Index_string_string.b (RD F) (DD F) F.f53.L0, L0 := slices_Index_string_string.L0b (RD F) (DD F) F.f53.L0 }
  f54 := { b := txn_Manager_prepared.b (RD F) (DD F) F.f54.J0, J0 := txn_Manager_prepared.J0b (RD F) (DD F) F.f54.L1 F.f54.J3, L1 := txn_Manager_prepared.L1b (RD F) (DD F) F.f54.J2 F.f54.J3, J2 := txn_Manager_prepared.J2b (RD F) (DD F) F.f54.L1, J3 := txn_Manager_prepared.J3b (RD F) (DD F) F.f54.J4, J4 := txn_Manager_prepared.J4b (RD F) (DD F) F.f54.L5, L5 := txn_Manager_prepared.L5b (RD F) (DD F) F.f54.J6, J6 := txn_Manager_prepared.J6b (RD F) (DD F) F.f54.L5 }
  f55 := { b := txn_Manager_ended.b (RD F) (DD F) F.f55.L0 F.f55.J2, L0 := txn_Manager_ended.L0b (RD F) (DD F) F.f55.J1, J1 := txn_Manager_ended.J1b (RD F) (DD F) F.f55.L0, J2 := txn_Manager_ended.J2b (RD F) (DD F) F.f55.J3, J3 := txn_Manager_ended.J3b (RD F) (DD F) F.f55.L4 F.f55.J6, L4 := txn_Manager_ended.L4b (RD F) (DD F) F.f55.J5 F.f55.J6, J5 := txn_Manager_ended.J5b (RD F) (DD F) F.f55.L4, J6 := txn_Manager_ended.J6b (RD F) (DD F) }
  f56 := { b := slices_IndexFunc_txn_txn_txn_txn.b (RD F) (DD F) F.f56.L0, L0 := slices_IndexFunc_txn_txn_txn_txn.L0b (RD F) (DD F) F.f56.L0 }
  f57 := { b := txn_Manager_toldPrepare_1.b (RD F) (DD F) }
  f58 := { b := slices_DeleteFunc_string_string.b (RD F) (DD F) F.f58.L0, L0 := slices_DeleteFunc_string_string.L0b (RD F) (DD F) F.f58.J1, J1 := slices_DeleteFunc_string_string.J1b (RD F) (DD F) F.f58.L0 }
  f64 := { b := slices_IndexFunc_string_string.b (RD F) (DD F) F.f64.L0, L0 := slices_IndexFunc_string_string.L0b (RD F) (DD F) F.f64.L0 }
theorem step1_ok {F : Fns} (h : FnsOk F) : FnsOk (step1 F) where
  f3 := ⟨st3_b h, st3_J0 h, st3_L1 h, st3_J2 h, st3_J3 h, st3_L4 h, st3_L5 h, st3_J6 h, st3_J7 h, st3_J8 h, st3_J9 h, st3_L10 h, st3_J11 h, st3_J12 h, st3_L13 h, st3_J14 h, st3_J15 h⟩
  f6 := ⟨st6_b h, st6_L0 h, st6_J1 h, st6_J2 h⟩
  f7 := ⟨st7_b h⟩
  f8 := ⟨st8_b h, st8_J0 h⟩
  f9 := ⟨st9_b h⟩
  f10 := ⟨st10_b h, st10_J0 h, st10_L1 h, st10_J2 h⟩
  f11 := ⟨st11_b h, st11_L0 h⟩
  f12 := ⟨st12_b h⟩
  f13 := ⟨st13_b h, st13_J0 h⟩
  f14 := ⟨st14_b h⟩
  f15 := ⟨st15_b h, st15_L0 h, st15_J1 h⟩
  f16 := ⟨st16_b h⟩
  f20 := ⟨st20_b h⟩
  f25 := ⟨st25_b h⟩
  f26 := ⟨st26_b h⟩
  f27 := ⟨st27_b h⟩
  f28 := ⟨st28_b h, st28_L0 h, st28_J1 h, st28_J2 h⟩
  f29 := ⟨st29_b h, st29_J0 h⟩
  f30 := ⟨st30_b h, st30_L0 h, st30_J1 h, st30_J2 h, st30_J3 h, st30_J4 h⟩
  f31 := ⟨st31_b h⟩
  f32 := ⟨st32_b h, st32_L0 h, st32_J1 h, st32_J2 h⟩
  f33 := ⟨st33_b h⟩
  f34 := ⟨st34_b h⟩
  f39 := ⟨st39_b h, st39_L0 h, st39_J1 h, st39_J2 h⟩
  f40 := ⟨st40_b h⟩
  f41 := ⟨st41_b h, st41_L0 h, st41_J1 h⟩
  f42 := ⟨st42_b h⟩
  f43 := ⟨st43_b h, st43_L0 h, st43_J1 h⟩
  f44 := ⟨st44_b h⟩
  f45 := ⟨st45_b h, st45_J0 h⟩
  f46 := ⟨st46_b h, st46_J0 h, st46_J1 h, st46_J2 h, st46_J3 h⟩
  f47 := ⟨st47_b h, st47_J0 h, st47_J1 h, st47_J2 h, st47_J3 h, st47_J4 h, st47_J5 h⟩
  f48 := ⟨st48_b h, st48_J0 h, st48_J1 h, st48_J2 h, st48_J3 h, st48_J4 h, st48_J5 h⟩
  f49 := ⟨st49_b h, st49_J0 h⟩
  f50 := ⟨st50_b h⟩
  f53 := ⟨st53_b h, st53_L0 h⟩
  f54 := ⟨st54_b h, st54_J0 h, st54_L1 h, st54_J2 h, st54_J3 h, st54_J4 h, st54_L5 h, st54_J6 h⟩
  f55 := ⟨st55_b h, st55_L0 h, st55_J1 h, st55_J2 h, st55_J3 h, st55_L4 h, st55_J5 h, st55_J6 h⟩
  f56 := ⟨st56_b h, st56_L0 h⟩
  f57 := ⟨st57_b h⟩
  f58 := ⟨st58_b h, st58_L0 h, st58_J1 h⟩
  f64 := ⟨st64_b h, st64_L0 h⟩
def none0 : Fns where
  f3 := { b := fun _ _ => none, J0 := fun _ _ _ => none, L1 := fun _ _ _ _ _ _ _ _ => none, J2 := fun _ _ _ _ _ _ _ _ _ _ _ => none, J3 := fun _ _ _ _ _ _ _ _ _ _ => none, L4 := fun _ _ _ _ _ _ _ _ => none, L5 := fun _ _ _ _ _ _ _ => none, J6 := fun _ _ _ _ _ _ => none, J7 := fun _ _ _ _ _ _ _ _ => none, J8 := fun _ _ _ _ _ _ _ _ => none, J9 := fun _ _ _ _ => none, L10 := fun _ _ _ _ => none, J11 := fun _ _ => none, J12 := fun _ _ => none, L13 := fun _ _ _ _ _ _ _ _ _ _ _ => none, J14 := fun _ _ _ _ _ _ _ _ _ _ _ => none, J15 := fun _ _ _ _ _ => none }
  f6 := { b := none, L0 := fun _ _ _ _ _ _ _ => none, J1 := fun _ _ _ _ _ _ _ _ => none, J2 := fun _ _ => none }
  f7 := { b := fun _ => none }
  f8 := { b := fun _ _ _ _ => none, J0 := fun _ _ _ _ => none }
  f9 := { b := fun _ _ _ _ _ => none }
  f10 := { b := fun _ _ _ _ => none, J0 := fun _ _ _ _ _ _ => none, L1 := fun _ _ _ _ _ _ _ => none, J2 := fun _ _ _ _ _ _ _ => none }
  f11 := { b := fun _ _ _ _ => none, L0 := fun _ _ _ _ _ _ _ => none }
  f12 := { b := fun _ _ _ => none }
  f13 := { b := fun _ _ _ _ => none, J0 := fun _ _ _ _ _ _ _ _ _ _ => none }
  f14 := { b := fun _ _ _ _ => none }
  f15 := { b := fun _ _ _ => none, L0 := fun _ _ _ _ _ => none, J1 := fun _ _ _ _ _ => none }
  f16 := { b := fun _ _ _ _ => none }
  f20 := { b := fun _ _ _ => none }
  f25 := { b := fun _ _ _ _ => none }
  f26 := { b := fun _ _ _ _ _ _ => none }
  f27 := { b := fun _ _ _ => none }
  f28 := { b := fun _ _ _ _ => none, L0 := fun _ _ _ _ _ _ => none, J1 := fun _ _ _ _ _ _ _ _ => none, J2 := fun _ _ _ _ _ _ => none }
  f29 := { b := fun _ _ _ _ _ => none, J0 := fun _ _ _ _ _ _ _ => none }
  f30 := { b := fun _ _ _ _ _ => none, L0 := fun _ _ _ _ _ _ => none, J1 := fun _ _ _ _ _ _ => none, J2 := fun _ _ _ _ _ _ => none, J3 := fun _ _ _ _ _ _ => none, J4 := fun _ => none }
  f31 := { b := fun _ _ => none }
  f32 := { b := fun _ _ _ _ _ => none, L0 := fun _ _ _ _ _ _ => none, J1 := fun _ _ _ _ _ _ _ _ => none, J2 := fun _ _ _ _ _ _ => none }
  f33 := { b := fun _ _ _ => none }
  f34 := { b := fun _ => none }
  f39 := { b := fun _ => none, L0 := fun _ _ _ => none, J1 := fun _ _ _ _ => none, J2 := fun _ => none }
  f40 := { b := fun _ _ _ => none }
  f41 := { b := fun _ _ _ => none, L0 := fun _ _ _ _ _ => none, J1 := fun _ _ _ _ _ => none }
  f42 := { b := fun _ => none }
  f43 := { b := fun _ _ _ => none, L0 := fun _ _ _ _ _ => none, J1 := fun _ _ _ _ _ => none }
  f44 := { b := fun _ _ _ _ => none }
  f45 := { b := fun _ _ _ _ _ _ _ _ => none, J0 := fun _ => none }
  f46 := { b := fun _ _ _ _ _ _ _ _ => none, J0 := fun _ => none, J1 := fun _ => none, J2 := fun _ => none, J3 := fun _ => none }
  f47 := { b := fun _ _ _ _ _ _ _ _ => none, J0 := fun _ _ _ _ _ _ _ _ => none, J1 := fun _ _ _ _ _ _ _ _ => none, J2 := fun _ _ _ _ _ _ _ _ => none, J3 := fun _ _ _ => none, J4 := fun _ _ _ _ _ _ => none, J5 := fun _ _ _ _ _ _ => none }
  f48 := { b := fun _ _ _ _ _ _ _ _ => none, J0 := fun _ _ _ _ _ _ _ => none, J1 := fun _ _ _ _ _ _ _ => none, J2 := fun _ _ => none, J3 := fun _ _ _ _ _ _ _ => none, J4 := fun _ _ _ _ _ _ _ => none, J5 := fun _ _ _ _ _ _ _ => none }
  f49 := { b := fun _ _ _ _ _ _ _ _ => none, J0 := fun _ => none }
  f50 := { b := fun _ _ _ _ _ _ _ _ => none }
  f53 := { b := fun _ _ _ => none, L0 := fun _ _ _ _ _ => none }
  f54 := { b := fun _ _ _ _ _ => none, J0 := fun _ _ _ _ _ _ => none, L1 := fun _ _ _ _ _ _ _ _ => none, J2 := fun _ _ _ _ _ _ _ _ => none, J3 := fun _ _ _ _ _ => none, J4 := fun _ _ _ => none, L5 := fun _ _ _ _ _ _ => none, J6 := fun _ _ _ _ _ _ => none }
  f55 := { b := fun _ _ _ _ _ => none, L0 := fun _ _ _ _ _ _ => none, J1 := fun _ _ _ _ _ _ => none, J2 := fun _ _ _ _ _ _ => none, J3 := fun _ _ _ => none, L4 := fun _ _ _ _ _ _ => none, J5 := fun _ _ _ _ _ _ => none, J6 := fun _ => none }
  f56 := { b := fun _ _ _ => none, L0 := fun _ _ _ _ _ => none }
  f57 := { b := fun _ _ _ => none }
  f58 := { b := fun _ _ _ => none, L0 := fun _ _ _ _ _ => none, J1 := fun _ _ _ _ _ => none }
  f64 := { b := fun _ _ _ => none, L0 := fun _ _ _ _ _ => none }
theorem none0_ok : FnsOk none0 where
  f3 := ⟨fun _ _ => OLe.none _, fun _ _ _ => OLe.none _, fun _ _ _ _ _ _ _ _ => OLe.none _, fun _ _ _ _ _ _ _ _ _ _ _ => OLe.none _, fun _ _ _ _ _ _ _ _ _ _ => OLe.none _, fun _ _ _ _ _ _ _ _ => OLe.none _, fun _ _ _ _ _ _ _ => OLe.none _, fun _ _ _ _ _ _ => OLe.none _, fun _ _ _ _ _ _ _ _ => OLe.none _, fun _ _ _ _ _ _ _ _ => OLe.none _, fun _ _ _ _ => OLe.none _, fun _ _ _ _ => OLe.none _, fun _ _ => OLe.none _, fun _ _ => OLe.none _, fun _ _ _ _ _ _ _ _ _ _ _ => OLe.none _, fun _ _ _ _ _ _ _ _ _ _ _ => OLe.none _, fun _ _ _ _ _ => OLe.none _⟩
  f6 := ⟨OLe.none _, fun _ _ _ _ _ _ _ => OLe.none _, fun _ _ _ _ _ _ _ _ => OLe.none _, fun _ _ => OLe.none _⟩
  f7 := ⟨fun _ => OLe.none _⟩
  f8 := ⟨fun _ _ _ _ => OLe.none _, fun _ _ _ _ => OLe.none _⟩
  f9 := ⟨fun _ _ _ _ _ => OLe.none _⟩
  f10 := ⟨fun _ _ _ _ => OLe.none _, fun _ _ _ _ _ _ => OLe.none _, fun _ _ _ _ _ _ _ => OLe.none _, fun _ _ _ _ _ _ _ => OLe.none _⟩
  f11 := ⟨fun _ _ _ _ => OLe.none _, fun _ _ _ _ _ _ _ => OLe.none _⟩
  f12 := ⟨fun _ _ _ => OLe.none _⟩
  f13 := ⟨fun _ _ _ _ => OLe.none _, fun _ _ _ _ _ _ _ _ _ _ => OLe.none _⟩
  f14 := ⟨fun _ _ _ _ => OLe.none _⟩
  f15 := ⟨fun _ _ _ => OLe.none _, fun _ _ _ _ _ => OLe.none _, fun _ _ _ _ _ => OLe.none _⟩
  f16 := ⟨fun _ _ _ _ => OLe.none _⟩
  f20 := ⟨fun _ _ _ => OLe.none _⟩
  f25 := ⟨fun _ _ _ _ => OLe.none _⟩
  f26 := ⟨fun _ _ _ _ _ _ => OLe.none _⟩
  f27 := ⟨fun _ _ _ => OLe.none _⟩
  f28 := ⟨fun _ _ _ _ => OLe.none _, fun _ _ _ _ _ _ => OLe.none _, fun _ _ _ _ _ _ _ _ => OLe.none _, fun _ _ _ _ _ _ => OLe.none _⟩
  f29 := ⟨fun _ _ _ _ _ => OLe.none _, fun _ _ _ _ _ _ _ => OLe.none _⟩
  f30 := ⟨fun _ _ _ _ _ => OLe.none _, fun _ _ _ _ _ _ => OLe.none _, fun _ _ _ _ _ _ => OLe.none _, fun _ _ _ _ _ _ => OLe.none _, fun _ _ _ _ _ _ => OLe.none _, fun _ => OLe.none _⟩
  f31 := ⟨fun _ _ => OLe.none _⟩
  f32 := ⟨fun _ _ _ _ _ => OLe.none _, fun _ _ _ _ _ _ => OLe.none _, fun _ _ _ _ _ _ _ _ => OLe.none _, fun _ _ _ _ _ _ => OLe.none _⟩
  f33 := ⟨fun _ _ _ => OLe.none _⟩
  f34 := ⟨fun _ => OLe.none _⟩
  f39 := ⟨fun _ => OLe.none _, fun _ _ _ => OLe.none _, fun _ _ _ _ => OLe.none _, fun _ => OLe.none _⟩
  f40 := ⟨fun _ _ _ => OLe.none _⟩
  f41 := ⟨fun _ _ _ => OLe.none _, fun _ _ _ _ _ => OLe.none _, fun _ _ _ _ _ => OLe.none _⟩
  f42 := ⟨fun _ => OLe.none _⟩
  f43 := ⟨fun _ _ _ => OLe.none _, fun _ _ _ _ _ => OLe.none _, fun _ _ _ _ _ => OLe.none _⟩
  f44 := ⟨fun _ _ _ _ => OLe.none _⟩
  f45 := ⟨fun _ _ _ _ _ _ _ _ => OLe.none _, fun _ => OLe.none _⟩
  f46 := ⟨fun _ _ _ _ _ _ _ _ => OLe.none _, fun _ => OLe.none _, fun _ => OLe.none _, fun _ => OLe.none _, fun _ => OLe.none _⟩
  f47 := ⟨fun _ _ _ _ _ _ _ _ => OLe.none _, fun _ _ _ _ _ _ _ _ => OLe.none _, fun _ _ _ _ _ _ _ _ => OLe.none _, fun _ _ _ _ _ _ _ _ => OLe.none _, fun _ _ _ => OLe.none _, fun _ _ _ _ _ _ => OLe.none _, fun _ _ _ _ _ _ => OLe.none _⟩
  f48 := ⟨fun _ _ _ _ _ _ _ _ => OLe.none _, fun _ _ _ _ _ _ _ => OLe.none _, fun _ _ _ _ _ _ _ => OLe.none _, fun _ _ => OLe.none _, fun _ _ _ _ _ _ _ => OLe.none _, fun _ _ _ _ _ _ _ => OLe.none _, fun _ _ _ _ _ _ _ => OLe.none _⟩
  f49 := ⟨fun _ _ _ _ _ _ _ _ => OLe.none _, fun _ => OLe.none _⟩
  f50 := ⟨fun _ _ _ _ _ _ _ _ => OLe.none _⟩
  f53 := ⟨fun _ _ _ => OLe.none _, fun _ _ _ _ _ => OLe.none _⟩
  f54 := ⟨fun _ _ _ _ _ => OLe.none _, fun _ _ _ _ _ _ => OLe.none _, fun _ _ _ _ _ _ _ _ => OLe.none _, fun _ _ _ _ _ _ _ _ => OLe.none _, fun _ _ _ _ _ => OLe.none _, fun _ _ _ => OLe.none _, fun _ _ _ _ _ _ => OLe.none _, fun _ _ _ _ _ _ => OLe.none _⟩
  f55 := ⟨fun _ _ _ _ _ => OLe.none _, fun _ _ _ _ _ _ => OLe.none _, fun _ _ _ _ _ _ => OLe.none _, fun _ _ _ _ _ _ => OLe.none _, fun _ _ _ => OLe.none _, fun _ _ _ _ _ _ => OLe.none _, fun _ _ _ _ _ _ => OLe.none _, fun _ => OLe.none _⟩
  f56 := ⟨fun _ _ _ => OLe.none _, fun _ _ _ _ _ => OLe.none _⟩
  f57 := ⟨fun _ _ _ => OLe.none _⟩
  f58 := ⟨fun _ _ _ => OLe.none _, fun _ _ _ _ _ => OLe.none _, fun _ _ _ _ _ => OLe.none _⟩
  f64 := ⟨fun _ _ _ => OLe.none _, fun _ _ _ _ _ => OLe.none _⟩
noncomputable def EE (n : Nat) : Fns := Nat.rec none0 (fun _ F => step1 F) n
theorem EE_ok : ∀ n, FnsOk (EE n)
  | 0 => none0_ok
  | n + 1 => step1_ok (EE_ok n)
end Go.Proofs.YtnpjififnhjbbaaDoor.E
