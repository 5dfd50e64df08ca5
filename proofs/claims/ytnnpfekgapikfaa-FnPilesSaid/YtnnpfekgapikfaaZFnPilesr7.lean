import Derived.Test.YtnnpfekgapikfaaZFnPilesx0
import Derived.Test.YtnnpfekgapikfaaZFnPilesx1
import Derived.Test.YtnnpfekgapikfaaZFnPilesx3
import Derived.Test.YtnnpfekgapikfaaZFnPilesx4
import Derived.Test.YtnnpfekgapikfaaZFnPilesx5
import Derived.Test.YtnnpfekgapikfaaZFnPilesx6
import Derived.Test.YtnnpfekgapikfaaZFnPilesx7
import Derived.Test.YtnnpfekgapikfaaZFnPilesx8
import Derived.Test.YtnnpfekgapikfaaZFnPilesx9
import Derived.Test.YtnnpfekgapikfaaZFnPilesd
namespace Go.Proofs.Ytnnpfekgapikfaa.PFnPiles
open Go.RowKit Go.Proofs.YtnnpfekgapikfaaW.PrintWords Go.Proofs.YtnnpfekgapikfaaW.PrintLast Go.Proofs.YtnnpfekgapikfaaW.PrintMore
attribute [local go_sem] max2_int min2_int max_two min_two max_three min_three max_four min_four
set_option linter.unusedVariables false
set_option linter.unusedSimpArgs false
set_option maxHeartbeats 8000000 in
set_option maxRecDepth 100000 in
theorem laws_FnPiles.rest7 (k : Nat) (A0 : Option Addr) (c0 : Nat) (l0 : List Int) (r : Bool) (w : World) (t513 : Int) (t514 t517 : List Int) (t521 t522 t523 t524 : Bool) (t526 : Int) (t527 : Bool) (t528 : Int) (t529 : Bool) (gb520 : Nat) (Ao17 : Option Addr) (co17 : Nat) (Ao18 : Option Addr) (co18 kj12 : Nat) (HJ12 : Aside0 (kj12 + 1 ≤ k)) (t530 : Int) (t531 : Bool) (t532 : Int) (t533 : Bool) (t534 : Int) (t535 t538 : List Int) (t541 : Bool) (t543 : Int) (t544 t547 : List Int) (t550 : Bool) (t553 : Int) (t554 t557 : List Int) (t560 : Int) (t562 t563 t564 t565 : Bool) (t566 t567 : Int) (t568 : Bool) (t569 t570 : Int) (t571 : Bool) (gb542 : Nat) (NB520_542 : Aside0 (gb520 ≠ gb542)) (NB542_520 : Aside0 (gb542 ≠ gb520)) (Ao59 : Option Addr) (co59 : Nat) (Ao60 : Option Addr) (co60 gb551 : Nat) (NB520_551 : Aside0 (gb520 ≠ gb551)) (NB551_520 : Aside0 (gb551 ≠ gb520)) (Ao67 : Option Addr) (co67 : Nat) (Ao68 : Option Addr) (co68 gb561 : Nat) (NB520_561 : Aside0 (gb520 ≠ gb561)) (NB561_520 : Aside0 (gb561 ≠ gb520)) (Ao77 : Option Addr) (co77 : Nat) (Ao78 : Option Addr) (co78 kj48 : Nat) (HJ48 : Aside0 (kj48 + 1 ≤ kj12)) (t572 t573 : Int) (t574 : Bool) (t576 t577 : Int) (t578 : Bool) (gb575 : Nat) (NB520_575 : Aside0 (gb520 ≠ gb575)) (NB575_520 : Aside0 (gb575 ≠ gb520)) (gb579 : Nat) (NB520_579 : Aside0 (gb520 ≠ gb579)) (NB579_520 : Aside0 (gb579 ≠ gb520)) (kj96 : Nat) (HJ96 : Aside0 (kj96 + 1 ≤ kj48)) (t580 : Int) (t581 t584 : List Int) (t587 t589 : Int) (t590 t593 : List Int) (t596 : Bool) (t598 : Int) (t599 t602 : List Int) (t605 : Bool) (gb588 : Nat) (NB520_588 : Aside0 (gb520 ≠ gb588)) (NB588_520 : Aside0 (gb588 ≠ gb520)) (Ao151 : Option Addr) (co151 : Nat) (Ao152 : Option Addr) (co152 gb597 : Nat) (NB520_597 : Aside0 (gb520 ≠ gb597)) (NB597_520 : Aside0 (gb597 ≠ gb520)) (Ao163 : Option Addr) (co163 : Nat) (Ao164 : Option Addr) (co164 gb606 : Nat) (NB520_606 : Aside0 (gb520 ≠ gb606)) (NB606_520 : Aside0 (gb606 ≠ gb520)) (Ao177 : Option Addr) (co177 : Nat) (Ao178 : Option Addr) (co178 : Nat) {u42 u43 u44 u45 u46 : Value} (kj140 : Nat) (HJ140 : Aside0 (kj140 + 1 ≤ kj96)) (wc : World) {u2 u47 u48 u49 u50 u51 u56 u57 u58 u59 u60 u61 u62 u63 u64 u65 u66 u67 u68 u69 u70 u71 u72 u73 u74 u75 u76 u77 u78 u79 u80 u81 u82 u83 u84 u85 u86 u87 u88 u89 u90 u91 u92 u93 u94 u95 u96 u97 u98 u99 u100 u101 u102 u103 u104 u105 u106 u107 u108 u109 u110 u111 u112 u113 u114 u115 u116 u117 u118 u119 u120 u121 u122 u123 u124 u125 u126 u127 u128 u129 u130 u131 u132 u133 u134 u135 u136 u137 u138 u139 u140 u141 u142 u143 u144 u145 u146 u147 u148 u149 u150 u151 u152 u153 u154 u155 u156 u157 u158 u159 u160 u161 u162 u163 u164 u165 u166 u167 u168 u169 u170 u171 u172 u173 u174 u175 u176 u177 u178 u179 u180 u181 u182 u183 u184 u185 u186 u187 u188 u189 u190 u191 u192 u193 u194 u195 u196 u197 u198 u199 u200 u201 u202 u203 u204 u205 u206 u207 u208 u209 u210 u211 u212 u213 u214 u215 u216 u217 u218 u219 u220 u221 u222 u223 u224 u225 u226 u227 u228 u229 u230 u231 u232 u233 u234 u235 u236 u237 u238 u239 u240 u241 u242 u243 u244 u245 u246 u247 u248 u249 u250 u251 u252 u253 u254 u255 u256 u257 u258 u259 u260 u261 u262 u263 u264 u265 u266 u267 u268 u269 u270 u271 u272 u273 u274 u275 u276 u277 u278 u279 u280 u281 u282 u283 u284 u285 u286 u287 u288 u289 u290 u291 u292 u293 u294 u295 u296 u297 u298 u299 u300 u301 u302 u303 u304 u305 u306 u307 u308 u309 u310 u311 u312 u313 u314 u315 u316 u317 u318 u319 u320 u321 u322 u323 u324 u325 u326 u327 u328 u329 u330 u331 u332 u333 u334 u335 u336 u337 u338 u339 u340 u341 u342 u343 u344 u345 u346 u347 u348 u349 u350 u351 u352 u353 u354 u355 u356 u357 u358 u359 u360 u361 u362 u363 u364 u365 u366 u367 u368 u369 u370 u371 u372 u373 u374 u375 u376 u377 u378 u379 u380 : Value} (kq : Nat) (HA : Aside0 (j6 kq t521 t522 t526 t513 t514 t517 = some r)) (HJ215 : Aside0 (kq ≤ kj140)) (HO_521001 : Aside0 ((Kd.int IntKind.i64).R 3 wc w.heap.size (fun x => True) (Value.slice Ao17 t514.length co17) t514)) (HO_521002 : Aside0 ((Kd.int IntKind.i64).R 3 wc w.heap.size (fun x => True) (Value.slice Ao18 t517.length co18) t517)) (HO_543001 : Aside0 ((Kd.int IntKind.i64).R 3 wc w.heap.size (fun x => True) (Value.slice Ao59 t535.length co59) t535)) (HO_543002 : Aside0 ((Kd.int IntKind.i64).R 3 wc w.heap.size (fun x => True) (Value.slice Ao60 t538.length co60) t538)) (HO_552001 : Aside0 ((Kd.int IntKind.i64).R 3 wc w.heap.size (fun x => True) (Value.slice Ao67 t544.length co67) t544)) (HO_552002 : Aside0 ((Kd.int IntKind.i64).R 3 wc w.heap.size (fun x => True) (Value.slice Ao68 t547.length co68) t547)) (HO_562001 : Aside0 ((Kd.int IntKind.i64).R 3 wc w.heap.size (fun x => True) (Value.slice Ao77 t554.length co77) t554)) (HO_562002 : Aside0 ((Kd.int IntKind.i64).R 3 wc w.heap.size (fun x => True) (Value.slice Ao78 t557.length co78) t557)) (HO_589001 : Aside0 ((Kd.int IntKind.i64).R 3 wc w.heap.size (fun x => True) (Value.slice Ao151 t581.length co151) t581)) (HO_589002 : Aside0 ((Kd.int IntKind.i64).R 3 wc w.heap.size (fun x => True) (Value.slice Ao152 t584.length co152) t584)) (HO_598001 : Aside0 ((Kd.int IntKind.i64).R 3 wc w.heap.size (fun x => True) (Value.slice Ao163 t590.length co163) t590)) (HO_598002 : Aside0 ((Kd.int IntKind.i64).R 3 wc w.heap.size (fun x => True) (Value.slice Ao164 t593.length co164) t593)) (HO_607001 : Aside0 ((Kd.int IntKind.i64).R 3 wc w.heap.size (fun x => True) (Value.slice Ao177 t599.length co177) t599)) (HO_607002 : Aside0 ((Kd.int IntKind.i64).R 3 wc w.heap.size (fun x => True) (Value.slice Ao178 t602.length co178) t602)) (BK520 : Aside0     (wc.heap[gb520]? =       some         (Obj.cells #[Value.int IntKind.i64 t513, Value.slice Ao17 t514.length co17, Value.slice Ao18 t517.length co18]           27))) (BK542 : Aside0     (wc.heap[gb542]? =       some         (Obj.cells #[Value.int IntKind.i64 t534, Value.slice Ao59 t535.length co59, Value.slice Ao60 t538.length co60]           27))) (BK551 : Aside0     (wc.heap[gb551]? =       some         (Obj.cells #[Value.int IntKind.i64 t543, Value.slice Ao67 t544.length co67, Value.slice Ao68 t547.length co68]           27))) (BK561 : Aside0     (wc.heap[gb561]? =       some         (Obj.cells #[Value.int IntKind.i64 t553, Value.slice Ao77 t554.length co77, Value.slice Ao78 t557.length co78]           27))) (BK575 : Aside0 (wc.heap[gb575]? = some (Obj.cells #[Value.int IntKind.i64 t572, Value.int IntKind.i64 t573] 45))) (BK579 : Aside0 (wc.heap[gb579]? = some (Obj.cells #[Value.int IntKind.i64 t576, Value.int IntKind.i64 t577] 45))) (BK588 : Aside0     (wc.heap[gb588]? =       some         (Obj.cells           #[Value.int IntKind.i64 t580, Value.slice Ao151 t581.length co151, Value.slice Ao152 t584.length co152] 27))) (BK597 : Aside0     (wc.heap[gb597]? =       some         (Obj.cells           #[Value.int IntKind.i64 t589, Value.slice Ao163 t590.length co163, Value.slice Ao164 t593.length co164] 27))) (BK606 : Aside0     (wc.heap[gb606]? =       some         (Obj.cells           #[Value.int IntKind.i64 t598, Value.slice Ao177 t599.length co177, Value.slice Ao178 t602.length co178] 27))) (HB : Aside0 (Below w.heap.size w wc)) :
  cutWp Try.prog (bodyPost Try.prog Try.f5 fun e w' => e = Ending.returned (Value.bool r) ∧ Below w.heap.size w w') (cutOf false 318 Try.f5) ({ tmps := List.toArray (Value.slice A0 l0.length c0 :: undef :: u2 :: Value.pointer (some { block := gb520, off := 0 }) :: Value.bool t521 :: Value.bool t522 :: Value.bool t523 :: Value.bool t524 :: Value.int IntKind.i64 t526 :: Value.bool t527 :: Value.int IntKind.i64 t528 :: Value.bool t529 :: Value.int IntKind.i64 t530 :: Value.bool t531 :: Value.int IntKind.i64 t532 :: Value.bool t533 :: Value.pointer (some { block := gb542, off := 0 }) :: Value.bool t541 :: Value.pointer (some { block := gb551, off := 0 }) :: Value.bool t550 :: Value.pointer (some { block := gb561, off := 0 }) :: Value.int IntKind.i64 t560 :: Value.bool t562 :: Value.bool t563 :: Value.bool t564 :: Value.bool t565 :: Value.int IntKind.i64 t566 :: Value.int IntKind.i64 t567 :: Value.bool t568 :: Value.int IntKind.i64 t569 :: Value.int IntKind.i64 t570 :: Value.bool t571 :: Value.pointer (some { block := gb575, off := 0 }) :: Value.bool t574 :: Value.pointer (some { block := gb579, off := 0 }) :: Value.bool t578 :: Value.pointer (some { block := gb588, off := 0 }) :: Value.int IntKind.i64 t587 :: Value.pointer (some { block := gb597, off := 0 }) :: Value.bool t596 :: Value.pointer (some { block := gb606, off := 0 }) :: Value.bool t605 :: u42 :: u43 :: u44 :: u45 :: u46 :: u47 :: u48 :: u49 :: u50 :: u51 :: undef :: undef :: undef :: undef :: u56 :: u57 :: u58 :: u59 :: u60 :: u61 :: u62 :: u63 :: u64 :: u65 :: u66 :: u67 :: u68 :: u69 :: u70 :: u71 :: u72 :: u73 :: u74 :: u75 :: u76 :: u77 :: u78 :: u79 :: u80 :: u81 :: u82 :: u83 :: u84 :: u85 :: u86 :: u87 :: u88 :: u89 :: u90 :: u91 :: u92 :: u93 :: u94 :: u95 :: u96 :: u97 :: u98 :: u99 :: u100 :: u101 :: u102 :: u103 :: u104 :: u105 :: u106 :: u107 :: u108 :: u109 :: u110 :: u111 :: u112 :: u113 :: u114 :: u115 :: u116 :: u117 :: u118 :: u119 :: u120 :: u121 :: u122 :: u123 :: u124 :: u125 :: u126 :: u127 :: u128 :: u129 :: u130 :: u131 :: u132 :: u133 :: u134 :: u135 :: u136 :: u137 :: u138 :: u139 :: u140 :: u141 :: u142 :: u143 :: u144 :: u145 :: u146 :: u147 :: u148 :: u149 :: u150 :: u151 :: u152 :: u153 :: u154 :: u155 :: u156 :: u157 :: u158 :: u159 :: u160 :: u161 :: u162 :: u163 :: u164 :: u165 :: u166 :: u167 :: u168 :: u169 :: u170 :: u171 :: u172 :: u173 :: u174 :: u175 :: u176 :: u177 :: u178 :: u179 :: u180 :: u181 :: u182 :: u183 :: u184 :: u185 :: u186 :: u187 :: u188 :: u189 :: u190 :: u191 :: u192 :: u193 :: u194 :: u195 :: u196 :: u197 :: u198 :: u199 :: u200 :: u201 :: u202 :: u203 :: u204 :: u205 :: u206 :: u207 :: u208 :: u209 :: u210 :: u211 :: u212 :: u213 :: u214 :: u215 :: u216 :: u217 :: u218 :: u219 :: u220 :: u221 :: u222 :: u223 :: u224 :: u225 :: u226 :: u227 :: u228 :: u229 :: u230 :: u231 :: u232 :: u233 :: u234 :: u235 :: u236 :: u237 :: u238 :: u239 :: u240 :: u241 :: u242 :: u243 :: u244 :: u245 :: u246 :: u247 :: u248 :: u249 :: u250 :: u251 :: u252 :: u253 :: u254 :: u255 :: u256 :: u257 :: u258 :: u259 :: u260 :: u261 :: u262 :: u263 :: u264 :: u265 :: u266 :: u267 :: u268 :: u269 :: u270 :: u271 :: u272 :: u273 :: u274 :: u275 :: u276 :: u277 :: u278 :: u279 :: u280 :: u281 :: u282 :: u283 :: u284 :: u285 :: u286 :: u287 :: u288 :: u289 :: u290 :: u291 :: u292 :: u293 :: u294 :: u295 :: u296 :: u297 :: u298 :: u299 :: u300 :: u301 :: u302 :: u303 :: u304 :: u305 :: u306 :: u307 :: u308 :: u309 :: u310 :: u311 :: u312 :: u313 :: u314 :: u315 :: u316 :: u317 :: u318 :: u319 :: u320 :: u321 :: u322 :: u323 :: u324 :: u325 :: u326 :: u327 :: u328 :: u329 :: u330 :: u331 :: u332 :: u333 :: u334 :: u335 :: u336 :: u337 :: u338 :: u339 :: u340 :: u341 :: u342 :: u343 :: u344 :: u345 :: u346 :: u347 :: u348 :: u349 :: u350 :: u351 :: u352 :: u353 :: u354 :: u355 :: u356 :: u357 :: u358 :: u359 :: u360 :: u361 :: u362 :: u363 :: u364 :: u365 :: u366 :: u367 :: u368 :: u369 :: u370 :: u371 :: u372 :: u373 :: u374 :: u375 :: u376 :: u377 :: u378 :: u379 :: u380 :: []), defers := [] } : Act) wc := by
 have hu27 := Try.underlying27
 have hu45 := Try.underlying45
 have heqa45 : ∀ (a0_ a1_ b0_ b1_ : Int) (W_ : World), (Op.equalIn 10000 45 (.agg #[.int .i64 a0_, .int .i64 a1_]) (.agg #[.int .i64 b0_, .int .i64 b1_])).run Try.prog W_ = .ok (a0_ == b0_ && a1_ == b1_) W_ := by
  intro a0_ a1_ b0_ b1_ W_
  have u3 := Try.underlying3
  have a3 := Try.isAgg3
  have z3 := Try.sizeOf3
  rw [show (10000 : Nat) = 9999 + 1 from rfl, Op.equalIn]
  simp only [Sem.run_bind, run_underlying Try.underlying45, Result.andThen_ok]
  simp only [Std.Legacy.Range.forIn_eq_forIn_range', Std.Legacy.Range.size, Nat.sub_zero, Nat.add_sub_cancel, Nat.div_one, List.range'_succ, List.range'_zero, List.forIn_cons, List.forIn_nil]
  go_simp
  by_cases h0_ : a0_ = b0_ <;> by_cases h1_ : a1_ = b1_ <;> simp [h0_, h1_]
 refine cutI1 (by rfl) ?_
 cases kq with
 | zero => exact absurd HA.out (by simp [laws_FnPiles.j6])
 | succ kj215 =>
  have H := HA.out
  clear HA
  simp only [laws_FnPiles.j6] at H
  by_cases c252 : t522 = true
  ·
   subst c252
   have H1 : (laws_FnPiles.l2 kj215 t521 t526 (-1) 0 t513 t514 t517) = some r := by rw [if_pos rfl] at H; exact H
   clear H
   have H := H1
   clear H1
   have H' := Aside0.mk H
   clear H
   go_wp2
   go_loopg [52, 53] kj215 (fun kq v52 v53 w' => ∃ (x52_6 : Int) (x53_6 : Int), v52 = .int .i64 x52_6 ∧ v53 = .int .i64 x53_6 ∧ Aside0 (laws_FnPiles.l2 kq t521 t526 x52_6 x53_6 t513 t514 t517 = some r) ∧ Aside0 (kq ≤ kj215) ∧ Aside0 (Kd.R (Kd.int .i64) 3 w' w.heap.size (fun _ => True) (.slice Ao17 t514.length co17) t514) ∧ Aside0 (Kd.R (Kd.int .i64) 3 w' w.heap.size (fun _ => True) (.slice Ao18 t517.length co18) t517) ∧ Aside0 (Kd.R (Kd.int .i64) 3 w' w.heap.size (fun _ => True) (.slice Ao59 t535.length co59) t535) ∧ Aside0 (Kd.R (Kd.int .i64) 3 w' w.heap.size (fun _ => True) (.slice Ao60 t538.length co60) t538) ∧ Aside0 (Kd.R (Kd.int .i64) 3 w' w.heap.size (fun _ => True) (.slice Ao67 t544.length co67) t544) ∧ Aside0 (Kd.R (Kd.int .i64) 3 w' w.heap.size (fun _ => True) (.slice Ao68 t547.length co68) t547) ∧ Aside0 (Kd.R (Kd.int .i64) 3 w' w.heap.size (fun _ => True) (.slice Ao77 t554.length co77) t554) ∧ Aside0 (Kd.R (Kd.int .i64) 3 w' w.heap.size (fun _ => True) (.slice Ao78 t557.length co78) t557) ∧ Aside0 (Kd.R (Kd.int .i64) 3 w' w.heap.size (fun _ => True) (.slice Ao151 t581.length co151) t581) ∧ Aside0 (Kd.R (Kd.int .i64) 3 w' w.heap.size (fun _ => True) (.slice Ao152 t584.length co152) t584) ∧ Aside0 (Kd.R (Kd.int .i64) 3 w' w.heap.size (fun _ => True) (.slice Ao163 t590.length co163) t590) ∧ Aside0 (Kd.R (Kd.int .i64) 3 w' w.heap.size (fun _ => True) (.slice Ao164 t593.length co164) t593) ∧ Aside0 (Kd.R (Kd.int .i64) 3 w' w.heap.size (fun _ => True) (.slice Ao177 t599.length co177) t599) ∧ Aside0 (Kd.R (Kd.int .i64) 3 w' w.heap.size (fun _ => True) (.slice Ao178 t602.length co178) t602) ∧ Aside0 (w'.heap[gb520]? = some (.cells #[.int .i64 t513, (.slice Ao17 t514.length co17), (.slice Ao18 t517.length co18)] 27 (0, 0))) ∧ Aside0 (w'.heap[gb542]? = some (.cells #[.int .i64 t534, (.slice Ao59 t535.length co59), (.slice Ao60 t538.length co60)] 27 (0, 0))) ∧ Aside0 (w'.heap[gb551]? = some (.cells #[.int .i64 t543, (.slice Ao67 t544.length co67), (.slice Ao68 t547.length co68)] 27 (0, 0))) ∧ Aside0 (w'.heap[gb561]? = some (.cells #[.int .i64 t553, (.slice Ao77 t554.length co77), (.slice Ao78 t557.length co78)] 27 (0, 0))) ∧ Aside0 (w'.heap[gb575]? = some (.cells #[.int .i64 t572, .int .i64 t573] 45 (0, 0))) ∧ Aside0 (w'.heap[gb579]? = some (.cells #[.int .i64 t576, .int .i64 t577] 45 (0, 0))) ∧ Aside0 (w'.heap[gb588]? = some (.cells #[.int .i64 t580, (.slice Ao151 t581.length co151), (.slice Ao152 t584.length co152)] 27 (0, 0))) ∧ Aside0 (w'.heap[gb597]? = some (.cells #[.int .i64 t589, (.slice Ao163 t590.length co163), (.slice Ao164 t593.length co164)] 27 (0, 0))) ∧ Aside0 (w'.heap[gb606]? = some (.cells #[.int .i64 t598, (.slice Ao177 t599.length co177), (.slice Ao178 t602.length co178)] 27 (0, 0))) ∧ Aside0 (Below w.heap.size w w'))
   case atStart => exact ⟨((-1)), (0), (by first | rfl | (simp; done) | (simp [wrap64]; done) | (simp [*]; done)), (by first | rfl | (simp; done) | (simp [wrap64]; done) | (simp [*]; done)), H', ⟨Nat.le_refl _⟩, ⟨tR HO_521001.out⟩, ⟨tR HO_521002.out⟩, ⟨tR HO_543001.out⟩, ⟨tR HO_543002.out⟩, ⟨tR HO_552001.out⟩, ⟨tR HO_552002.out⟩, ⟨tR HO_562001.out⟩, ⟨tR HO_562002.out⟩, ⟨tR HO_589001.out⟩, ⟨tR HO_589002.out⟩, ⟨tR HO_598001.out⟩, ⟨tR HO_598002.out⟩, ⟨tR HO_607001.out⟩, ⟨tR HO_607002.out⟩, ⟨tK BK520.out⟩, ⟨tK BK542.out⟩, ⟨tK BK551.out⟩, ⟨tK BK561.out⟩, ⟨tK BK575.out⟩, ⟨tK BK579.out⟩, ⟨tK BK588.out⟩, ⟨tK BK597.out⟩, ⟨tK BK606.out⟩, ⟨tB HB.out⟩⟩
   case round =>
    clear H'
    (try clear c3); (try clear c7); (try clear c7b0); (try clear c7b1); (try clear c7b2); (try clear c8); (try clear c8b0); (try clear c8b1); (try clear c8b2); (try clear c10); (try clear c10b0); (try clear c10b1); (try clear c10b2); (try clear c31); (try clear c34); (try clear c34b0); (try clear c34b1); (try clear c35); (try clear c35b0); (try clear c35b1); (try clear c35b2); (try clear c36); (try clear c36b0); (try clear c36b1); (try clear c36b2); (try clear c39); (try clear c39b0); (try clear c39b1); (try clear c39b2); (try clear c41); (try clear c45); (try clear c45b0); (try clear c45b1); (try clear c45b2); (try clear c46); (try clear c46b0); (try clear c46b1); (try clear c46b2); (try clear c90); (try clear c93); (try clear c93b0); (try clear c93b1); (try clear c94); (try clear c94b0); (try clear c94b1); (try clear c95); (try clear c95b0); (try clear c95b1); (try clear c95b2); (try clear c96); (try clear c96b0); (try clear c96b1); (try clear c96b2); (try clear c134); (try clear c138); (try clear c138b0); (try clear c138b1); (try clear c138b2); (try clear c140); (try clear c252); (try clear hcz101_0); (try clear hcz101_1); (try clear hcz101_2); (try clear hcz108_0); (try clear hcz108_1); (try clear hcz109_0); (try clear hcz109_1); (try clear hcz109_2); (try clear hcz117_0); (try clear hcz117_1); (try clear hcz118_0); (try clear hcz118_1); (try clear hcz150_0); (try clear hcz150_1); (try clear hcz150_2); (try clear hcz162_0); (try clear hcz162_1)
    (try clear hcz162_2); (try clear hcz165_0); (try clear hcz165_1); (try clear hcz165_2); (try clear hcz16_0); (try clear hcz16_1); (try clear hcz16_2); (try clear hcz176_0); (try clear hcz176_1); (try clear hcz176_2); (try clear hcz179_0); (try clear hcz179_1); (try clear hcz179_2); (try clear hcz20_0); (try clear hcz20_1); (try clear hcz20_2); (try clear hcz22_0); (try clear hcz22_1); (try clear hcz22_2); (try clear hcz24_0); (try clear hcz24_1); (try clear hcz24_2); (try clear hcz26_0); (try clear hcz26_1); (try clear hcz26_2); (try clear hcz50_0); (try clear hcz50_1); (try clear hcz50_2); (try clear hcz52_0); (try clear hcz52_1); (try clear hcz52_2); (try clear hcz54_0); (try clear hcz54_1); (try clear hcz54_2); (try clear hcz58_0); (try clear hcz58_1); (try clear hcz58_2); (try clear hcz61_0); (try clear hcz61_1); (try clear hcz61_2); (try clear hcz66_0); (try clear hcz66_1); (try clear hcz66_2); (try clear hcz69_0); (try clear hcz69_1); (try clear hcz69_2); (try clear hcz76_0); (try clear hcz76_1); (try clear hcz76_2); (try clear hcz80_0); (try clear hcz80_1); (try clear hcz80_2); (try clear hcz82_0); (try clear hcz82_1); (try clear hcz82_2); (try clear hcz84_0); (try clear hcz84_1); (try clear hcz84_2); (try clear hfz101_0); (try clear hfz101_1); (try clear hfz101_2); (try clear hfz108_0); (try clear hfz108_1); (try clear hfz109_0); (try clear hfz109_1); (try clear hfz109_2); (try clear hfz117_0); (try clear hfz117_1); (try clear hfz118_0)
    (try clear hfz118_1); (try clear hfz150_0); (try clear hfz150_1); (try clear hfz150_2); (try clear hfz162_0); (try clear hfz162_1); (try clear hfz162_2); (try clear hfz165_0); (try clear hfz165_1); (try clear hfz165_2); (try clear hfz16_0); (try clear hfz16_1); (try clear hfz16_2); (try clear hfz176_0); (try clear hfz176_1); (try clear hfz176_2); (try clear hfz179_0); (try clear hfz179_1); (try clear hfz179_2); (try clear hfz20_0); (try clear hfz20_1); (try clear hfz20_2); (try clear hfz22_0); (try clear hfz22_1); (try clear hfz22_2); (try clear hfz24_0); (try clear hfz24_1); (try clear hfz24_2); (try clear hfz26_0); (try clear hfz26_1); (try clear hfz26_2); (try clear hfz50_0); (try clear hfz50_1); (try clear hfz50_2); (try clear hfz52_0); (try clear hfz52_1); (try clear hfz52_2); (try clear hfz54_0); (try clear hfz54_1); (try clear hfz54_2); (try clear hfz58_0); (try clear hfz58_1); (try clear hfz58_2); (try clear hfz61_0); (try clear hfz61_1); (try clear hfz61_2); (try clear hfz66_0); (try clear hfz66_1); (try clear hfz66_2); (try clear hfz69_0); (try clear hfz69_1); (try clear hfz69_2); (try clear hfz76_0); (try clear hfz76_1); (try clear hfz76_2); (try clear hfz80_0); (try clear hfz80_1); (try clear hfz80_2); (try clear hfz82_0); (try clear hfz82_1); (try clear hfz82_2); (try clear hfz84_0); (try clear hfz84_1); (try clear hfz84_2)
    obtain ⟨x52_6, x53_6, rfl, rfl, HA, HK6, HO_521001, HO_521002, HO_543001, HO_543002, HO_552001, HO_552002, HO_562001, HO_562002, HO_589001, HO_589002, HO_598001, HO_598002, HO_607001, HO_607002, BK520, BK542, BK551, BK561, BK575, BK579, BK588, BK597, BK606, HB⟩ := hrel
    cases gk with
    | zero => exact absurd HA.out (by simp [laws_FnPiles.l2])
    | succ k6 =>
     have H := HA.out
     clear HA
     simp only [laws_FnPiles.l2] at H
     by_cases c253 : x53_6 < (t514.length : Int)
     ·
      rw [if_pos c253] at H
      have c253b0 : decide (x53_6 < (t514.length : Int)) = true := decide_eq_true c253
      clear c253
      replace H := Option.bind_eq_some_iff.mp H
      obtain ⟨⟨t616, t617⟩, A2540, H⟩ := H
      replace H : (if t617 = true then (if t616 = true then (laws_FnPiles.l2 k6 t521 t526 x52_6 (wrap64 (x53_6 + 1)) t513 t514 t517) else (laws_FnPiles.l2 k6 t521 t526 x53_6 (wrap64 (x53_6 + 1)) t513 t514 t517)) else (none)) = some r := H
      have A254 := Aside0.mk A2540
      clear A2540
      by_cases c255 : t617 = true
      ·
       subst c255
       have H1 : (if t616 = true then (laws_FnPiles.l2 k6 t521 t526 x52_6 (wrap64 (x53_6 + 1)) t513 t514 t517) else (laws_FnPiles.l2 k6 t521 t526 x53_6 (wrap64 (x53_6 + 1)) t513 t514 t517)) = some r := by rw [if_pos rfl] at H; exact H
       clear H
       have H := H1
       clear H1
       by_cases c256 : t616 = true
       ·
        subst c256
        have H1 : (laws_FnPiles.l2 k6 t521 t526 x52_6 (wrap64 (x53_6 + 1)) t513 t514 t517) = some r := by rw [if_pos rfl] at H; exact H
        clear H
        have H := H1
        clear H1
        have H' := Aside0.mk H
        clear H
        have hnb257 := NB520_542.out
        have hnc257 := NB542_520.out
        have hnb258 := NB520_551.out
        have hnc258 := NB551_520.out
        have hnb259 := NB520_561.out
        have hnc259 := NB561_520.out
        have hnb260 := NB520_575.out
        have hnc260 := NB575_520.out
        have hnb261 := NB520_579.out
        have hnc261 := NB579_520.out
        have hnb262 := NB520_588.out
        have hnc262 := NB588_520.out
        have hnb263 := NB520_597.out
        have hnc263 := NB597_520.out
        have hnb264 := NB520_606.out
        have hnc264 := NB606_520.out
        obtain ⟨hcz265_0, hfz265_0, hcz265_1, hfz265_1, hcz265_2, hfz265_2⟩ := cz3 BK520
        go_wp2_with (first | ((with_reducible refine gate_callee (f := 27) rfl ?_); refine goesL_ (some 361) rfl rfl Try.func27 (by kernel_rfl) rfl #[.agg #[.int .i64 t513, .slice Ao17 t514.length co17, .slice Ao18 t517.length co18], .int .i64 x53_6] rfl tM ?_; (with_reducible refine (impl_HoldsBrick.calls k6 t513 _ _ t514 _ _ t517 x53_6 true true _ ?side1 ?side2 ?side3 ?side4 A254.out).mono ?_); (case side1 => exact rC HO_521001); (case side2 => exact (Kd.R_reads' HO_521001.out).2.1); (case side3 => exact rC HO_521002); (case side4 => exact (Kd.R_reads' HO_521002.out).2.1); rintro e w266 ⟨rfl, hb⟩; refine ⟨_, rfl, ?_⟩; replace HO_521001 := rB HO_521001 hb; replace HO_521002 := rB HO_521002 hb; replace HO_543001 := rB HO_543001 hb; replace HO_543002 := rB HO_543002 hb; replace HO_552001 := rB HO_552001 hb; replace HO_552002 := rB HO_552002 hb; replace HO_562001 := rB HO_562001 hb; replace HO_562002 := rB HO_562002 hb; replace HO_589001 := rB HO_589001 hb; replace HO_589002 := rB HO_589002 hb; replace HO_598001 := rB HO_598001 hb; replace HO_598002 := rB HO_598002 hb; replace HO_607001 := rB HO_607001 hb; replace HO_607002 := rB HO_607002 hb; replace BK520 := bkB BK520 hb; replace BK542 := bkB BK542 hb; replace BK551 := bkB BK551 hb; replace BK561 := bkB BK561 hb; replace BK575 := bkB BK575 hb; replace BK579 := bkB BK579 hb; replace BK588 := bkB BK588 hb; replace BK597 := bkB BK597 hb; replace BK606 := bkB BK606 hb; replace HB := hB HB hb; (try clear hb)))
        go_roundg k6
        case measure => have := HJ12.out; have := HJ48.out; have := HJ96.out; have := HJ140.out; have := HJ215.out; have := HK6.out; omega
        case rel => exact ⟨(x52_6), (wrap64 (x53_6 + 1)), (by first | rfl | (simp; done) | (simp [wrap64]; done) | (simp [*]; done)), (by first | rfl | (simp; done) | (simp [wrap64]; done) | (simp [*]; done)), H', ⟨by have := HJ12.out; have := HJ48.out; have := HJ96.out; have := HJ140.out; have := HJ215.out; have := HK6.out; omega⟩, ⟨tR HO_521001.out⟩, ⟨tR HO_521002.out⟩, ⟨tR HO_543001.out⟩, ⟨tR HO_543002.out⟩, ⟨tR HO_552001.out⟩, ⟨tR HO_552002.out⟩, ⟨tR HO_562001.out⟩, ⟨tR HO_562002.out⟩, ⟨tR HO_589001.out⟩, ⟨tR HO_589002.out⟩, ⟨tR HO_598001.out⟩, ⟨tR HO_598002.out⟩, ⟨tR HO_607001.out⟩, ⟨tR HO_607002.out⟩, ⟨tK BK520.out⟩, ⟨tK BK542.out⟩, ⟨tK BK551.out⟩, ⟨tK BK561.out⟩, ⟨tK BK575.out⟩, ⟨tK BK579.out⟩, ⟨tK BK588.out⟩, ⟨tK BK597.out⟩, ⟨tK BK606.out⟩, ⟨tB HB.out⟩⟩
       ·
        replace c256 := Bool.eq_false_iff.mpr c256
        subst c256
        have H1 : (laws_FnPiles.l2 k6 t521 t526 x53_6 (wrap64 (x53_6 + 1)) t513 t514 t517) = some r := by rw [if_neg (show ¬ (false = true) by decide)] at H; exact H
        clear H
        have H := H1
        clear H1
        have H' := Aside0.mk H
        clear H
        have hnb267 := NB520_542.out
        have hnc267 := NB542_520.out
        have hnb268 := NB520_551.out
        have hnc268 := NB551_520.out
        have hnb269 := NB520_561.out
        have hnc269 := NB561_520.out
        have hnb270 := NB520_575.out
        have hnc270 := NB575_520.out
        have hnb271 := NB520_579.out
        have hnc271 := NB579_520.out
        have hnb272 := NB520_588.out
        have hnc272 := NB588_520.out
        have hnb273 := NB520_597.out
        have hnc273 := NB597_520.out
        have hnb274 := NB520_606.out
        have hnc274 := NB606_520.out
        obtain ⟨hcz275_0, hfz275_0, hcz275_1, hfz275_1, hcz275_2, hfz275_2⟩ := cz3 BK520
        go_wp2_with (first | ((with_reducible refine gate_callee (f := 27) rfl ?_); refine goesL_ (some 361) rfl rfl Try.func27 (by kernel_rfl) rfl #[.agg #[.int .i64 t513, .slice Ao17 t514.length co17, .slice Ao18 t517.length co18], .int .i64 x53_6] rfl tM ?_; (with_reducible refine (impl_HoldsBrick.calls k6 t513 _ _ t514 _ _ t517 x53_6 false true _ ?side1 ?side2 ?side3 ?side4 A254.out).mono ?_); (case side1 => exact rC HO_521001); (case side2 => exact (Kd.R_reads' HO_521001.out).2.1); (case side3 => exact rC HO_521002); (case side4 => exact (Kd.R_reads' HO_521002.out).2.1); rintro e w276 ⟨rfl, hb⟩; refine ⟨_, rfl, ?_⟩; replace HO_521001 := rB HO_521001 hb; replace HO_521002 := rB HO_521002 hb; replace HO_543001 := rB HO_543001 hb; replace HO_543002 := rB HO_543002 hb; replace HO_552001 := rB HO_552001 hb; replace HO_552002 := rB HO_552002 hb; replace HO_562001 := rB HO_562001 hb; replace HO_562002 := rB HO_562002 hb; replace HO_589001 := rB HO_589001 hb; replace HO_589002 := rB HO_589002 hb; replace HO_598001 := rB HO_598001 hb; replace HO_598002 := rB HO_598002 hb; replace HO_607001 := rB HO_607001 hb; replace HO_607002 := rB HO_607002 hb; replace BK520 := bkB BK520 hb; replace BK542 := bkB BK542 hb; replace BK551 := bkB BK551 hb; replace BK561 := bkB BK561 hb; replace BK575 := bkB BK575 hb; replace BK579 := bkB BK579 hb; replace BK588 := bkB BK588 hb; replace BK597 := bkB BK597 hb; replace BK606 := bkB BK606 hb; replace HB := hB HB hb; (try clear hb)))
        go_roundg k6
        case measure => have := HJ12.out; have := HJ48.out; have := HJ96.out; have := HJ140.out; have := HJ215.out; have := HK6.out; omega
        case rel => exact ⟨(x53_6), (wrap64 (x53_6 + 1)), (by first | rfl | (simp; done) | (simp [wrap64]; done) | (simp [*]; done)), (by first | rfl | (simp; done) | (simp [wrap64]; done) | (simp [*]; done)), H', ⟨by have := HJ12.out; have := HJ48.out; have := HJ96.out; have := HJ140.out; have := HJ215.out; have := HK6.out; omega⟩, ⟨tR HO_521001.out⟩, ⟨tR HO_521002.out⟩, ⟨tR HO_543001.out⟩, ⟨tR HO_543002.out⟩, ⟨tR HO_552001.out⟩, ⟨tR HO_552002.out⟩, ⟨tR HO_562001.out⟩, ⟨tR HO_562002.out⟩, ⟨tR HO_589001.out⟩, ⟨tR HO_589002.out⟩, ⟨tR HO_598001.out⟩, ⟨tR HO_598002.out⟩, ⟨tR HO_607001.out⟩, ⟨tR HO_607002.out⟩, ⟨tK BK520.out⟩, ⟨tK BK542.out⟩, ⟨tK BK551.out⟩, ⟨tK BK561.out⟩, ⟨tK BK575.out⟩, ⟨tK BK579.out⟩, ⟨tK BK588.out⟩, ⟨tK BK597.out⟩, ⟨tK BK606.out⟩, ⟨tB HB.out⟩⟩
      ·
       replace c255 := Bool.eq_false_iff.mpr c255
       subst c255
       have H1 : (none) = some r := by rw [if_neg (show ¬ (false = true) by decide)] at H; exact H
       clear H
       have H := H1
       clear H1
       exact absurd H (by simp)
     ·
      rw [if_neg c253] at H
      have c253b0 : decide (x53_6 < (t514.length : Int)) = false := decide_eq_false c253
      clear c253
      by_cases c277 : (t521 == (decide (x52_6 < 0))) = true
      ·
       rw [if_pos c277] at H
       have c277b0 : (t521 == (decide (x52_6 < 0))) = true := c277
       (try (have c277b1 : decide (t521 = (decide (x52_6 < 0))) = true := by simpa using c277))
       (try (have c277b2 : (t521 == (decide (x52_6 < 0))) = true := by simpa using c277))
       clear c277
       by_cases c278 : t521 = true
       ·
        subst c278
        have H1 : (some true) = some r := by rw [if_pos rfl] at H; exact H
        clear H
        have H := H1
        clear H1
        obtain rfl := Option.some.inj H
        have hnb279 := NB520_542.out
        have hnc279 := NB542_520.out
        have hnb280 := NB520_551.out
        have hnc280 := NB551_520.out
        have hnb281 := NB520_561.out
        have hnc281 := NB561_520.out
        have hnb282 := NB520_575.out
        have hnc282 := NB575_520.out
        have hnb283 := NB520_579.out
        have hnc283 := NB579_520.out
        have hnb284 := NB520_588.out
        have hnc284 := NB588_520.out
        have hnb285 := NB520_597.out
        have hnc285 := NB597_520.out
        have hnb286 := NB520_606.out
        have hnc286 := NB606_520.out
        obtain ⟨hcz287_0, hfz287_0, hcz287_1, hfz287_1, hcz287_2, hfz287_2⟩ := cz3 BK520
        go_wp2
        go_ret
        exact ⟨by first | rfl | (simp [errW_none, errW_some] <;> rfl) | (simp [*, errW_none, errW_some] <;> rfl), tB HB.out⟩
       ·
        replace c278 := Bool.eq_false_iff.mpr c278
        subst c278
        have H1 : (some (t526 == x52_6)) = some r := by rw [if_neg (show ¬ (false = true) by decide)] at H; exact H
        clear H
        have H := H1
        clear H1
        obtain rfl := Option.some.inj H
        have hnb288 := NB520_542.out
        have hnc288 := NB542_520.out
        have hnb289 := NB520_551.out
        have hnc289 := NB551_520.out
        have hnb290 := NB520_561.out
        have hnc290 := NB561_520.out
        have hnb291 := NB520_575.out
        have hnc291 := NB575_520.out
        have hnb292 := NB520_579.out
        have hnc292 := NB579_520.out
        have hnb293 := NB520_588.out
        have hnc293 := NB588_520.out
        have hnb294 := NB520_597.out
        have hnc294 := NB597_520.out
        have hnb295 := NB520_606.out
        have hnc295 := NB606_520.out
        obtain ⟨hcz296_0, hfz296_0, hcz296_1, hfz296_1, hcz296_2, hfz296_2⟩ := cz3 BK520
        go_wp2
        go_ret
        exact ⟨by first | rfl | (simp [errW_none, errW_some] <;> rfl) | (simp [*, errW_none, errW_some] <;> rfl), tB HB.out⟩
      ·
       rw [if_neg c277] at H
       exact absurd H (by simp)
  ·
   replace c252 := Bool.eq_false_iff.mpr c252
   subst c252
   have H1 : (some true) = some r := by rw [if_neg (show ¬ (false = true) by decide)] at H; exact H
   clear H
   have H := H1
   clear H1
   obtain rfl := Option.some.inj H
   go_wp2
   go_ret
   exact ⟨by first | rfl | (simp [errW_none, errW_some] <;> rfl) | (simp [*, errW_none, errW_some] <;> rfl), tB HB.out⟩
end Go.Proofs.Ytnnpfekgapikfaa.PFnPiles
