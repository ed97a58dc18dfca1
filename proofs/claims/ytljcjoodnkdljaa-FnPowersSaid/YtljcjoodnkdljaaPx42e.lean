/- Functions of the program and what they tell, as the printing program wrote it. -/
import Derived.Test.YtljcjoodnkdljaaPx0
import Derived.Test.YtljcjoodnkdljaaPx5
import Derived.Test.YtljcjoodnkdljaaPx24
import Derived.Test.YtljcjoodnkdljaaPx25
import Derived.Test.YtljcjoodnkdljaaPx26
import Derived.Test.YtljcjoodnkdljaaPx27
import Derived.Test.YtljcjoodnkdljaaPx28
import Derived.Test.YtljcjoodnkdljaaPx42d
namespace Go.Proofs.Ytljcjoodnkdljaa.P
open Go.Shelf Go.RowKit Go.Proofs.YtljcjoodnkdljaaW.PrintWords Go.Proofs.YtljcjoodnkdljaaW.PrintLast Go.Proofs.YtljcjoodnkdljaaW.PrintMore
attribute [local go_sem] max2_int min2_int max_two min_two max_three min_three max_four min_four
set_option linter.unusedVariables false
set_option linter.unusedSimpArgs false
set_option maxHeartbeats 8000000 in
set_option maxRecDepth 100000 in
noncomputable def laws_FnPowers.G4 : { G_ : Prop // laws_FnPowers.W G_ → laws_FnPowers.G3.1 } := by
 constructor
 intro hG_
 intro k A0 c0 l0 A1 c1 l1 r w hu39 HR0 HC0 HR1 HC1 A3 t537 t538 A5 ji6 hji6 ji8 hji8 hji8_ hji8z hji8u hji8v hji8y hji8x t540 A9 t541 A10 t542 A11 t543 A12 t544 t545 A13 t546 t547 A14 t548 t549 A15 z0_0 z0_1 z0_2 w17 gb539 w18 GW539 GE539 w20 w22 z0_3 nd w24 w26 w28 z1_4 z1_5 z1_6 z1_7 z1_8 z1_9 z1_10 z1_11 z1_12 z1_13 z1_14 z1_15 z1_16 z1_17 z1_18 z1_19 z1_20 z1_21 z1_22 z1_23 z1_24 z1_25 z1_26 z1_27 z1_28 z1_29 z1_30 z1_31 z1_32 z1_33 z1_34 z1_35 z1_36 z1_37 z1_38 z1_39 z1_40 z1_41 z1_42 z1_43 z1_44 z1_45 z1_46 z1_47 z1_48 z1_49 z1_50 z1_51 z1_52 z1_53 z1_54 z1_55 z1_56 z1_57 z1_58 z1_59 z1_60 z1_61 z1_62 z1_63 z1_64 z1_65 z1_66 z1_67 z1_68 z1_69 z1_70 z1_71 z1_72 z1_73 z1_74 z1_75 z1_76 z1_77 z1_78 z1_79 z1_80 z1_81 z1_82 z1_83 z1_84 z1_85 z1_86 z1_87 z1_88 z1_89 z1_90 z1_91 z1_92 z1_93 z1_94 z1_95 z1_96 z1_97 z1_98 z1_99 z1_100 z1_101 z1_102 z1_103 z1_104 z1_105 z1_106 z1_107 z1_108 z1_109 z1_110 z1_111 z1_112 z1_113 z1_114 z1_115 z1_116 z1_117 z1_118 z1_119 z1_120 z1_121 z1_122 z1_123 z1_124 z1_125 z1_126 z1_127 z1_128 z1_129 z1_130 z1_131 z1_132 z1_133 z1_134 z1_135 z1_136 z1_137 z1_138 z1_139 z1_140 z1_141 z1_142 z1_143 z1_144 z1_145 z1_146 z1_147 z1_148 z1_149 z1_150 z1_151 z1_152 z1_153 z1_154 z1_155 z1_156 z1_157 z1_158 z1_159 z1_160 z1_161 z1_162 z1_163 z1_164 z1_165 z1_166 z1_167 z1_168 z1_169 z1_170 z1_171 z1_172 z1_173 z1_174 z1_175 z1_176 z1_177 z1_178 z1_179 z1_180 z1_181 z1_182 z1_183 z1_184 z1_185 z1_186 z1_187 z1_188 z1_189 z1_190 z1_191 z1_192 z1_193 z1_194 z1_195 z1_196 z1_197 z1_198 z1_199 z1_200 z1_201 z1_202 z1_203 z1_204 z1_205 z1_206 z1_207 z1_208 z1_209 z1_210 z1_211 z1_212 z1_213 z1_214 z1_215 z1_216 z1_217 z1_218 z1_219 z1_220 z1_221 z1_222 z1_223 z1_224 z1_225 z1_226 z1_227 z1_228 z1_229 z1_230 z1_231 z1_232 z1_233 z1_234 z1_235 z1_236 z1_237 z1_238 z1_239 z1_240 z1_241 z1_242 z1_243 z1_244 z1_245 z1_246 z1_247 z1_248 z1_249 z1_250 z1_251 z1_252 z1_253 z1_254 z1_255 z1_256 z1_257 z1_258 z1_259 z1_260 z1_261 z1_262 z1_263 z1_264 z1_265 z1_266 z1_267 z1_268 z1_269 z1_270 z1_271 z1_272 z1_273 z1_274 z1_275 z1_276 kj15 HJ15 t550 t551 A36 t552 t553 A37 t554 t555 A38 t556 t557 A39 w42 w44 w46 w48 z2_277 z2_278 z2_279 z2_280 z2_281 z2_282 z2_283 z2_284 z2_285 z2_286 z2_287 z2_288 z2_289 z2_290 z2_291 z2_292 z2_293 z2_294 z2_295 z2_296 z2_297 z2_298 z2_299 z2_300 z2_301 z2_302 z2_303 z2_304 z2_305 z2_306 z2_307 z2_308 z2_309 z2_310 z2_311 z2_312 z2_313 z2_314 z2_315 z2_316 z2_317 z2_318 z2_319 z2_320 z2_321 z2_322 z2_323 z2_324 z2_325 z2_326 z2_327 z2_328 z2_329 z2_330 z2_331 z2_332 z2_333 z2_334 z2_335 z2_336 z2_337 z2_338 z2_339 z2_340 z2_341 z2_342 z2_343 z2_344 z2_345 z2_346 z2_347 z2_348 z2_349 z2_350 z2_351 z2_352 z2_353 z2_354 z2_355 z2_356 z2_357 z2_358 z2_359 z2_360 z2_361 z2_362 z2_363 z2_364 z2_365 z2_366 z2_367 z2_368 z2_369 z2_370 z2_371 z2_372 z2_373 z2_374 z2_375 z2_376 z2_377 z2_378 z2_379 z2_380 z2_381 z2_382 z2_383 z2_384 z2_385 z2_386 z2_387 z2_388 z2_389 z2_390 z2_391 z2_392 z2_393 z2_394 z2_395 z2_396 z2_397 z2_398 z2_399 z2_400 z2_401 z2_402 z2_403 z2_404 z2_405 z2_406 z2_407 z2_408 z2_409 z2_410 z2_411 z2_412 z2_413 z2_414 z2_415 z2_416 z2_417 z2_418 z2_419 z2_420 z2_421 z2_422 z2_423 z2_424 z2_425 z2_426 z2_427 z2_428 z2_429 z2_430 z2_431 z2_432 z2_433 z2_434 z2_435 z2_436 z2_437 z2_438 z2_439 z2_440 z2_441 z2_442 z2_443 z2_444 z2_445 z2_446 z2_447 z2_448 z2_449 z2_450 z2_451 z2_452 z2_453 z2_454 z2_455 z2_456 z2_457 z2_458 z2_459 z2_460 z2_461 z2_462 z2_463 z2_464 z2_465 z2_466 z2_467 z2_468 z2_469 z2_470 z2_471 z2_472 z2_473 z2_474 z2_475 z2_476 z2_477 z2_478 z2_479 z2_480 z2_481 z2_482 z2_483 z2_484 z2_485 z2_486 z2_487 z2_488 z2_489 z2_490 z2_491 z2_492 z2_493 z2_494 z2_495 z2_496 z2_497 z2_498 z2_499 z2_500 z2_501 z2_502 z2_503 z2_504 z2_505 z2_506 z2_507 z2_508 z2_509 z2_510 z2_511 z2_512 z2_513 z2_514 z2_515 z2_516 z2_517 z2_518 z2_519 z2_520 z2_521 z2_522 z2_523 z2_524 z2_525 z2_526 z2_527 z2_528 z2_529 z2_530 z2_531 z2_532 z2_533 z2_534 z2_535 z2_536 z2_537 z2_538 z2_539 z2_540 z2_541 z2_542 z2_543 z2_544 z2_545 z2_546 z2_547 z2_548 z2_549 kj39 HJ39 t558 t559 A57 t560 t561 A58 t562 t563 A59 w62 w64 w66 z3_550 z3_551 z3_552 z3_553 z3_554 z3_555 z3_556 z3_557 z3_558 z3_559 z3_560 z3_561 z3_562 z3_563 z3_564 z3_565 z3_566 z3_567 z3_568 z3_569 z3_570 z3_571 z3_572 z3_573 z3_574 z3_575 z3_576 z3_577 z3_578 z3_579 z3_580 z3_581 z3_582 z3_583 z3_584 z3_585 z3_586 z3_587 z3_588 z3_589 z3_590 z3_591 z3_592 z3_593 z3_594 z3_595 z3_596 z3_597 z3_598 z3_599 z3_600 z3_601 z3_602 z3_603 z3_604 z3_605 z3_606 z3_607 z3_608 z3_609 z3_610 z3_611 z3_612 z3_613 z3_614 z3_615 z3_616 z3_617 z3_618 z3_619 z3_620 z3_621 z3_622 z3_623 z3_624 z3_625 z3_626 z3_627 z3_628 z3_629 z3_630 z3_631 z3_632 z3_633 z3_634 z3_635 z3_636 z3_637 z3_638 z3_639 z3_640 z3_641 z3_642 z3_643 z3_644 z3_645 z3_646 z3_647 z3_648 z3_649 z3_650 z3_651 z3_652 z3_653 z3_654 z3_655 z3_656 z3_657 z3_658 z3_659 z3_660 z3_661 z3_662 z3_663 z3_664 z3_665 z3_666 z3_667 z3_668 z3_669 z3_670 z3_671 z3_672 z3_673 z3_674 z3_675 z3_676 z3_677 z3_678 z3_679 z3_680 z3_681 z3_682 z3_683 z3_684 z3_685 z3_686 z3_687 z3_688 z3_689 z3_690 z3_691 z3_692 z3_693 z3_694 z3_695 z3_696 z3_697 z3_698 z3_699 z3_700 z3_701 z3_702 z3_703 z3_704 z3_705 z3_706 z3_707 z3_708 z3_709 z3_710 z3_711 z3_712 z3_713 z3_714 z3_715 z3_716 z3_717 z3_718 z3_719 z3_720 z3_721 z3_722 z3_723 z3_724 z3_725 z3_726 z3_727 z3_728 z3_729 z3_730 z3_731 z3_732 z3_733 z3_734 z3_735 z3_736 z3_737 z3_738 z3_739 z3_740 z3_741 z3_742 z3_743 z3_744 z3_745 z3_746 z3_747 z3_748 z3_749 z3_750 z3_751 z3_752 z3_753 z3_754 z3_755 z3_756 z3_757 z3_758 z3_759 z3_760 z3_761 z3_762 z3_763 z3_764 z3_765 z3_766 z3_767 z3_768 z3_769 z3_770 z3_771 z3_772 z3_773 z3_774 z3_775 z3_776 z3_777 z3_778 z3_779 z3_780 z3_781 z3_782 z3_783 z3_784 z3_785 z3_786 z3_787 z3_788 z3_789 z3_790 z3_791 z3_792 z3_793 z3_794 z3_795 z3_796 z3_797 z3_798 z3_799 z3_800 z3_801 z3_802 z3_803 z3_804 z3_805 z3_806 z3_807 z3_808 z3_809 z3_810 z3_811 z3_812 z3_813 z3_814 z3_815 z3_816 z3_817 z3_818 z3_819 z3_820 z3_821 z3_822 kj59 HJ59 t564 t565 A74 t566 t567 A75 HC76 hcz77_0 hcz77_1 hfz77_0 hfz77_1 w78 hcz79_0 hcz79_1 hfz79_0 hfz79_1 w80 BK539 HB z3_823 z3_824 z3_825 z3_826 wc u41 u42 u43 u44 u45 u46 u47 u48 u49 u50 u51 u52 u53 u54 u55 u56 u57 u58 u59 u60 u61 u62 u63 u64 u65 u66 u67 u68 u69 u70 u71 u72 u73 u74 u75 u76 u77 u78 u79 u80 u81 u82 u83 u84 u85 u86 u87 u88 u89 u90 u91 u92 u93 u94 u95 u96 u97 u98 u99 u100 u101 u102 u103 u104 u105 u106 u107 u108 u109 u110 u111 u112 u113 u114 u115 u116 u117 u118 u119 u120 u121 u122 u123 u124 u125 u126 u127 u128 u129 u130 u131 u132 u133 u134 u135 u136 u137 u138 u139 u140 u141 u142 u143 u144 u145 u146 u147 u148 u149 u150 u151 u152 u153 u154 u155 u156 u157 u158 u159 u160 u161 u162 u163 u164 u165 u166 u167 u168 u169 u170 u171 u172 u173 u174 u175 u176 u177 u178 u179 u180 u181 u182 u183 u184 u185 u186 u187 u188 u189 u190 u191 u192 u193 u194 u195 u196 u197 u198 u199 u200 u201 u202 u203 u204 u205 u206 u207 u208 u209 u210 u211 u212 u213 u214 u215 u216 u217 u218 u219 u220 u221 u222 u223 u224 u225 u226 u227 u228 u229 u230 u231 u232 u233 u234 u235 u236 u237 u238 u239 u240 u241 u242 u243 u244 u245 u246 u247 u248 u249 u250 u251 u252 u253 u254 u255 u256 u257 u258 u259 u260 u261 u262 u263 u264 u265 u266 u267 u268 u269 u270 u271 u272 u273 u274 u275 u276 u277 u278 u279 u280 u281 u282 u283 u284 u285 u286 u287 u288 u289 u290 u291 u292 u293 u294 u295 u296 u297 u298 u299 u300 u301 u302 u303 u304 u305 u306 u307 u308 u309 u310 u311 hcut
 clear HC76
 try clear c1
 try clear c2
 try clear p2
 try clear c3
 try clear c4
 try clear c5
 try clear c6
 try clear p6
 try clear c7
 try clear c7b0
 try clear c7b1
 try clear c8
 try clear c20
 try clear c21
 try clear c22
 try clear c23
 try clear c24
 try clear c25
 try clear c26
 try clear c27
 try clear c28
 try clear c29
 try clear c29b0
 try clear c29b1
 try clear c30
 try clear c30b0
 try clear c30b1
 try clear c31
 try clear c31b0
 try clear c31b1
 try clear c32
 try clear c32b0
 try clear c33
 try clear c33b0
 try clear c34
 try clear c34b0
 try clear c35
 try clear c49
 try clear c49b0
 try clear c49b1
 try clear c50
 try clear c50b0
 try clear c50b1
 try clear c51
 try clear c51b0
 try clear c51b1
 try clear c52
 try clear c52b0
 try clear c52b1
 try clear c53
 try clear c53b0
 try clear c53b1
 try clear c54
 try clear c54b0
 try clear c55
 try clear c55b0
 try clear c56
 try clear p64
 try clear c67
 try clear c67b0
 try clear c67b1
 try clear c68
 try clear c68b0
 try clear c68b1
 try clear c69
 try clear c69b0
 try clear c69b1
 try clear c70
 try clear c70b0
 try clear c70b1
 try clear c71
 try clear c71b0
 try clear c71b1
 try clear c72
 try clear c72b0
 try clear c73
 try clear c81
 try clear c81b0
 try clear c81b1
 try clear c82
 try clear c82b0
 try clear c82b1
 try clear hcz19_0
 try clear hcz19_1
 try clear hcz21_0
 try clear hcz21_1
 try clear hcz23_0
 try clear hcz23_1
 try clear hcz25_0
 try clear hcz25_1
 try clear hcz27_0
 try clear hcz27_1
 try clear hcz41_0
 try clear hcz41_1
 try clear hcz43_0
 try clear hcz43_1
 try clear hcz45_0
 try clear hcz45_1
 try clear hcz47_0
 try clear hcz47_1
 try clear hcz61_0
 try clear hcz61_1
 try clear hcz63_0
 try clear hcz63_1
 try clear hcz65_0
 try clear hcz65_1
 try clear hcz77_0
 try clear hcz77_1
 try clear hcz79_0
 try clear hcz79_1
 try clear hfz19_0
 try clear hfz19_1
 try clear hfz21_0
 try clear hfz21_1
 try clear hfz23_0
 try clear hfz23_1
 try clear hfz25_0
 try clear hfz25_1
 try clear hfz27_0
 try clear hfz27_1
 try clear hfz41_0
 try clear hfz41_1
 try clear hfz43_0
 try clear hfz43_1
 try clear hfz45_0
 try clear hfz45_1
 try clear hfz47_0
 try clear hfz47_1
 try clear hfz61_0
 try clear hfz61_1
 try clear hfz63_0
 try clear hfz63_1
 try clear hfz65_0
 try clear hfz65_1
 try clear hfz77_0
 try clear hfz77_1
 try clear hfz79_0
 try clear hfz79_1
 try clear p2
 try clear p6
 try clear p64
 obtain ⟨kq, x252_75, rfl, HA, HJ75, BK539, HB⟩ := hcut
 cases kq with
 | zero => exact absurd HA.out (by simp [laws_FnPowers.j3])
 | succ kj75 =>
  have H := HA.out
  clear HA
  simp only [laws_FnPowers.j3] at H
  by_cases c83 : x252_75 = true
  ·subst c83
   have H1 : (some false) = some r := by rw [if_pos rfl] at H; exact H
   clear H
   have H := H1
   clear H1
   obtain rfl := Option.some.inj H
   go_wp2
   go_ret
   exact ⟨by first | rfl | (simp [errW_none, errW_some] <;> rfl) | (simp only [← hji6, ← hji8]; first | rfl | (simp [errW_none, errW_some] <;> rfl)) | (simp [*, errW_none, errW_some] <;> rfl), by repeat (first | (with_reducible first | exact HB.out | apply bQA | apply bQN | apply bQ1 | refine bQS ?_ GE539.out) | exact HB.out)⟩
  ·replace c83 := Bool.eq_false_iff.mpr c83
   subst c83
   have H1 : (if t540 = 0 then (some (t567 == 6)) else (if t566 < 0 then (laws_FnPowers.j4 kj75 ji8 t540 t562 t566 true t537 t538) else (laws_FnPowers.j4 kj75 ji8 t540 t562 t566 (decide (t566 ≥ ji8)) t537 t538))) = some r := by rw [if_neg (show ¬ (false = true) by decide)] at H; exact H
   clear H
   have H := H1
   clear H1
   by_cases c84 : t540 = 0
   ·rw [if_pos c84] at H
    have c84b0 : (t540 == 0) = true := beq_iff_eq.mpr c84
    have c84b1 : (t540 != 0) = false := bne_eq_false_iff_eq.mpr c84
    clear c84
    obtain rfl := Option.some.inj H
    go_wp2
    go_ret
    exact ⟨by first | rfl | (simp [errW_none, errW_some] <;> rfl) | (simp only [← hji6, ← hji8]; first | rfl | (simp [errW_none, errW_some] <;> rfl)) | (simp [*, errW_none, errW_some] <;> rfl), by repeat (first | (with_reducible first | exact HB.out | apply bQA | apply bQN | apply bQ1 | refine bQS ?_ GE539.out) | exact HB.out)⟩
   ·rw [if_neg c84] at H
    have c84b0 : (t540 == 0) = false := beq_eq_false_iff_ne.mpr c84
    have c84b1 : (t540 != 0) = true := bne_iff_ne.mpr c84
    have HC85 := Aq.mk H
    clear H
    go_upto_region 31 with (fail)
    go_cut [263] (fun v263 wc => ∃ (kq : Nat) (x263_84 : Bool), v263 = .bool x263_84 ∧ Aq (laws_FnPowers.j4 kq ji8 t540 t562 t566 x263_84 t537 t538 = some r) ∧ Aq (kq ≤ kj75) ∧ Aq (wc.heap[gb539]? = some (.cells #[.int .i64 t537, .int .i64 t538] 39 (0, 0))) ∧ Aq (Below w.heap.size w wc))
    case first =>
     have H := HC85.out
     clear HC85
     by_cases c86 : t566 < 0
     ·rw [if_pos c86] at H
      have c86b0 : decide (t566 < 0) = true := decide_eq_true c86
      clear c86
      (first | rw [c86b0] | (simp only [i64_w, i32_w]; rw [c86b0]) | skip)
      have H' := Aq.mk H
      clear H
      go_wp2
      go_meet
      case rel => exact ⟨_, (true), (by first | rfl | (simp; done) | (simp [*]; done)), H', ⟨by have := HJ15.out; have := HJ39.out; have := HJ59.out; have := HJ75.out; first | omega | exact Nat.le_refl _⟩, ⟨by (with_reducible repeat (first | refine kQN ?_ _ | refine kQD ?_ | refine kQA ?_ _)); exact BK539.out⟩, ⟨by repeat (first | (with_reducible first | exact HB.out | apply bQA | apply bQN | apply bQ1 | refine bQS ?_ GE539.out) | exact HB.out)⟩⟩
     ·rw [if_neg c86] at H
      have c86b0 : decide (t566 < 0) = false := decide_eq_false c86
      clear c86
      (first | rw [c86b0] | (simp only [i64_w, i32_w]; rw [c86b0]) | skip)
      have H' := Aq.mk H
      clear H
      go_wp2
      go_meet
      case rel => exact ⟨_, (decide (t566 ≥ ji8)), (by first | rfl | (simp; done) | (simp only [← hji8] <;> (first | rfl | simp)) | (simp [*]; done)), H', ⟨by have := HJ15.out; have := HJ39.out; have := HJ59.out; have := HJ75.out; first | omega | exact Nat.le_refl _⟩, ⟨by (with_reducible repeat (first | refine kQN ?_ _ | refine kQD ?_ | refine kQA ?_ _)); exact BK539.out⟩, ⟨by repeat (first | (with_reducible first | exact HB.out | apply bQA | apply bQN | apply bQ1 | refine bQS ?_ GE539.out) | exact HB.out)⟩⟩
    case rest =>
     rename_i z4_823 z4_824 z4_825 z4_826 z4_827 z4_828 z4_829 z4_830 z4_831 z4_832 z4_833 z4_834 z4_835 z4_836 z4_837 z4_838 z4_839 z4_840 z4_841 z4_842 z4_843 z4_844 z4_845 z4_846 z4_847 z4_848 z4_849 z4_850 z4_851 z4_852 z4_853 z4_854 z4_855 z4_856 z4_857 z4_858 z4_859 z4_860 z4_861 z4_862 z4_863 z4_864 z4_865 z4_866 z4_867 z4_868 z4_869 z4_870 z4_871 z4_872 z4_873 z4_874 z4_875 z4_876 z4_877 z4_878 z4_879 z4_880 z4_881 z4_882 z4_883 z4_884 z4_885 z4_886 z4_887 z4_888 z4_889 z4_890 z4_891 z4_892 z4_893 z4_894 z4_895 z4_896 z4_897 z4_898 z4_899 z4_900 z4_901 z4_902 z4_903 z4_904 z4_905 z4_906 z4_907 z4_908 z4_909 z4_910 z4_911 z4_912 z4_913 z4_914 z4_915 z4_916 z4_917 z4_918 z4_919 z4_920 z4_921 z4_922 z4_923 z4_924 z4_925 z4_926 z4_927 z4_928 z4_929 z4_930 z4_931 z4_932 z4_933 z4_934 z4_935 z4_936 z4_937 z4_938 z4_939 z4_940 z4_941 z4_942 z4_943 z4_944 z4_945 z4_946 z4_947 z4_948 z4_949 z4_950 z4_951 z4_952 z4_953 z4_954 z4_955 z4_956 z4_957 z4_958 z4_959 z4_960 z4_961 z4_962 z4_963 z4_964 z4_965 z4_966 z4_967 z4_968 z4_969 z4_970 z4_971 z4_972 z4_973 z4_974 z4_975 z4_976 z4_977 z4_978 z4_979 z4_980 z4_981 z4_982 z4_983 z4_984 z4_985 z4_986 z4_987 z4_988 z4_989 z4_990 z4_991 z4_992 z4_993 z4_994 z4_995 z4_996 z4_997 z4_998 z4_999 z4_1000 z4_1001 z4_1002 z4_1003 z4_1004 z4_1005 z4_1006 z4_1007 z4_1008 z4_1009 z4_1010 z4_1011 z4_1012 z4_1013 z4_1014 z4_1015 z4_1016 z4_1017 z4_1018 z4_1019 z4_1020 z4_1021 z4_1022 z4_1023 z4_1024 z4_1025 z4_1026 z4_1027 z4_1028 z4_1029 z4_1030 z4_1031 z4_1032 z4_1033 z4_1034 z4_1035 z4_1036 z4_1037 z4_1038 z4_1039 z4_1040 z4_1041 z4_1042 z4_1043 z4_1044 z4_1045 z4_1046 z4_1047 z4_1048 z4_1049 z4_1050 z4_1051 z4_1052 z4_1053 z4_1054 z4_1055 z4_1056 z4_1057 z4_1058 z4_1059 z4_1060 z4_1061 z4_1062 z4_1063 z4_1064 z4_1065 z4_1066 z4_1067 z4_1068 z4_1069 z4_1070 z4_1071 z4_1072 z4_1073 z4_1074 z4_1075 z4_1076 z4_1077 z4_1078 z4_1079 z4_1080 z4_1081 z4_1082 z4_1083 z4_1084 z4_1085 z4_1086 z4_1087 z4_1088 z4_1089 z4_1090 z4_1091 z4_1092 z4_1093 z4_1094 z4_1095 z4_1096 z4_1097 z4_1098 z4_1099
     revert k A0 c0 l0 A1 c1 l1 r w hu39 HR0 HC0 HR1 HC1 A3 t537 t538 A5 ji6 hji6 ji8 hji8 hji8_ hji8z hji8u hji8v hji8y hji8x t540 A9 t541 A10 t542 A11 t543 A12 t544 t545 A13 t546 t547 A14 t548 t549 A15 z0_0 z0_1 z0_2 w17 gb539 w18 GW539 GE539 w20 w22 z0_3 nd w24 w26 w28 z1_4 z1_5 z1_6 z1_7 z1_8 z1_9 z1_10 z1_11 z1_12 z1_13 z1_14 z1_15 z1_16 z1_17 z1_18 z1_19 z1_20 z1_21 z1_22 z1_23 z1_24 z1_25 z1_26 z1_27 z1_28 z1_29 z1_30 z1_31 z1_32 z1_33 z1_34 z1_35 z1_36 z1_37 z1_38 z1_39 z1_40 z1_41 z1_42 z1_43 z1_44 z1_45 z1_46 z1_47 z1_48 z1_49 z1_50 z1_51 z1_52 z1_53 z1_54 z1_55 z1_56 z1_57 z1_58 z1_59 z1_60 z1_61 z1_62 z1_63 z1_64 z1_65 z1_66 z1_67 z1_68 z1_69 z1_70 z1_71 z1_72 z1_73 z1_74 z1_75 z1_76 z1_77 z1_78 z1_79 z1_80 z1_81 z1_82 z1_83 z1_84 z1_85 z1_86 z1_87 z1_88 z1_89 z1_90 z1_91 z1_92 z1_93 z1_94 z1_95 z1_96 z1_97 z1_98 z1_99 z1_100 z1_101 z1_102 z1_103 z1_104 z1_105 z1_106 z1_107 z1_108 z1_109 z1_110 z1_111 z1_112 z1_113 z1_114 z1_115 z1_116 z1_117 z1_118 z1_119 z1_120 z1_121 z1_122 z1_123 z1_124 z1_125 z1_126 z1_127 z1_128 z1_129 z1_130 z1_131 z1_132 z1_133 z1_134 z1_135 z1_136 z1_137 z1_138 z1_139 z1_140 z1_141 z1_142 z1_143 z1_144 z1_145 z1_146 z1_147 z1_148 z1_149 z1_150 z1_151 z1_152 z1_153 z1_154 z1_155 z1_156 z1_157 z1_158 z1_159 z1_160 z1_161 z1_162 z1_163 z1_164 z1_165 z1_166 z1_167 z1_168 z1_169 z1_170 z1_171 z1_172 z1_173 z1_174 z1_175 z1_176 z1_177 z1_178 z1_179 z1_180 z1_181 z1_182 z1_183 z1_184 z1_185 z1_186 z1_187 z1_188 z1_189 z1_190 z1_191 z1_192 z1_193 z1_194 z1_195 z1_196 z1_197 z1_198 z1_199 z1_200 z1_201 z1_202 z1_203 z1_204 z1_205 z1_206 z1_207 z1_208 z1_209 z1_210 z1_211 z1_212 z1_213 z1_214 z1_215 z1_216 z1_217 z1_218 z1_219 z1_220 z1_221 z1_222 z1_223 z1_224 z1_225 z1_226 z1_227 z1_228 z1_229 z1_230 z1_231 z1_232 z1_233 z1_234 z1_235 z1_236 z1_237 z1_238 z1_239 z1_240 z1_241 z1_242 z1_243 z1_244 z1_245 z1_246 z1_247 z1_248 z1_249 z1_250 z1_251 z1_252 z1_253 z1_254 z1_255 z1_256 z1_257 z1_258 z1_259 z1_260 z1_261 z1_262 z1_263 z1_264 z1_265 z1_266 z1_267 z1_268 z1_269 z1_270 z1_271 z1_272 z1_273 z1_274 z1_275 z1_276 kj15 HJ15 t550 t551 A36 t552 t553 A37 t554 t555 A38 t556 t557 A39 w42 w44 w46 w48 z2_277 z2_278 z2_279 z2_280 z2_281 z2_282 z2_283 z2_284 z2_285 z2_286 z2_287 z2_288 z2_289 z2_290 z2_291 z2_292 z2_293 z2_294 z2_295 z2_296 z2_297 z2_298 z2_299 z2_300 z2_301 z2_302 z2_303 z2_304 z2_305 z2_306 z2_307 z2_308 z2_309 z2_310 z2_311 z2_312 z2_313 z2_314 z2_315 z2_316 z2_317 z2_318 z2_319 z2_320 z2_321 z2_322 z2_323 z2_324 z2_325 z2_326 z2_327 z2_328 z2_329 z2_330 z2_331 z2_332 z2_333 z2_334 z2_335 z2_336 z2_337 z2_338 z2_339 z2_340 z2_341 z2_342 z2_343 z2_344 z2_345 z2_346 z2_347 z2_348 z2_349 z2_350 z2_351 z2_352 z2_353 z2_354 z2_355 z2_356 z2_357 z2_358 z2_359 z2_360 z2_361 z2_362 z2_363 z2_364 z2_365 z2_366 z2_367 z2_368 z2_369 z2_370 z2_371 z2_372 z2_373 z2_374 z2_375 z2_376 z2_377 z2_378 z2_379 z2_380 z2_381 z2_382 z2_383 z2_384 z2_385 z2_386 z2_387 z2_388 z2_389 z2_390 z2_391 z2_392 z2_393 z2_394 z2_395 z2_396 z2_397 z2_398 z2_399 z2_400 z2_401 z2_402 z2_403 z2_404 z2_405 z2_406 z2_407 z2_408 z2_409 z2_410 z2_411 z2_412 z2_413 z2_414 z2_415 z2_416 z2_417 z2_418 z2_419 z2_420 z2_421 z2_422 z2_423 z2_424 z2_425 z2_426 z2_427 z2_428 z2_429 z2_430 z2_431 z2_432 z2_433 z2_434 z2_435 z2_436 z2_437 z2_438 z2_439 z2_440 z2_441 z2_442 z2_443 z2_444 z2_445 z2_446 z2_447 z2_448 z2_449 z2_450 z2_451 z2_452 z2_453 z2_454 z2_455 z2_456 z2_457 z2_458 z2_459 z2_460 z2_461 z2_462 z2_463 z2_464 z2_465 z2_466 z2_467 z2_468 z2_469 z2_470 z2_471 z2_472 z2_473 z2_474 z2_475 z2_476 z2_477 z2_478 z2_479 z2_480 z2_481 z2_482 z2_483 z2_484 z2_485 z2_486 z2_487 z2_488 z2_489 z2_490 z2_491 z2_492 z2_493 z2_494 z2_495 z2_496 z2_497 z2_498 z2_499 z2_500 z2_501 z2_502 z2_503 z2_504 z2_505 z2_506 z2_507 z2_508 z2_509 z2_510 z2_511 z2_512 z2_513 z2_514 z2_515 z2_516 z2_517 z2_518 z2_519 z2_520 z2_521 z2_522 z2_523 z2_524 z2_525 z2_526 z2_527 z2_528 z2_529 z2_530 z2_531 z2_532 z2_533 z2_534 z2_535 z2_536 z2_537 z2_538 z2_539 z2_540 z2_541 z2_542 z2_543 z2_544 z2_545 z2_546 z2_547 z2_548 z2_549 kj39 HJ39 t558 t559 A57 t560 t561 A58 t562 t563 A59 w62 w64 w66 z3_550 z3_551 z3_552 z3_553 z3_554 z3_555 z3_556 z3_557 z3_558 z3_559 z3_560 z3_561 z3_562 z3_563 z3_564 z3_565 z3_566 z3_567 z3_568 z3_569 z3_570 z3_571 z3_572 z3_573 z3_574 z3_575 z3_576 z3_577 z3_578 z3_579 z3_580 z3_581 z3_582 z3_583 z3_584 z3_585 z3_586 z3_587 z3_588 z3_589 z3_590 z3_591 z3_592 z3_593 z3_594 z3_595 z3_596 z3_597 z3_598 z3_599 z3_600 z3_601 z3_602 z3_603 z3_604 z3_605 z3_606 z3_607 z3_608 z3_609 z3_610 z3_611 z3_612 z3_613 z3_614 z3_615 z3_616 z3_617 z3_618 z3_619 z3_620 z3_621 z3_622 z3_623 z3_624 z3_625 z3_626 z3_627 z3_628 z3_629 z3_630 z3_631 z3_632 z3_633 z3_634 z3_635 z3_636 z3_637 z3_638 z3_639 z3_640 z3_641 z3_642 z3_643 z3_644 z3_645 z3_646 z3_647 z3_648 z3_649 z3_650 z3_651 z3_652 z3_653 z3_654 z3_655 z3_656 z3_657 z3_658 z3_659 z3_660 z3_661 z3_662 z3_663 z3_664 z3_665 z3_666 z3_667 z3_668 z3_669 z3_670 z3_671 z3_672 z3_673 z3_674 z3_675 z3_676 z3_677 z3_678 z3_679 z3_680 z3_681 z3_682 z3_683 z3_684 z3_685 z3_686 z3_687 z3_688 z3_689 z3_690 z3_691 z3_692 z3_693 z3_694 z3_695 z3_696 z3_697 z3_698 z3_699 z3_700 z3_701 z3_702 z3_703 z3_704 z3_705 z3_706 z3_707 z3_708 z3_709 z3_710 z3_711 z3_712 z3_713 z3_714 z3_715 z3_716 z3_717 z3_718 z3_719 z3_720 z3_721 z3_722 z3_723 z3_724 z3_725 z3_726 z3_727 z3_728 z3_729 z3_730 z3_731 z3_732 z3_733 z3_734 z3_735 z3_736 z3_737 z3_738 z3_739 z3_740 z3_741 z3_742 z3_743 z3_744 z3_745 z3_746 z3_747 z3_748 z3_749 z3_750 z3_751 z3_752 z3_753 z3_754 z3_755 z3_756 z3_757 z3_758 z3_759 z3_760 z3_761 z3_762 z3_763 z3_764 z3_765 z3_766 z3_767 z3_768 z3_769 z3_770 z3_771 z3_772 z3_773 z3_774 z3_775 z3_776 z3_777 z3_778 z3_779 z3_780 z3_781 z3_782 z3_783 z3_784 z3_785 z3_786 z3_787 z3_788 z3_789 z3_790 z3_791 z3_792 z3_793 z3_794 z3_795 z3_796 z3_797 z3_798 z3_799 z3_800 z3_801 z3_802 z3_803 z3_804 z3_805 z3_806 z3_807 z3_808 z3_809 z3_810 z3_811 z3_812 z3_813 z3_814 z3_815 z3_816 z3_817 z3_818 z3_819 z3_820 z3_821 z3_822 kj59 HJ59 t564 t565 A74 t566 t567 A75 w78 w80 z4_823 z4_824 z4_825 z4_826 z4_827 z4_828 z4_829 z4_830 z4_831 z4_832 z4_833 z4_834 z4_835 z4_836 z4_837 z4_838 z4_839 z4_840 z4_841 z4_842 z4_843 z4_844 z4_845 z4_846 z4_847 z4_848 z4_849 z4_850 z4_851 z4_852 z4_853 z4_854 z4_855 z4_856 z4_857 z4_858 z4_859 z4_860 z4_861 z4_862 z4_863 z4_864 z4_865 z4_866 z4_867 z4_868 z4_869 z4_870 z4_871 z4_872 z4_873 z4_874 z4_875 z4_876 z4_877 z4_878 z4_879 z4_880 z4_881 z4_882 z4_883 z4_884 z4_885 z4_886 z4_887 z4_888 z4_889 z4_890 z4_891 z4_892 z4_893 z4_894 z4_895 z4_896 z4_897 z4_898 z4_899 z4_900 z4_901 z4_902 z4_903 z4_904 z4_905 z4_906 z4_907 z4_908 z4_909 z4_910 z4_911 z4_912 z4_913 z4_914 z4_915 z4_916 z4_917 z4_918 z4_919 z4_920 z4_921 z4_922 z4_923 z4_924 z4_925 z4_926 z4_927 z4_928 z4_929 z4_930 z4_931 z4_932 z4_933 z4_934 z4_935 z4_936 z4_937 z4_938 z4_939 z4_940 z4_941 z4_942 z4_943 z4_944 z4_945 z4_946 z4_947 z4_948 z4_949 z4_950 z4_951 z4_952 z4_953 z4_954 z4_955 z4_956 z4_957 z4_958 z4_959 z4_960 z4_961 z4_962 z4_963 z4_964 z4_965 z4_966 z4_967 z4_968 z4_969 z4_970 z4_971 z4_972 z4_973 z4_974 z4_975 z4_976 z4_977 z4_978 z4_979 z4_980 z4_981 z4_982 z4_983 z4_984 z4_985 z4_986 z4_987 z4_988 z4_989 z4_990 z4_991 z4_992 z4_993 z4_994 z4_995 z4_996 z4_997 z4_998 z4_999 z4_1000 z4_1001 z4_1002 z4_1003 z4_1004 z4_1005 z4_1006 z4_1007 z4_1008 z4_1009 z4_1010 z4_1011 z4_1012 z4_1013 z4_1014 z4_1015 z4_1016 z4_1017 z4_1018 z4_1019 z4_1020 z4_1021 z4_1022 z4_1023 z4_1024 z4_1025 z4_1026 z4_1027 z4_1028 z4_1029 z4_1030 z4_1031 z4_1032 z4_1033 z4_1034 z4_1035 z4_1036 z4_1037 z4_1038 z4_1039 z4_1040 z4_1041 z4_1042 z4_1043 z4_1044 z4_1045 z4_1046 z4_1047 z4_1048 z4_1049 z4_1050 z4_1051 z4_1052 z4_1053 z4_1054 z4_1055 z4_1056 z4_1057 z4_1058 z4_1059 z4_1060 z4_1061 z4_1062 z4_1063 z4_1064 z4_1065 z4_1066 z4_1067 z4_1068 z4_1069 z4_1070 z4_1071 z4_1072 z4_1073 z4_1074 z4_1075 z4_1076 z4_1077 z4_1078 z4_1079 z4_1080 z4_1081 z4_1082 z4_1083 z4_1084 z4_1085 z4_1086 z4_1087 z4_1088 z4_1089 z4_1090 z4_1091 z4_1092 z4_1093 z4_1094 z4_1095 BK539 HB kj75 HJ75 c84 c84b0 c84b1 HC85 z4_1096 z4_1097 z4_1098 z4_1099 wc u41 u42 u43 u44 u45 u46 u47 u48 u49 u50 u51 u52 u53 u54 u55 u56 u57 u58 u59 u60 u61 u62 u63 u64 u65 u66 u67 u68 u69 u70 u71 u72 u73 u74 u75 u76 u77 u78 u79 u80 u81 u82 u83 u84 u85 u86 u87 u88 u89 u90 u91 u92 u93 u94 u95 u96 u97 u98 u99 u100 u101 u102 u103 u104 u105 u106 u107 u108 u109 u110 u111 u112 u113 u114 u115 u116 u117 u118 u119 u120 u121 u122 u123 u124 u125 u126 u127 u128 u129 u130 u131 u132 u133 u134 u135 u136 u137 u138 u139 u140 u141 u142 u143 u144 u145 u146 u147 u148 u149 u150 u151 u152 u153 u154 u155 u156 u157 u158 u159 u160 u161 u162 u163 u164 u165 u166 u167 u168 u169 u170 u171 u172 u173 u174 u175 u176 u177 u178 u179 u180 u181 u182 u183 u184 u185 u186 u187 u188 u189 u190 u191 u192 u193 u194 u195 u196 u197 u198 u199 u200 u201 u202 u203 u204 u205 u206 u207 u208 u209 u210 u211 u212 u213 u214 u215 u216 u217 u218 u219 u220 u221 u222 u223 u224 u225 u226 u227 u228 u229 u230 u231 u232 u233 u234 u235 u236 u237 u238 u239 u240 u241 u242 u243 u244 u245 u246 u247 u248 u249 u250 u251 u252 u253 u254 u255 u256 u257 u258 u259 u260 u261 u262 u263 u264 u265 u266 u267 u268 u269 u270 u271 u272 u273 u274 u275 u276 u277 u278 u279 u280 u281 u282 u283 u284 u285 u286 u287 u288 u289 u290 u291 u292 u293 u294 u295 u296 u297 u298 u299 u300 u301 u302 u303 u304 u305 u306 u307 u308 u309 u310 u311 hcut
     exact hG_.out
end Go.Proofs.Ytljcjoodnkdljaa.P
