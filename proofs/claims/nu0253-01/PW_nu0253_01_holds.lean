import PyProof.Rows.All
import Wide.All
import OpenK.AllK
import Wide.FinOn
import Lean
import PySem.Challenge.RW_nu0253_01
open PySem PySem.W PyProof.Rows
set_option linter.all false
/- How this text is written. It is in short forms, to stay within the limit of its size; one rule (local, below) spells them out on the syntax tree ahead of elaboration, and nothing else.
Inside of a group «mutual section .. end» or «mutual namespace A .. end»: positions are taken off; «def» is a theorem, «abbrev» a noncomputable definition, «nonrec abbrev» a noncomputable abbreviation;
"ab" is the list of the codes [97, 98], s!"ab" the string; #[a, b] is .cons a (.cons b .nil), #v[a, b] is .seq a (.seq b .skip); the names of its table stand for longer ones (C is rfl, and so on).
Group D states True under the names that the library's walk would give to copies of the constants that it lays: so it makes no copies. The last row of the text is the challenge's own. -/
namespace Mine
set_option compiler.extract_closed false
open Lean in
local macro_rules (kind:=Lean.Parser.Command.mutual)
 |s=>
  let i:=s[1][0][1].getId
  if i==`D then pure (mkNullNode (s[1][2][1].getArgs.map fun i=>s[1][1].setArg 1 (s[1][1][1].setArg 1 (s[1][1][1][1].setArg 0 (mkIdent (.mkSimple ("tw"++toString (if i.getId.isAtomic then `Mine.all++i.getId else i.getId).hash)))))))
  else if i==`A||s[1][0].isOfKind `Lean.Parser.Command.section then
   let l:="C- rfl R- some D- List Q- Nat Z- none f'- true g'- Int La- false Lb- Expr Lc- Option Ld- Bool Lf- Str Lg- absurd Lh- if_pos Li- congrArg Lj- if_neg Lk- decide_eq_false Ll- decide_eq_true Lm- of_decide_eq_true".splitOn " "
   let o:=Syntax.node .none
   let r:=s[1].getArgs.map (·.rewriteBottomUp fun x=>
    let k:=x.getKind
    if x.isIdent then match x.getId.getRoot with
     |.str _ n=>mkIdent (x.getId.replacePrefix (.mkSimple n) (.mkSimple ((l.dropWhile (·!=n++"-")).getD 1 n)))
     |_=>x
    else if k==`Lean.Parser.Command.definition then o `Lean.Parser.Command.theorem #[x[0],x[1],o `Lean.Parser.Command.declSig #[x[2][0],x[2][1][0]],x[3]]
    else if x[1].isOfKind `Lean.Parser.Command.abbrev then if x[0][6].getNumArgs==0 then o k #[x[0].setArg 4 s,o `Lean.Parser.Command.definition #[x[1][0],x[1][1],x[1][2],x[1][3],mkNullNode]] else o k #[x[0].setArg 4 s,x[1]]
    else if k==`str then (quote ((x.isStrLit?.getD "").toList.map Char.toNat):Term)
    else if k==`termS!_ then o `str x[1][0].getArgs
    else if k==`«term#[_,]»||k==`Vector.«term#v[_,]» then
     let d n:Term:=⟨o `Lean.Parser.Term.dotIdent #[s,mkIdent n]⟩
     x[1].getSepArgs.foldr (fun a b=>Syntax.mkApp (d (if k==`«term#[_,]» then `cons else `seq)) #[⟨a⟩,⟨b⟩]) (d (if k==`«term#[_,]» then `nil else `skip))
    else x.setInfo .none)
   pure (mkNullNode (if i==`A then r.set! 0 mkNullNode else r.push (o `Lean.Parser.Command.end #[s,mkNullNode])))
  else Macro.throwUnsupported
namespace all
mutual namespace D
theorem x:True:=⟨⟩
universe Mine.hx.heap_1_1 env_1_41 heap_1_47 heap_1_929 o_1_43 o_1_45 o_1_46 o_1_52 o_1_54 o_1_55 o_1_57 o_1_58 o_1_59 o_1_60 o_1_62 o_1_63 o_1_64 o_1_65 o_1_66 o_1_67 o_1_69 o_1_70 o_1_71 o_1_72 o_1_73 o_1_74 o_1_76 o_1_77 o_1_78 o_1_79 o_1_80 o_1_81 o_1_83 o_1_84 o_1_85 o_1_86 o_1_87 o_1_88 o_1_90 o_1_91 o_1_92 o_1_93 o_1_94 o_1_95 o_1_97 o_1_98 o_1_99 o_1_100 o_1_101 o_1_102 o_1_104 o_1_105 o_1_106 o_1_107 o_1_108 o_1_109 o_1_111 o_1_112 o_1_113 o_1_114 o_1_116 o_1_117 o_1_118 o_1_122 o_1_124 o_1_126 o_1_127 o_1_128 o_1_129 o_1_130 o_1_131 o_1_133 o_1_134 o_1_135 o_1_136 o_1_138 o_1_139 o_1_140 o_1_141 o_1_142 o_1_143 o_1_145 o_1_146 o_1_147 o_1_148 o_1_149 o_1_150 o_1_152 o_1_153 o_1_154 o_1_155 o_1_157 o_1_158 o_1_159 o_1_160 o_1_161 o_1_162 o_1_164 o_1_165 o_1_166 o_1_167 o_1_168 o_1_169 o_1_171 o_1_172 o_1_173 o_1_177 o_1_178 o_1_180 o_1_181 o_1_182 o_1_183 o_1_184 o_1_186 o_1_187 o_1_188 o_1_189 o_1_191 o_1_192 o_1_193 o_1_194 o_1_195 o_1_196 o_1_198 o_1_199 o_1_200 o_1_201 o_1_202 o_1_203 o_1_204 o_1_205 o_1_206 o_1_207 o_1_208 o_1_212 o_1_214 o_1_215 o_1_216 o_1_217 o_1_218 o_1_219 o_1_221 o_1_222 o_1_223 o_1_224 o_1_226 o_1_227 o_1_228 o_1_229 o_1_230 o_1_231 o_1_233 o_1_234 o_1_235 o_1_236 o_1_237 o_1_238 o_1_239 o_1_240 o_1_241 o_1_242 o_1_246 o_1_248 o_1_249 o_1_250 o_1_251 o_1_252 o_1_254 o_1_255 o_1_256 o_1_257 o_1_258 o_1_259 o_1_260 o_1_261 o_1_262 o_1_263 o_1_264 o_1_268 o_1_269 o_1_270 o_1_276 o_1_277 o_1_278 o_1_284 o_1_286 o_1_287 o_1_289 o_1_290 o_1_291 o_1_297 o_1_299 o_1_300 o_1_301 o_1_302 o_1_304 o_1_305 o_1_306 o_1_308 o_1_309 o_1_310 o_1_311 o_1_312 o_1_313 o_1_315 o_1_316 o_1_317 o_1_318 o_1_319 o_1_320 o_1_322 o_1_323 o_1_324 o_1_325 o_1_326 o_1_327 o_1_329 o_1_330 o_1_331 o_1_332 o_1_333 o_1_334 o_1_336 o_1_337 o_1_338 o_1_339 o_1_340 o_1_341 o_1_343 o_1_344 o_1_345 o_1_346 o_1_347 o_1_348 o_1_350 o_1_351 o_1_352 o_1_353 o_1_354 o_1_355 o_1_357 o_1_358 o_1_359 o_1_360 o_1_361 o_1_362 o_1_364 o_1_365 o_1_366 o_1_367 o_1_368 o_1_369 o_1_370 o_1_371 o_1_372 o_1_373 o_1_374 o_1_375 o_1_379 o_1_381 o_1_383 o_1_384 o_1_385 o_1_386 o_1_387 o_1_391 o_1_393 o_1_394 o_1_395 o_1_396 o_1_398 o_1_399 o_1_400 o_1_402 o_1_403 o_1_404 o_1_405 o_1_406 o_1_407 o_1_409 o_1_410 o_1_411 o_1_412 o_1_413 o_1_414 o_1_416 o_1_417 o_1_418 o_1_419 o_1_420 o_1_421 o_1_423 o_1_424 o_1_425 o_1_426 o_1_427 o_1_428 o_1_430 o_1_431 o_1_432 o_1_433 o_1_434 o_1_435 o_1_437 o_1_438 o_1_439 o_1_440 o_1_441 o_1_442 o_1_444 o_1_445 o_1_446 o_1_447 o_1_448 o_1_449 o_1_451 o_1_452 o_1_453 o_1_454 o_1_455 o_1_456 o_1_458 o_1_459 o_1_460 o_1_461 o_1_462 o_1_463 o_1_465 o_1_466 o_1_467 o_1_468 o_1_469 o_1_470 o_1_472 o_1_473 o_1_474 o_1_475 o_1_476 o_1_477 o_1_479 o_1_480 o_1_481 o_1_482 o_1_483 o_1_484 o_1_485 o_1_486 o_1_487 o_1_488 o_1_489 o_1_490 o_1_494 o_1_496 o_1_497 o_1_498 o_1_499 o_1_500 o_1_502 o_1_503 o_1_504 o_1_506 o_1_507 o_1_508 o_1_509 o_1_510 o_1_511 o_1_513 o_1_514 o_1_515 o_1_516 o_1_517 o_1_518 o_1_520 o_1_521 o_1_522 o_1_523 o_1_524 o_1_525 o_1_527 o_1_528 o_1_529 o_1_530 o_1_531 o_1_532 o_1_534 o_1_535 o_1_536 o_1_537 o_1_538 o_1_539 o_1_541 o_1_542 o_1_543 o_1_544 o_1_545 o_1_546 o_1_548 o_1_549 o_1_550 o_1_551 o_1_552 o_1_553 o_1_555 o_1_556 o_1_557 o_1_558 o_1_559 o_1_560 o_1_562 o_1_563 o_1_564 o_1_565 o_1_566 o_1_567 o_1_569 o_1_570 o_1_571 o_1_572 o_1_573 o_1_574 o_1_576 o_1_577 o_1_578 o_1_579 o_1_580 o_1_581 o_1_583 o_1_584 o_1_585 o_1_586 o_1_587 o_1_588 o_1_590 o_1_591 o_1_592 o_1_593 o_1_594 o_1_595 o_1_597 o_1_598 o_1_599 o_1_600 o_1_601 o_1_602 o_1_604 o_1_605 o_1_606 o_1_607 o_1_608 o_1_609 o_1_611 o_1_612 o_1_613 o_1_614 o_1_615 o_1_616 o_1_618 o_1_619 o_1_620 o_1_621 o_1_622 o_1_623 o_1_625 o_1_626 o_1_627 o_1_628 o_1_629 o_1_630 o_1_631 o_1_632 o_1_633 o_1_634 o_1_637 o_1_638 o_1_639 o_1_640 o_1_642 o_1_643 o_1_644 o_1_646 o_1_647 o_1_648 o_1_649 o_1_650 o_1_651 o_1_653 o_1_654 o_1_655 o_1_656 o_1_657 o_1_658 o_1_660 o_1_661 o_1_662 o_1_663 o_1_664 o_1_665 o_1_667 o_1_668 o_1_669 o_1_670 o_1_671 o_1_672 o_1_674 o_1_675 o_1_676 o_1_677 o_1_678 o_1_679 o_1_681 o_1_682 o_1_683 o_1_684 o_1_685 o_1_686 o_1_688 o_1_689 o_1_690 o_1_691 o_1_692 o_1_693 o_1_695 o_1_696 o_1_697 o_1_698 o_1_699 o_1_700 o_1_702 o_1_703 o_1_704 o_1_705 o_1_706 o_1_707 o_1_709 o_1_710 o_1_711 o_1_712 o_1_713 o_1_721 o_1_723 o_1_724 o_1_725 o_1_726 o_1_727 o_1_729 o_1_730 o_1_731 o_1_733 o_1_734 o_1_735 o_1_736 o_1_737 o_1_738 o_1_740 o_1_741 o_1_742 o_1_743 o_1_744 o_1_745 o_1_747 o_1_748 o_1_749 o_1_750 o_1_751 o_1_752 o_1_754 o_1_755 o_1_756 o_1_757 o_1_758 o_1_759 o_1_761 o_1_762 o_1_763 o_1_764 o_1_765 o_1_766 o_1_768 o_1_769 o_1_770 o_1_771 o_1_772 o_1_773 o_1_775 o_1_776 o_1_777 o_1_778 o_1_779 o_1_780 o_1_782 o_1_783 o_1_784 o_1_785 o_1_786 o_1_787 o_1_789 o_1_790 o_1_791 o_1_792 o_1_793 o_1_794 o_1_795 o_1_796 o_1_797 o_1_798 o_1_802 o_1_804 o_1_806 o_1_807 o_1_808 o_1_809 o_1_810 o_1_811 o_1_813 o_1_814 o_1_815 o_1_816 o_1_817 o_1_818 o_1_820 o_1_821 o_1_822 o_1_823 o_1_824 o_1_825 o_1_827 o_1_828 o_1_829 o_1_830 o_1_831 o_1_832 o_1_834 o_1_835 o_1_836 o_1_837 o_1_838 o_1_839 o_1_841 o_1_842 o_1_843 o_1_844 o_1_845 o_1_846 o_1_848 o_1_849 o_1_850 o_1_851 o_1_852 o_1_853 o_1_855 o_1_856 o_1_857 o_1_858 o_1_859 o_1_860 o_1_862 o_1_863 o_1_864 o_1_865 o_1_866 o_1_867 o_1_869 o_1_870 o_1_871 o_1_872 o_1_873 o_1_874 o_1_876 o_1_877 o_1_878 o_1_879 o_1_880 o_1_881 o_1_883 o_1_884 o_1_885 o_1_886 o_1_887 o_1_891 o_1_893 o_1_895 o_1_896 o_1_897 o_1_898 o_1_899 o_1_900 o_1_902 o_1_903 o_1_904 o_1_905 o_1_906 o_1_907 o_1_909 o_1_910 o_1_911 o_1_912 o_1_914 o_1_915 o_1_916 o_1_917 o_1_919 o_1_920 o_1_921 o_1_922 o_1_924 o_1_925 o_1_926 sts_1_51 sts_1_121 sts_1_176 sts_1_211 sts_1_245 sts_1_267 sts_1_275 sts_1_283 sts_1_296 sts_1_378 sts_1_390 sts_1_493 sts_1_720 sts_1_801 sts_1_890 tree_1_49 tree_1_119 tree_1_174 tree_1_209 tree_1_243 tree_1_265 tree_1_271 tree_1_279 tree_1_292 tree_1_376 tree_1_388 tree_1_491 tree_1_635 tree_1_714 tree_1_799 tree_1_888 tree_1_927 view_1_39 PySem.Challenge.pw_nu0253_01 PySem.Challenge.rw_nu0253_01
end
end all
section
local macro_rules |`(tactic|o_head $_)=>`(tactic|contradiction)
set_option maxRecDepth 100000 in
set_option maxHeartbeats 8000000 in
theorem hx:True:=(trivial:(fun _:False→PySem.Challenge.rw_nu0253_01.Holds=>True) (by
 intro a
 w_on;refine holds_law a.elim fun _=>?_;k_head))
end
set_option Elab.async false
namespace Internal
open _root_.Option.some renaming inj→z'
open _root_.Nat renaming le_trans→q0,le_refl→j2,le_max_right→j8,add_le_add_right→j_,sub_add_cancel→j',le_max_left→k_,ble→w0,lt_of_lt_of_le→v_,mul_le_mul_left→y',ne_of_lt→Z3,le_of_ble_eq_true→Z5,lt_of_le_of_lt→Z9,mul_le_mul_right→Z',zero_le→Q4,eq_of_beq_eq_true→Q5,add_le_add_left→Q6,le_add_right→Q8,succ_le_succ→J2,min_le_right→K1,le_add_left→K6,zero_add→K',le_of_eq→W1,lt_of_succ_lt_succ→W',lt_irrefl→V0,min_eq_left→V4,le_of_not_lt→V_,not_lt→Y3,le_of_succ_le_succ→Y4,add_comm→Y5,min_le_left→Y7,sub_eq_zero_of_le→Y',lt_succ_self→Ba,lt_of_not_le→Bb,le_of_not_le→Bc,beq→Bh,succ_mul→Br,mul_le_mul→Bs,le_of_lt_succ→Bt,le_of_lt→Bu,min_eq_right→BB,le_succ→BD,le_sub_of_add_le→BE,add_le_add→BR,add_mul→B4,add_assoc→Ca,succ_ne_zero→Ce,add_sub_cancel_left→Cf,sub_le→Ck,max_le→Cm,add_sub_cancel'→CM,zero_mul→CZ,lt_trans→C1,lt_succ_of_le→C2,add_zero→C3,casesOn→Di,not_lt_zero→Du,le_of_add_le_add_right→DJ,min_self→D6,succ→Ed,pow_le_pow_right→Ee,le_sub_one_of_lt→Ef,lt_succ_of_lt→EI,lt_of_sub_pos→EJ
open PySem renaming Value→q4,wpAny_mono→q5,wpAny_bind→q6,Shared→q7,wpAny→q9,wpAny_pure→j4,sizeLine→k7,wpAny_items_cons→w4,Scope→w7,Addr→w_,Heap→y9,sizeLine_eq→y_,mainGlobals→x_,sizeLine→Z1,Around→Z6,wpAny_items_nil→Z7,Stmt→Q9,foldedSetIterable→J4,DictEntry→J7,wpAny_standAt→J_,compareOp→K3,Comprehension→K7,swapsWith→K8,wpAny_Call_NameR→W4,starEach→W9,sizeLine_eq→W_,wpAny_Constant_str→V2,Params→V6,wpAny_assign_Name→V7,eval→V8,callEnvC→Y0,Operator→Y2,wpAny_Constant_int→Y9,codeAny→Y_,letOwnedTupleGo→X6,wpAny_holding→Bj,swappedStores→Bk,bindArgs→Bl,wpAny_truthy_bool→Bx,getMethod_builtin→By,assign→BA,wpAny_isTrue_Compare1→BF,seqIndex?→BG,backTo→BH,wpAny_loadName_local→BM,pairTrees_cons_walk→BU,valueAt→BV,spliced→BW,getItem→BX,bootBuiltins→BY,strPairs→B6,strKind_is→B7,builtinsNs→B9,standAt→Cg,comprehension→Ci,assignInOrder→Cj,wpAny_execs_cons→Cs,wpAny_allTrue_And_cons→CA,wpAny_Name→CB,codeAny_mono→CD,assignEach→CE,Program→CG,wpAny_allTrue_Or_cons→CL,FuncData→CP,wpAny_loadName_cell→CY,swapsWithSole→C6,behindInMarks→C8,wpAny_pyIter_tuple→Db,sysModules→Dd,seqIndex?→Df,wpAny_Assign_Name→Dl,slot_list_getitem→Dm,relabel→Dn,holding→Dp,binaryOp→Dq,CmpOp→Dw,isTrue→DF,arm_assign_Tuple→DH,subscripted→DK,cLine→DL,wpAny_execs_nil→DP,theTreesLotGoes→DQ,wpAny_Expr_any→DY,recursionLimit→DZ,pyNext→D0,compTurn→D1,compEnvC→D2,call_meets→D3,callWith→D4,boolOp→D5,noteFrame→En,getMethod→Eo,World→Ep,Const→Ew,newList→Ey,codeAny_loop→Ez,callerA→EA,OsState→EB,exec_Assign_Name_used→EH,wpAny_noted→EM,wpAny_field→EN,evalEach→EO,compPost→EP,NameKind→ER
open _root_.List renaming length_append→q8,mem_cons_of_mem→q_,mem_cons_self→j0,length_cons→j1,append_assoc→j3,range→j5,cons_append→j6,casesOn→j7,length_map→j9,mem_cons→w3,map_cons→w5,length_nil→y0,mem_singleton→Z0,append_nil→Z8,not_mem_nil→Z_,all_eq_true→Q7,forall_mem_cons→Q_,eq_nil_of_length_eq_zero→J0,drop_drop→J5,drop_eq_nil_of_le→J6,nil_append→J8,mem_map→J9,mem_flatMap→J',exists_cons_of_ne_nil→K5,exists_cons_of_length_pos→K9,mem_of_getElem?→W3,map_inj_left→W5,flatten_cons→W6,mem_append_left→V5,length_drop→V9,length→V',size_toArray→X3,head?→X9,length_take→X_,filter_cons→X',nodup_cons→Bg,replicate→Bm,drop_zero→Bn,mem_map_of_mem→BI,prefix_append→BP,range'_succ→Cb,take_of_length_le→Ch,mem_append_right→Cr,range_eq_range'→Cu,mem_range→Cv,drop_take→Cw,drop_eq_nil_iff→Cy,dropLast_concat→Cz,length_pos_iff→CJ,drop_succ_cons→CK,reverse_cons→CR,map→CS,length_range→CT,prefix_of_prefix_length_le→C4,isEmpty_iff→C9,any_toArray→C_,any_eq_true→C',range'→Dg,mem_append→Dj,all_cons→DO,length_eq_zero_iff→DT,map_nil→DU,map_map→DV,flatten→DW,singleton_append→D7,pairwise_reverse→D8,reverse_reverse→D_,mem_of_mem_take→Ea,map_congr_left→Eg,foldl_toArray'→Eh,filterMap_cons→Ei,Nodup→Et,nodup_append→EE,lookup_cons→EK,of_mem_zip→ES,foldl_cons→ET
open _root_.Bool renaming and_eq_true_iff→w8,not_eq_true'→W8,and_eq_true→V1,true_and→Y8,false_and→Bp,and_false→Bq,or_eq_true_iff→BJ,false_eq_true→BQ,casesOn→CX
open PySem.Builtin.Str renaming strSliceIndices→w9,tooLong→DC
open _root_.Int renaming le_trans→y7,ofNat_le→x9,ofNat_lt→Z4,natCast_nonneg→Q3,ofNat→J3,add_sub_cancel→K_,add_assoc→W2,lt_of_le_of_lt→Y6,toNat_of_nonneg→Be,lt_of_lt_of_le→Bi,add_le_add_left→BK,not_lt→Cn,le_of_lt→Co,lt_trans→C5,max_eq_right→Dh,le_refl→Dk,sub_le_sub_right→Ej,mul_one→Ek,le_of_lt_add_one→El,toNat_natCast→EL,min_eq_right→EU
open PySem.Heap renaming lt_size→Z2,SameBut→BL,size_push→DB
open _root_.Option renaming casesOn→J1,isSome_iff_exists→V3,getD_some→X7,bind_eq_some_iff→Bf,map_some→BC,isNone_iff_eq_none→BN,bind_some→B2,none_or→Cp,none→Cq,isSome_some→CI,getD_none→Es,map_none→EC
open PySem.PyData renaming keyHash→K2
open PySem.W.Fast renaming lEq→K4,lEq_iff→B0
open PySem.Str renaming ofString→Y1
open PySem.Heap.SameBut renaming update→Bv
open PySem.Builtin.Slice renaming sliceApplied→Bw,slicePlaces→CO
open PySem.NameKind renaming free→BO,globalImplicit→Dv,cell→ED
open PySem.F renaming plainAttrs_list→BZ,slot_dict_get→Cd,plainAttrs_dict→Dy,type_dict_get→DN,args_tuple_add_2→EV
open _root_.Nat.succ renaming inj→B3
open _root_.List.cons renaming injEq→B5
open PySem.W renaming findIn→B8,nsIn→CC,instObj→Do,keepIn→DE,emptyDict→DG,of_pureOf→Em
open PyProof.Rows renaming Subscript_→B_,subscriptTail→C7,slot_tuple_getitem→De
open PySem.Value renaming type→Cc,int→Ct,isStrOf→CH,str→DM,isStrOf_shape→D9
open PySem.Builtin.Tuple renaming tupleItemsOf→CN,tupleExact→CQ
open PySem.Code renaming builtin→CU
open PySem.Builtin.Range renaming rangeSize→CV
open PySem.Builtin.List renaming listTooLong→CW
open PySem.StrLaws renaming sliceIdx_none_lo→Dr,sliceIdx_none_hi→Ds,sliced_plain→DS,subAt_eq→Ec
open _root_.Prod.mk renaming injEq→Dt
open PySem.Calls renaming Name_function_global→Dx,spliced_nil→Ex
open _root_.Prod renaming fst→Dz
open _root_.List.Pairwise renaming map→DA
open PySem.Builtin.Int renaming intBits→DD
open PySem.Obj renaming mapSeq→DI
open PySem.Heap.DictOf renaming new→DX
open _root_.ForInStep renaming yield→Eb
open _root_.Int.ofNat renaming inj→Eu
open _root_.Classical renaming em→EF
open _root_.Array renaming any_toList→EG
open PySem.Shared renaming TypeIs→EQ
set_option maxRecDepth 10000
set_option tactic.hygienic false
set_option genCtorIdx false
set_option genInjectivity false
set_option genSizeOf false
mutual namespace A
def nO {α:Type} {x:α} {G:Prop} (e:Z=R x):G:=nomatch e
def nB {G:Prop} (e:La=f'):G:=nomatch e
def qK {α β:Type} {a c:α} {b d:β} (e:R (a,b)=R (c,d)) {G:Prop} (k:a=c→b=d→G):G:=k (Li (λx=>(x.getD (a,b)).1) e)<|Li (λx=>(x.getD (a,b)).2) e
@[elab_as_elim] def rq {α:Type} {motive:α→Prop} {a b:α} (h:a=b) (x:motive b):motive a:=h▸x
@[elab_as_elim] def rp {α:Type} {motive:α→Prop} {a b:α} (h:b=a) (x:motive b):motive a:=h▸x
def IH {a c:Q} (k:Q) (h:c≤a) (e:w0 k c=f'):∃q,a=q+k:=⟨a -k,(j'<|q0 (Z5 e) h).symm⟩
inductive T where
 |v (i:Q)
 |c (n:Q)
 |a (x y:T)
 |m (k:Q) (x:T)
 |x (p q:T)
nonrec abbrev EW:T:=.v 0
nonrec abbrev E1:T:=.v 1
nonrec abbrev E_:T:=.v 2
nonrec abbrev Fu:T:=.v 3
nonrec abbrev Gh:T:=.v 4
nonrec abbrev MD:T:=.v 5
nonrec abbrev PH:T:=.v 6
nonrec abbrev iw:T:=.v 7
nonrec abbrev iz:T:=.v 8
nonrec abbrev n7:T:=.v 9
nonrec abbrev Gs:T:=.c 0
nonrec abbrev Fq:T:=.c 1
nonrec abbrev Gi:T:=.c 2
nonrec abbrev MI:T:=.c 3
nonrec abbrev Of:T:=.c 5
nonrec abbrev Hg:T:=.c 10
nonrec abbrev Gb:T:=.c 200
nonrec abbrev G1:T:=.c 1000
nonrec abbrev Fa:T:=.c 100000
nonrec abbrev F0:T:=.c 250000
nonrec abbrev Fi:T:=.c 1000000
nonrec abbrev HC:T:=.a (.v 1)<|.c 1
nonrec abbrev NE:T:=.a (.v 2)<|.c 1
nonrec abbrev Rt:T:=.a (.v 3)<|.c 1
nonrec abbrev GQ:T:=.a (.v 0)<|.c 1
nonrec abbrev lu:T:=.a (.v 5)<|.c 1
abbrev T.g:D Q→Q→Q:=D.rec (λH=>0) λa H r=>Q.rec a (λi H=>r i)
abbrev T.d (e:D Q):T→Q:=T.rec (T.g e) (λn=>n) (λH H p q=>p+q) (λk H p=>k*p) λH H p q=>max p q
abbrev MZ:D Q→D Q→Q:=D.rec (λH=>0) λa H r p=>D.rec 0 (λc p H=>c*a+r p) p
abbrev OK:D Q→D Q→D Q:=D.rec (λq=>q) λa p r q=>D.rec (a::p) (λb q H=>(a+b)::r q) q
abbrev iA:D Q→D Q→Ld:=D.rec (λH=>f') λa H r q=>D.rec (Bh a 0&&r []) (λb q H=>w0 a b&&r q) q
abbrev TY:Q→D Q:=Q.rec [1] λH r=>0::r
abbrev T.p:T→D (D Q):=T.rec (λi=>[0::TY i]) (λn=>[[n]]) (λH H p q=>p.flatMap λa=>q.map<|OK a) (λk H p=>p.map λl=>l.map (k* ·)) λH H p q=>p++q
abbrev lx (k:D Q→D Q→Ld):D (Q×T×T)→D Q→D Q→Ld:=D.rec k λh H r u w=>h.2.2.p.all λy=>h.2.1.p.any λx=>r (OK u (y.map (h.1* ·))) (OK w (x.map (h.1* ·)))
inductive Rl where
 |l (x y:T)
 |s (x y:T)
 |e (x y:T)
abbrev Rl.P (e:D Q):Rl→Prop:=Rl.rec (λx y=>T.d e x≤T.d e y) (λx y=>T.d e x<T.d e y) λx y=>T.d e x=T.d e y
abbrev Rl.k:Rl→D (T×T):=Rl.rec (λx y=>[(x,y)]) (λx y=>[(.a x Fq,y)]) λx y=>[(x,y),(y,x)]
abbrev Lq (e:D Q) (g:Prop):D Rl→Prop:=D.rec g λh H r=>h.P e→r
abbrev Lw (n:Q):(D Q→Prop)→Prop:=Q.rec (λp=>p []) (λH r p=>∀⦃a:Q⦄,r λl=>p<|a::l) n
abbrev ck (hs:D Rl) (ws:D Q) (g:Rl):Ld:=g.k.all λq=>q.1.p.all λu=>lx (λu w=>q.2.p.any λs=>iA u<|OK s w) (ws.zip<|hs.flatMap Rl.k) u []
def wY (e:D Q):MZ e []=0:=by induction e<;>rfl
def wZ (a c:Q) (e p:D Q):MZ (a::e) (c::p)=c*a+MZ e p:=C
def va (e p q:D Q):MZ e (OK p q)=MZ e p+MZ e q:=by
 induction e generalizing p q with
 |nil=>rfl
 |cons a e ih=>
  induction p with
  |nil=>exact(K' _).symm
  |cons c p=>
   clear tail_ih;induction q with
   |nil=>rfl
   |cons b q=>
    refine(?_:(c+b)*a+MZ e (OK p q)=c*a+MZ e p+(b*a+MZ e q))
    rw[ih,B4];exact Q.add_add_add_comm ..
def yv (k:Q) (e p:D Q):MZ e (p.map (k* ·))=k*MZ e p:=by
 induction e generalizing p with
 |nil=>rfl
 |cons a e ih=>
  induction p with
  |nil=>rfl
  |cons c p=>
   refine(?_:k*c*a+MZ e (p.map (k* ·))=k*(c*a+MZ e p))
   rw[ih,Q.mul_add,Q.mul_assoc]
def tG {e p q:D Q} (h:iA p q=f'):MZ e p≤MZ e q:=by
 induction e generalizing p q with
 |nil=>exact j2 0
 |cons a e ih=>
  induction p with
  |nil=>exact Q4 _
  |cons c p=>
   clear tail_ih;induction q with
   |nil=>
    replace h:=w8.mp (h:(Bh c 0&&iA p [])=f')
    have:=ih h.2
    rw[wY]at this
    refine(?_:c*a+MZ e p≤0)
    (refine rq (Q5 h.1) ?_;rw[CZ,K']);exact this
   |cons b q=>
    replace h:=w8.mp (h:(w0 c b&&iA p q)=f')
    exact BR (Z' a<|Z5 h.1)<|ih h.2
def Qm (e:D Q) (i:Q):MZ e (TY i)=T.g e i:=by
 induction e generalizing i with
 |nil=>rfl
 |cons a e ih=>
  induction i with
  |zero=>refine(?_:1*a+MZ e []=a);rw[wY,Q.one_mul,C3]
  |succ i=>refine(?_:0*a+MZ e (TY i)=T.g e i);rw[CZ,K',ih]
def T.low (e:D Q) (t:T):∀q∈t.p,MZ (1::e) q≤t.d e:=by
 induction t with
 |v i=>intro q h;refine rq (Z0.mp h) ?_;exact W1<|by rw[wZ,Qm,CZ,K'];rfl
 |c n=>intro q h;refine rq (Z0.mp h) ?_;exact W1<|by rw[wZ,wY,Q.mul_one];rfl
 |a x y ix iy=>
  intro q h
  obtain⟨u,hu,h⟩:=J'.mp h
  obtain⟨w,hw,h⟩:=J9.mp h
  (refine rp h ?_;rw[va]);exact BR (ix u hu)<|iy w hw
 |m k x ix=>
  intro q h
  obtain⟨u,hu,h⟩:=J9.mp h
  (refine rp h ?_;rw[yv]);exact y' k<|ix u hu
 |x x y ix iy=>exact λq h=>(Dj.mp h).elim (λh=>q0 (ix q h)<|k_ ..) λh=>q0 (iy q h)<|j8 ..
def T.top (e:D Q) (t:T):∃q∈t.p,t.d e=MZ (1::e) q:=by
 induction t with
 |v i=>exact⟨_,Z0.mpr C,by rw[wZ,Qm,CZ,K'];rfl⟩
 |c n=>exact⟨_,Z0.mpr C,by rw[wZ,wY,Q.mul_one];rfl⟩
 |a x y ix iy=>
  obtain⟨u,hu,eu⟩:=ix
  obtain⟨w,hw,ew⟩:=iy
  exact⟨_,J'.mpr ⟨u,hu,J9.mpr ⟨w,hw,C⟩⟩,by(rewrite [va];refine rp eu ?_;refine rp ew ?_);rfl⟩
 |m k x ix=>
  obtain⟨u,hu,eu⟩:=ix
  exact⟨_,J9.mpr ⟨u,hu,C⟩,by(rewrite [yv];refine rp eu ?_);rfl⟩
 |x x y ix iy=>
  obtain⟨u,hu,eu⟩:=ix
  obtain⟨w,hw,ew⟩:=iy
  by_cases h:T.d e x≤T.d e y
  ·exact⟨w,Cr _ hw,(Q.max_eq_right h).trans ew⟩
  ·exact⟨u,V5 _ hu,(Q.max_eq_left<|Bc h).trans eu⟩
def tH {k:D Q→D Q→Ld} (e:D Q) (hs:D<|Q×T×T):∀{u w:D Q},lx k hs u w=f'→(∀h∈hs,T.d e h.2.1≤T.d e h.2.2)→∃u' w',k u' w'=f'∧MZ (1::e) w'+MZ (1::e) u≤MZ (1::e) u'+MZ (1::e) w:=by
 induction hs with
 |nil=>exact λ{u w} h H=>⟨u,w,h,W1<|Y5 ..⟩
 |cons h hs ih=>
  intro u w c hh
  obtain⟨y,hy,ey⟩:=T.top e h.2.2
  obtain⟨x,hx,c⟩:=C'.mp (Q7.mp (c:(h.2.2.p.all λy=>h.2.1.p.any λx=>lx k hs (OK u (y.map (h.1* ·))) (OK w (x.map (h.1* ·))))=f') y hy)
  obtain⟨u',w',hk,hl⟩:=ih c λq hq=>hh q<|q_ _ hq
  refine⟨u',w',hk,?_⟩
  have Y:=y' h.1<|q0 (T.low e _ x hx)<|hh h<|j0 ..
  rw[ey]at Y
  rw[va,va,yv,yv]at hl
  generalize MZ (1::e) w'=a at*
  generalize MZ (1::e) u'=b at*
  generalize h.1*MZ (1::e) y=f at*
  generalize h.1*MZ (1::e) x=g at*
  exact DJ (b:=f)<|by rw[Ca];exact q0 hl (by rw[Ca];exact Q6 (Q6 Y _) _)
def Rl.of {e:D Q} {h:Rl} (p:h.P e):∀q∈h.k,T.d e q.1≤T.d e q.2:=by
 induction h with
 |l x y=>exact λq hq=>by refine rq (Z0.mp hq) ?_;exact p
 |s x y=>exact λq hq=>by refine rq (Z0.mp hq) ?_;exact p
 |e x y=>exact Q_.mpr ⟨W1 p,λq hq=>by refine rq (Z0.mp hq) ?_;exact W1<|Eq.symm p⟩
def Rl.to {e:D Q} {h:Rl} (p:∀q∈h.k,T.d e q.1≤T.d e q.2):h.P e:=by
 induction h with
 |l x y=>exact p _<|Z0.mpr C
 |s x y=>exact p _<|Z0.mpr C
 |e x y=>exact Q.le_antisymm (p _<|j0 ..)<|p _<|q_ _<|Z0.mpr C
def tI {α β:Type} {ws:D α} {l:D β} {h:α×β} (m:h∈ws.zip l):h.2∈l:=by
 have:(h.1,h.2)∈ws.zip l:=m
 exact(ES this).2
def tJ {e:D Q} {g:Prop} {hs:D Rl} (f:(∀h∈hs,h.P e)→g):Lq e g hs:=by
 induction hs with
 |nil=>exact f λH h=>nomatch h
 |cons h hs ih=>exact λp=>ih λq=>f<|Q_.mpr ⟨p,q⟩
def tK {n:Q}:∀{p:D Q→Prop},(∀e,p e)→Lw n p:=by
 induction n with
 |zero=>exact λh=>h []
 |succ n ih=>exact λh a=>ih λe=>h<|a::e
def lw {n:Q} {hs:D Rl} {g:Rl} (ws:D Q) (c:ck hs ws g=f'):Lw n λe=>Lq e (g.P e) hs:=tK λe=>tJ λhh=>Rl.to λq hq=>by
 obtain⟨u,hu,eu⟩:=T.top e q.1
 obtain⟨u',w',hk,hl⟩:=tH e _ (Q7.mp (Q7.mp c q hq) u hu) λh m=>by
  obtain⟨r,hr,m⟩:=J'.mp<|tI m
  exact Rl.of (hh r hr) _ m
 obtain⟨s,hs,le⟩:=C'.mp hk
 replace le:=tG (e:=1::e) le
 rw[va]at le
 refine rq eu ?_
 rw[wY,C3,Y5]at hl
 exact q0 (DJ<|q0 hl le)<|T.low e _ s hs
nonrec abbrev Lx (n:Q) (hs:D Rl) (g:Rl):Prop:=Lw n λe=>Lq e (g.P e) hs
def omT:f'=f':=C
def FQ {a b:Q} (h:w0 a b=f'):a≤b:=Z5 h
def oS {a b c:Q} (h:a -b=c) (l:b≤a):a=c+b:=(Q.sub_eq_iff_eq_add l).mp h
def oP {a b c:Q} (h:a -b=c) (p:0<c):b≤a:=Bu<|EJ<|h▸p
def oD {x y:Q} {a:g'} (p:x≤y) (h:a+(y:g')≤25):a+(x:g')≤25:=y7 (BK (x9.mpr p) a) h
def oL {b x:Q} (k:Q):2*b+k≤2*max b x+k:=j_ (y' 2<|k_ ..) k
def oR {b x:Q} (k:Q):2*x+k≤2*max b x+k:=j_ (y' 2<|j8 ..) k
def oM {a b c:Q} (h:min b a -min c a=a):min b a=a:=Q.le_antisymm (K1 ..)<|q0 (W1 h.symm)<|Ck ..
def oZ {a x:Q} (hx:x≤a) (e:a -x=a):x=0:=by have h:=j' hx;rw[e]at h;exact Q.add_left_cancel<|h.trans (C3 a).symm
def oN (b c k:Q):min ((b:g')+(c:g')) ((b+k:Q):g')=((b+min c k:Q):g'):=by
 by_cases h:c≤k
 ·refine rq (V4 h) ?_;exact g'.min_eq_left<|x9.mpr<|Q6 h b
 ·replace h:=Bc h
  refine rq (BB h) ?_;exact EU<|x9.mpr<|Q6 h b
def tL:Lx 4 [.l (.a (.a E1<|.a E_ Fu) EW) Fi]<|.l (.a EW E1) Fi:=lw [1] C
def tM:Lx 4 []<|.l (.a EW E1)<|.a (.a E1<|.a E_ Fu) EW:=lw [] C
def tN:Lx 3 []<|.s Gs<|.a EW<|.a HC E_:=lw [] C
def tO:Lx 4 []<|.l (.a (.a EW E1) NE)<|.a (.a E1<|.a NE Fu) EW:=lw [] C
def tP:Lx 3 []<|.s Gs<|.a (.a EW<|.a HC Fq) E_:=lw [] C
def tQ:Lx 4 [.l (.a (.a (.a E1<|.a NE Fq) Fu) EW) Fi]<|.l (.a (.a (.a EW E1) Fq) NE) Fi:=lw [1] C
def tR:Lx 3 [.l (.a (.a E1 E_) EW) Fi]<|.l (.a EW E1) Fi:=lw [1] C
def Zz {a b:g'} (h:a≤b) (n:a≠b):a<b:=g'.lt_iff_le_and_ne.mpr ⟨h,n⟩
def lz:Lx 3 [.l EW E1,.l E1 E_]<|.l EW E_:=lw [1,1] C
def Ga {a c1 c2:Q} (h0:a≤c1) (e:w0 (c1) (c2)=f'):a≤c2:=lz h0<|FQ e
def lA:Lx 4 [.l (.a EW E1) E_,.l E_ Fu]<|.l EW Fu:=lw [1,1] C
def iB {a b c1 c2:Q} (h0:a+b≤c1) (e:w0 (c1) (c2)=f'):a≤c2:=lA h0<|FQ e
def lB:Lx 4 [.l E1<|.a EW E_,.l (.a E_ Fu) E1]<|.l Fu EW:=lw [1,1] C
def Nk {a c1 c2 c3:Q} (h0:c1≤a+c2) (e:w0 (c2+c3) (c1)=f'):c3≤a:=lB h0<|FQ e
def lC:Lx 5 [.l E1<|.a EW E_,.l (.a E_ Fu)<|.a E1 Gh]<|.l Fu<|.a EW Gh:=lw [1,1] C
def Nm {a c1 c2 c3 c4:Q} (h0:c1≤a+c2) (e:w0 (c2+c3) (c1+c4)=f'):c3≤a+c4:=lC h0<|FQ e
def lD:Lx 4 [.l EW E1,.l (.a E1 E_) Fu]<|.l (.a E_ EW) Fu:=lw [1,1] C
def lE {a c1 c2 c3:Q} (h0:a≤c1) (e:w0 (c1+c2) (c3)=f'):c2+a≤c3:=lD h0<|FQ e
def lF:Lx 3 [.s EW E1,.l E1 E_]<|.s EW E_:=lw [1,1] C
def TZ {a c1 c2:Q} (h0:a<c1) (e:w0 (c1) (c2)=f'):a<c2:=lF h0<|FQ e
def lG:Lx 5 [.l (.a EW<|.a E1 E_) Fu,.l Fu<|.a (.a E1 E_) Gh]<|.l EW Gh:=lw [1,1] C
def Pb {a c1 c2 c3 c4:Q} (h0:a+(c1+c2)≤c3) (e:w0 (c3) (c1+c2+c4)=f'):a≤c4:=lG h0<|FQ e
def lH:Lx 4 [.l E_ Fu]<|.l (.a (.m 4 EW) E_)<|.a (.m 4<|.x E1 EW) Fu:=lw [1] C
def PI {a b c1 c2:Q} (e:w0 (c1) (c2)=f'):4*a+c1≤4*max b a+c2:=lH<|FQ e
def aU:Lx 4 [.l EW E_,.l E1 EW,.l E_ Fu]<|.l E1 Fu:=lw [1,1,1] C
def vb {a b c1 c2:Q} (h0:a≤c1) (Y:b≤a) (e:w0 (c1) (c2)=f'):b≤c2:=aU h0 Y<|FQ e
def aV:Lx 4 [.l E_ Fu]<|.l (.a (.m 4 EW) E_)<|.a (.m 4<|.x EW E1) Fu:=lw [1] C
def ym {a b c1 c2:Q} (e:w0 (c1) (c2)=f'):4*a+c1≤4*max a b+c2:=aV<|FQ e
def aW:Lx 5 [.l (.a E_ Fu)<|.a Gh<|.c 4]<|.l (.a (.a (.m 4<|.x EW E1) E_) Fu)<|.a (.m 4<|.a (.x EW E1) Fq) Gh:=lw [1] C
def yn {a b c1 c2 c3:Q} (e:w0 (c1+c2) (c3+4)=f'):4*max a b+c1+c2≤4*(max a b+1)+c3:=aW<|FQ e
def aX:Lx 4 [.l E1 EW,.l E_<|.a E1 Fu]<|.l E_<|.a EW Fu:=lw [1,1] C
def xM {a c1 c2 c3:Q} (h0:c1≤a) (e:w0 (c2) (c1+c3)=f'):c2≤a+c3:=aX h0<|FQ e
def aY:Lx 5 [.l EW E_,.l E1<|.a EW Fu,.l (.a E_ Fu) Gh]<|.l E1 Gh:=lw [1,1,1] C
def iC {a b c1 c2 c3:Q} (h0:a≤c1) (Y:b≤a+c2) (e:w0 (c1+c2) (c3)=f'):b≤c3:=aY h0 Y<|FQ e
def aZ:Lx 4 [.l (.a EW E1) E_,.l E_<|.a E1 Fu]<|.l EW Fu:=lw [1,1] C
def iE {a c1 c2 c3:Q} (h0:a+c1≤c2) (e:w0 (c2) (c1+c3)=f'):a≤c3:=aZ h0<|FQ e
def a_:Lx 5 [.l EW E_,.l E1 Fu,.l (.a E_ Fu) Gh]<|.l (.a E1 EW) Gh:=lw [1,1,1] C
def n8 {a b c1 c2 c3:Q} (h0:a≤c1) (Y:b≤c2) (e:w0 (c1+c2) (c3)=f'):b+a≤c3:=a_ h0 Y<|FQ e
def ba:Lx 4 [.l EW E1,.l (.a E1 E_) Fu]<|.l (.a EW E_) Fu:=lw [1,1] C
def yo {a c1 c2 c3:Q} (h0:a≤c1) (e:w0 (c1+c2) (c3)=f'):a+c2≤c3:=ba h0<|FQ e
def bc:Lx 4 [.l E_ EW,.l E1 Fu,.l Rt E_]<|.s E1 EW:=lw [1,1,1] C
def JP {a b c1 c2:Q} (h0:c1≤a) (Y:b≤c2) (e:w0 (c2+1) (c1)=f'):b<a:=bc h0 Y<|FQ e
def be:Lx 6 [.l (.a EW<|.a E1 E_) Fu,.l (.a Fu Gh)<|.a E_ MD]<|.l (.a (.a EW Gh) E1) MD:=lw [1,1] C
def WY {a b c1 c2 c3 c4:Q} (h0:a+(b+c1)≤c2) (e:w0 (c2+c3) (c1+c4)=f'):a+c3+b≤c4:=be h0<|FQ e
def bf:Lx 3 [.l E1 E_]<|.l (.a E1<|.m 2 EW)<|.a (.m 3 EW) E_:=lw [1] C
def iF {a c1 c2:Q} (e:w0 (c1) (c2)=f'):c1+2*a≤3*a+c2:=bf<|FQ e
def bg:Lx 5 [.l (.a EW<|.a E1 E_) Fu,.l Fu<|.a E_ Gh]<|.l EW Gh:=lw [1,1] C
def Qn {a b c1 c2 c3:Q} (h0:a+(b+c1)≤c2) (e:w0 (c2) (c1+c3)=f'):a≤c3:=bg h0<|FQ e
def bh:Lx 6 [.l EW E_,.l (.a E1<|.a Fu Gh) EW,.l E_<|.a (.a Fu Gh) MD]<|.l E1 MD:=lw [1,1,1] C
def JQ {a b c1 c2 c3 c4:Q} (h0:a≤c1) (Y:b+(c2+c3)≤a) (e:w0 (c1) (c2+c3+c4)=f'):b≤c4:=bh h0 Y<|FQ e
def bj:Lx 4 [.l E1 EW,.l E_ Fu]<|.l (.a E1 E_)<|.a EW Fu:=lw [1,1] C
def JR {a b c1 c2:Q} (h0:b≤a) (e:w0 (c1) (c2)=f'):b+c1≤a+c2:=bj h0<|FQ e
def bk:Lx 4 [.l (.a E1 E_) Fu]<|.l (.a (.a (.m 2 EW) E1) E_)<|.a (.m 3 EW) Fu:=lw [1] C
def tT {a c1 c2 c3:Q} (e:w0 (c1+c2) (c3)=f'):2*a+c1+c2≤3*a+c3:=bk<|FQ e
def bm:Lx 3 [.l E1 E_]<|.l (.a EW E1)<|.a EW E_:=lw [1] C
def WZ {a c1 c2:Q} (e:w0 (c1) (c2)=f'):a+c1≤a+c2:=bm<|FQ e
def bp:Lx 7 [.l (.a (.a EW<|.a E1 E_)<|.a Fu Gh) MD,.l MD<|.a (.a (.a (.a E1 E_) Fu) Gh) PH]<|.l EW PH:=lw [1,1] C
def Va {a c1 c2 c3 c4 c5 c6:Q} (h0:a+(c1+c2)+(c3+c4)≤c5) (e:w0 (c5) (c1+c2+c3+c4+c6)=f'):a≤c6:=bp h0<|FQ e
def bq:Lx 5 [.l (.a EW<|.a E_<|.m 2 E1) Fu,.l Fu<|.a E_ Gh]<|.l EW Gh:=lw [1,1] C
def iG {a b c1 c2 c3:Q} (h0:a+(c1+2*b)≤c2) (e:w0 (c2) (c1+c3)=f'):a≤c3:=bq h0<|FQ e
def bu:Lx 6 [.l (.a (.m 3 GQ) E_)<|.a E1 Fu,.l (.a Fu Gh)<|.a (.a E_ MD) MI]<|.l (.a (.m 3 EW) Gh)<|.a E1 MD:=lw [1,1] C
def lI {a b c1 c2 c3 c4:Q} (h0:3*(a+1)+c1≤b+c2) (e:w0 (c2+c3) (c1+c4+3)=f'):3*a+c3≤b+c4:=bu h0<|FQ e
def bv:Lx 4 [.l (.a E1 E_)<|.a Fu<|.c 4]<|.l (.a (.a (.m 4 EW) E1) E_)<|.a (.m 4 GQ) Fu:=lw [1] C
def iH {a c1 c2 c3:Q} (e:w0 (c1+c2) (c3+4)=f'):4*a+c1+c2≤4*(a+1)+c3:=bv<|FQ e
def bw:Lx 9 [.l (.a (.a (.a EW<|.a E1 E_)<|.a Fu Gh)<|.a MD PH) iw,.l iw<|.a (.a (.a (.a (.a (.a E1 E_) Fu) Gh) MD) PH) iz]<|.l EW iz:=lw [1,1] C
def iI {a c1 c2 c3 c4 c5 c6 c7 c8:Q} (h0:a+(c1+c2)+(c3+c4)+(c5+c6)≤c7) (e:w0 (c7) (c1+c2+c3+c4+c5+c6+c8)=f'):a≤c8:=bw h0<|FQ e
def bz:Lx 3 [.s EW E1,.l E1 NE]<|.l EW E_:=lw [1,1] C
def iJ {a c1 c2:Q} (h0:a<c1) (e:w0 (c1) (c2+1)=f'):a≤c2:=bz h0<|FQ e
def bA:Lx 5 [.l (.a (.m 10 EW) E_)<|.a E1 Fu,.l (.a Fu Gh) E_]<|.l (.a (.m 10 EW) Gh) E1:=lw [1,1] C
def n9 {a b c1 c2 c3:Q} (h0:10*a+c1≤b+c2) (e:w0 (c2+c3) (c1)=f'):10*a+c3≤b:=bA h0<|FQ e
def bB:Lx 5 [.l (.a (.m 3<|.x E1 E_) Fu) EW,.l Gh Fu]<|.l (.a (.m 3 E1) Gh) EW:=lw [1,1] C
def n_ {a b c c1 c2:Q} (h0:3*max b c+c1≤a) (e:w0 (c2) (c1)=f'):3*b+c2≤a:=bB h0<|FQ e
def bC:Lx 5 [.l (.a (.m 3<|.x E1 E_) Fu) EW,.l Gh Fu]<|.l (.a (.m 3 E_) Gh) EW:=lw [1,1] C
def oa {a b c c1 c2:Q} (h0:3*max b c+c1≤a) (e:w0 (c2) (c1)=f'):3*c+c2≤a:=bC h0<|FQ e
def bD:Lx 2 [.l Gs E1]<|.l EW<|.a EW E1:=lw [1] C
def lJ {a c1:Q} (e:w0 (0) (c1)=f'):a≤a+c1:=bD<|FQ e
def bE:Lx 4 [.l (.a (.m 10 E1) E_) EW,.l Fu E_]<|.l (.a (.m 10 E1) Fu) EW:=lw [1,1] C
def lK {a b c1 c2:Q} (h0:10*b+c1≤a) (e:w0 (c2) (c1)=f'):10*b+c2≤a:=bE h0<|FQ e
def bF:Lx 5 [.l (.a (.m 10<|.x E1 E_) Fu) EW,.l Gh Fu]<|.l (.a (.m 10 E1) Gh) EW:=lw [1,1] C
def tU {a b c1 c2 c3:Q} (h0:10*max b c1+c2≤a) (e:w0 (c3) (c2)=f'):10*b+c3≤a:=bF h0<|FQ e
def bG:Lx 7 [.l (.a EW<|.a E_<|.m 3 E1) Fu,.l (.a (.a Fu Gh) MD)<|.a E_ PH]<|.l (.a (.a EW Gh)<|.a MD<|.m 2 E1) PH:=lw [1,1] C
def lL {a b c1 c2 c3 c4 c5:Q} (h0:a+(c1+3*b)≤c2) (e:w0 (c2+c3+c4) (c1+c5)=f'):a+c3+(c4+2*b)≤c5:=bG h0<|FQ e
def bH:Lx 4 [.l EW<|.a E1 E_,.l E_ Fu]<|.l EW<|.a E1 Fu:=lw [1,1] C
def lM {a b c1 c2:Q} (h0:a≤b+c1) (e:w0 (c1) (c2)=f'):a≤b+c2:=bH h0<|FQ e
def bI:Lx 5 [.l EW<|.a (.a E1 E_) Fu,.l (.a E_ Fu) Gh]<|.l EW<|.a E1 Gh:=lw [1,1] C
def lN {a b c1 c2 c3:Q} (h0:a≤b+c1+c2) (e:w0 (c1+c2) (c3)=f'):a≤b+c3:=bI h0<|FQ e
def bJ:Lx 6 [.l (.a (.m 10<|.a (.x E1 E_) Fq) Fu) EW,.l Gh<|.a (.a Fu MD) Hg]<|.l (.a (.m 10 E1) Gh)<|.a EW MD:=lw [1,1] C
def lO {a b c c1 c2 c3:Q} (h0:10*(max b c+1)+c1≤a) (e:w0 (c2) (c1+c3+10)=f'):10*b+c2≤a+c3:=bJ h0<|FQ e
def bK:Lx 6 [.l (.a (.m 10<|.a (.x E1 E_) Fq) Fu) EW,.l Gh<|.a (.a Fu MD) Hg]<|.l (.a (.m 10 E_) Gh)<|.a EW MD:=lw [1,1] C
def lP {a b c c1 c2 c3:Q} (h0:10*(max b c+1)+c1≤a) (e:w0 (c2) (c1+c3+10)=f'):10*c+c2≤a+c3:=bK h0<|FQ e
def bL:Lx 6 [.l (.a (.m 10<|.x E1<|.x E_ Fu) Gh) EW,.l MD Gh]<|.l (.a (.m 10 E1) MD) EW:=lw [1,1] C
def tV {a b c c1 c2 c3:Q} (h0:10*max b (max c c1)+c2≤a) (e:w0 (c3) (c2)=f'):10*b+c3≤a:=bL h0<|FQ e
def bM:Lx 3 [.l E1 EW,.l E_ E1]<|.l E_ EW:=lw [1,1] C
def oe {a c1 c2:Q} (h0:c1≤a) (e:w0 (c2) (c1)=f'):c2≤a:=bM h0<|FQ e
def bN:Lx 5 [.l E1<|.a EW E_,.l (.a (.a E_ Fu) MI)<|.a E1 Gh]<|.l (.a (.m 3 Fq) Fu)<|.a EW Gh:=lw [1,1] C
def tW {a c1 c2 c3 c4:Q} (h0:c1≤a+c2) (e:w0 (c2+c3+3) (c1+c4)=f'):3*1+c3≤a+c4:=bN h0<|FQ e
def bO:Lx 4 [.s EW E1,.l (.a E1 E_) Rt]<|.l (.a E_ EW) Fu:=lw [1,1] C
def og {a c1 c2 c3:Q} (h0:a<c1) (e:w0 (c1+c2) (c3+1)=f'):c2+a≤c3:=bO h0<|FQ e
def bP:Lx 6 [.l (.a (.m 10 EW) E_)<|.a E1 Fu,.l (.a Fu Gh)<|.a E_ MD]<|.l (.a (.m 10 EW) Gh)<|.a E1 MD:=lw [1,1] C
def tX {a b c1 c2 c3 c4:Q} (h0:10*a+c1≤b+c2) (e:w0 (c2+c3) (c1+c4)=f'):10*a+c3≤b+c4:=bP h0<|FQ e
def bQ:Lx 5 [.l (.a EW<|.a E_<|.m 2 E1) Fu,.l Fu<|.a E_ Gh]<|.l (.a EW E1) Gh:=lw [1,1] C
def tY {a b c1 c2 c3:Q} (h0:a+(c1+2*b)≤c2) (e:w0 (c2) (c1+c3)=f'):a+b≤c3:=bQ h0<|FQ e
def bR:Lx 4 [.l (.a EW E1) E_,.l E_ Fu]<|.l (.a EW E1) Fu:=lw [1,1] C
def oh {a b c1 c2:Q} (h0:a+b≤c1) (e:w0 (c1) (c2)=f'):a+b≤c2:=bR h0<|FQ e
def bS:Lx 3 [.l EW<|.m 2<|.a (.c 5520) Gi,.l E1 EW,.l (.c 11044) E_]<|.l E1 E_:=lw [1,1,1] C
def tZ {a b c1:Q} (h0:a≤2*(5520+2)) (Y:b≤a) (e:w0 (11044) (c1)=f'):b≤c1:=bS h0 Y<|FQ e
def bT:Lx 3 [.l E1 EW,.l Gs E_]<|.l E1<|.a (.m 3 EW) E_:=lw [1,1] C
def t5 {a b c1:Q} (h0:b≤a) (e:w0 (0) (c1)=f'):b≤3*a+c1:=bT h0<|FQ e
def bU:Lx 4 [.l E1 EW,.l Fu E_,.l Gs Fq]<|.l (.a E1 Fu)<|.a E_<|.m 1 GQ:=lw [1,1,1] C
def t6 {a b c d:Q} (h0:b≤a) (Y:d≤c) (e:w0 (0) (1)=f'):b+d≤c+1*(a+1):=bU h0 Y<|FQ e
def xN {a:Q}:¬(↑a:g')<0:=Cn.mpr<|Q3 _
def bV:Lx 2 [.s E1 EW]<|.l Fq EW:=lw [1] C
def ZA {a b:Q} (h0:b<a):a=a -1+1:=(j'<|bV h0).symm
def bW:Lx 2 [.s GQ HC]<|.s EW E1:=lw [1] C
def Rd:Lx 2 [.l EW Gi,.e E1 EW]<|.l E1 G1:=lw [1,1,0] C
def Re:Lx 1 [.l EW Gi]<|.l (.a (.a (.m 4 EW) Fq) Fq)<|.c 20:=lw [5] C
def Vb {a b c:Q} (h0:b≤a) (Y:c≤a):max c b+1≤a+1:=J2<|Cm.mpr ⟨Y,h0⟩
def Rx:Lx 4 [.e E1 EW,.l (.a (.a E_ E1) Fu) F0]<|.l EW F0:=lw [0,1,1] C
def Ry:Lx 4 [.l (.a (.a EW E1) E_) F0,.e EW Fu]<|.l Fu F0:=lw [1,0,1] C
def bX:Lx 1 []<|.l Gs EW:=lw [] C
def YH {a:Q}:0≤(↑a:g'):=x9.mpr<|@bX _
def bY:Lx 1 []<|.l Gi<|.a EW Gi:=lw [] C
def bZ:Lx 1 [.l (.c 1000001) EW]<|.l Fq EW:=lw [1] C
def t7 {a:Q} (h0:1000001≤a):a=a -1+1:=(j'<|bZ h0).symm
def iK {a:Q}:0≤(↑a:g')∧(↑a:g')=(↑a:g'):=⟨Q3 _,C⟩
def PJ:Lx 2 []<|.s EW<|.a (.a E1 GQ) Fq:=lw [] C
def PM:Lx 2 []<|.l (.a (.a (.m 4 EW) Gi) Fq)<|.a (.m 4<|.x EW E1) MI:=lw [] C
def Sy:Lx 1 [.l EW Gi]<|.l (.a (.a (.m 4 EW) Gi) Fq)<|.c 20:=lw [5] C
def SA:Lx 1 [.l EW Gi]<|.l (.a (.m 4 EW) Fq)<|.c 20:=lw [5] C
def T0:Lx 3 [.s (.a (.a E1 E_) Fq) EW]<|.s E1 EW:=lw [1] C
def T7:Lx 3 [.s (.a (.a E1 E_) Fq) EW]<|.s (.a HC E_) EW:=lw [1] C
def T8:Lx 2 [.s E1 EW]<|.l HC EW:=lw [1] C
def lQ {a b:Q}:min b a≤a:=K1 ..
def om90 {a:Q}:(↑(a+1):g') -1=(↑a:g'):=K_ (a:g') 1
def lR {a b c:g'} (h0:b≤a) (Y:c<b):c<a:=Bi Y h0
def lT {b c:Q} {a:g'} (h0:a+2*(↑(max b c+1):g')≤25):a+(2*(↑(max b c):g')+2)≤25:=oD (x:=2*max b c+2) (y:=2*(max b c+1)) (j2 _) h0
def b0:Lx 2 []<|.l (.a (.m 2 EW) Fq)<|.a (.m 2<|.x E1 EW) Gi:=lw [] C
def lU {a b:Q}:2*(↑a:g')+1≤2*(↑(max b a):g')+2:=x9.mpr<|@b0 _ _
def lV {a b c:g'} (h0:b≤a) (Y:c≤b) (T':¬c=a):c<a:=Zz (y7 Y h0) T'
def T_:Lx 3 [.l (.a (.m 10<|.a (.x E1 E_) Fq) Of) EW]<|.l (.a (.m 10 E1)<|.c 7) EW:=lw [1] C
def lW {b c:Q} {a:g'} (h0:a+2*(↑(max b c+1):g')≤25):a+2*(↑b:g')+1≤25:=by rw[W2];exact oD (x:=2*b+1) (y:=2*(max b c+1)) (q0 (oL 1)<|BD _) h0
def oi {a b c:Q} (h0:b≤a) (Y:c≤a):max c b≤a:=Cm.mpr ⟨Y,h0⟩
def Ua:Lx 2 [.l EW Gi,.e E1 EW]<|.l E1 Fi:=lw [1,1,0] C
def Pd:Lx 1 []<|.l (.a (.a EW EW) Fq)<|.a (.m 3 EW) Hg:=lw [] C
def t8 {a:Q} (h0:a<2):a=0∨a=1:=by induction a with|zero=>exact .inl C|succ n=>exact .inr<|Li Ed<|Q.eq_zero_of_le_zero<|Bt<|W' h0
def Ub:Lx 1 [.s Gs EW]<|.s Gs EW:=lw [1] C
def YI {a:Q} (h0:0<a):0<(↑a:g'):=Z4.mpr<|Ub h0
def YJ {a b:Q} (h0:¬a<b):b≤a:=V_ h0
def Pe:Lx 1 []<|.l Fq<|.a (.m 3 EW)<|.c 9:=lw [] C
def YK {a b c d e:Q} (h0:b≤a) (Y:a -b=c+(d+e)) (T':a≤1000000):b+c≤1000000:=by rw[oS Y h0]at T';exact tL T'
def YL {a b c d e:Q} (h0:b≤a) (Y:a -b=c+(d+e)):b+c≤a:=by refine rq (oS Y h0) ?_;exact @tM _ _ _ _
def YM {a b c d e:Q} (h0:a -b=c+(d+1+e)):b+c+(d+1)≤a:=by refine rq (oS h0<|oP h0<|@tN _ _ _) ?_;exact @tO _ _ _ _
def Pf:Lx 3 []<|.s EW<|.a (.a EW E1) NE:=lw [] C
def Tc:Lx 2 [.l E1 EW]<|.l E1 EW:=lw [1] C
def Rz:Lx 4 [.s (.a (.a E1<|.m 8 E_) Gb) EW,.l Fu<|.c 100]<|.s (.a (.a E1 Fu) Fq) EW:=lw [1,1] C
def oj {a:Q} (h0:a<2^62):¬(↑a:g')≥2^63:=λh=>Y3.mpr (x9.mp h)<|C1 h0<|by decide
def Td:Lx 2 [.l E1 EW]<|.l (.a Gs E1) EW:=lw [1] C
def YN {a b c:Q} (h0:¬min a b≤min c b):min (min c b) b<min (min a b) b:=by(refine rq (V4<|K1 c b) ?_;refine rq (V4<|K1 a b) ?_);exact Bb h0
def ol {a b c:Q} (h0:¬min a b≤min c b):min c b≤a:=q0 (Bu<|Bb h0)<|Y7 ..
def om {a b c d:Q} (h0:b≤a):min c b -d≤a:=q0 (Ck ..)<|q0 (K1 ..) h0
def Te:Lx 3 [.s HC EW,.s E_ HC]<|.s E_ EW:=lw [1,1] C
def Tf:Lx 5 [.l (.c 1000001) EW,.e E1<|.a E_ Rt,.l E1<|.c 200000,.s Gh Rt]<|.s Gh EW:=lw [1,0,1,1,1] C
def Tg:Lx 3 [.s GQ HC,.s E_ GQ]<|.s E_ E1:=lw [1,1] C
def RA:Lx 2 []<|.l EW<|.a E1 GQ:=lw [] C
def Uc:Lx 1 []<|.l (.a (.m 2 EW) Fq)<|.a (.m 2 EW) Fq:=lw [] C
def on {a:Q}:2*(↑a:g')+1≤2*(↑a:g')+1:=x9.mpr<|@Uc _
def oo {b:Q} {a:g'} (h0:2*(↑b:g')+2≤a):2*(↑b:g')+1≤a:=y7 (BK (by decide) _) h0
def t9 {b:Q} {a:g'} (h0:2*(↑(max b 0):g')+2≤a):2*(↑b:g')+2≤a:=y7 (x9.mpr<|oL 2) h0
def t_ {b c:Q} {a:g'} (h0:2*(↑(max b<|max c 0):g')+2≤a):2*(↑b:g')+2≤a:=y7 (x9.mpr<|oL 2) h0
def Ud:Lx 2 []<|.l (.a (.m 2 EW) Gi)<|.a (.m 2<|.x EW E1) Gi:=lw [] C
def oq {a b:Q}:2*(↑a:g')+2≤2*(↑(max a b):g')+2:=x9.mpr<|@Ud _ _
def ou {a b c:g'} (h0:b≤a) (Y:c≤b):c≤a:=y7 Y h0
def Ti:Lx 3 [.l (.a (.m 10<|.a (.x E1 E_) Fq) Of) EW]<|.l (.a (.m 10 E_)<|.c 7) EW:=lw [1] C
def ox {b c:Q} {a:g'} (h0:a+2*(↑(max b c+1):g')≤25):a+2*(↑c:g')+1≤25:=by rw[W2];exact oD (x:=2*c+1) (y:=2*(max b c+1)) (q0 (oR 1)<|BD _) h0
def oy {a:g'} (h0:13≤a):12<a:=h0
def oz {a:g'} (h0:4≤a):3<a:=h0
def RB:Lx 2 []<|.l (.a (.a (.m 4 EW) Fq) Fq)<|.a (.m 4<|.x E1 EW) Gi:=lw [] C
def RC:Lx 3 []<|.l (.a (.m 4 EW) Fq)<|.a (.m 4<|.x EW<|.x E1 E_) Fq:=lw [] C
def RE:Lx 3 []<|.l (.a (.m 4 EW) Fq)<|.a (.m 4<|.x E1<|.x EW E_) Fq:=lw [] C
def RF:Lx 3 []<|.l (.a (.m 4 EW) Fq)<|.a (.m 4<|.x E1<|.x E_ EW) Fq:=lw [] C
def RG:Lx 3 []<|.l (.a (.a (.m 4<|.x EW<|.x E1 E_) Fq) Fq)<|.a (.m 4<|.a (.x EW<|.x E1 E_) Fq) Fq:=lw [] C
def Tj:Lx 2 [.l EW<|.m 2 E1]<|.l GQ<|.a (.m 2 E1) Fq:=lw [1] C
def Tl:Lx 2 [.l EW<|.m 2<|.a E1 Gi]<|.l GQ<|.a (.m 2<|.a E1 Gi) Fq:=lw [1] C
def RH:Lx 1 []<|.l (.a (.a (.a (.m 2<|.a EW Gi) Fq) EW) Fq)<|.a (.m 3 EW) Hg:=lw [] C
def RI:Lx 1 []<|.l (.a Gs Fq) GQ:=lw [] C
def Ue:Lx 1 [.l (.c 25) EW]<|.l Gi EW:=lw [1] C
def ua {a:Q} (h0:25≤a):a=a -2+2:=(j'<|Ue h0).symm
def RJ:Lx 2 []<|.l EW<|.x EW E1:=lw [] C
def RK:Lx 2 []<|.l EW<|.x E1 EW:=lw [] C
def Tm:Lx 2 [.l Hg GQ,.l E1 Gi]<|.l (.a (.m 3 E1) Fq) EW:=lw [1,3] C
def Uf:Lx 1 [.l EW Gi]<|.l (.a (.m 2 EW) Gi) Hg:=lw [2] C
def YO {a:Q} (h0:a≤2):2*(↑a:g')+2≤10:=x9.mpr<|Uf h0
def Tn:Lx 2 [.s EW MI,.e E1 EW]<|.l E1 Gi:=lw [1,1,0] C
def To:Lx 2 [.l (.a EW<|.m 3 E1) Fa]<|.l (.a EW<|.m 3 E1) Fa:=lw [1] C
def Tp:Lx 3 [.l EW<|.a E1<|.m 3 E_]<|.l EW<|.a E1<|.m 3 E_:=lw [1] C
def Tq:Lx 3 [.l (.a EW<|.a (.c 8)<|.m 3 E1) Fa,.l E_<|.a GQ<|.a (.c 7)<|.m 2 E1]<|.l (.a E_ E1) Fa:=lw [1,1] C
def Tr:Lx 4 [.l EW<|.a HC<|.a (.c 7)<|.m 2 E_,.l Fu<|.a EW E_]<|.l Fu<|.a E1<|.a (.c 8)<|.m 3 E_:=lw [1,1] C
def Ts:Lx 1 [.l EW<|.c 80000]<|.l (.a (.a GQ Fq) Fq)<|.c 90000:=lw [1] C
def oA {a:Q} (h0:¬a=0):(↑a:g') -1=(↑(a -1):g'):=by induction a with|zero=>exact Lg C h0|succ n=>exact K_ (n:g') 1
def Tt:Lx 2 [.l (.c 100) GQ,.l E1 MI]<|.l (.a (.m 5 E1)<|.c 6) GQ:=lw [1,5] C
def oB {a:Q}:(↑a:g').toNat=a:=C
def oC {a b c d e:Q} (h0:1000001≤a) (Y:b -c=d+e) (T':b≤1000000):d<a:=Z9 (q0 (Q8 d e)<|Y▸q0 (Ck b c) T') h0
def YP {a b c d:Q} (h0:a -b=c+d) (Y:a≤1000000) (T':b≤a):b+c≤1000000:=by rw[oS h0 T']at Y;exact tR Y
def Tu:Lx 3 [.l EW Fi,.s (.a E1 E_) EW]<|.l (.a E1 E_) Fi:=lw [1,1] C
def Tv:Lx 2 [.s E1 EW]<|.s E1 GQ:=lw [1] C
def RM:Lx 1 []<|.l Gs EW:=lw [] C
def oE {a b c:Q}:0≤(↑(a+min b (c -1)):g')∧(↑(a+min b (c -1)):g')=(↑(a+min b (c -1)):g'):=⟨Q3 _,C⟩
def RN:Lx 2 []<|.e (.a EW HC)<|.a GQ E1:=lw [] C
def oF {a b c:Q} (h0:b≤a) (Y:c<b):c≠a:=Z3<|v_ Y h0
def oG {a b c d:Q} (h0:a≤b∧b<c) (Y:d<a):d≠b:=Z3<|v_ Y h0.1
def Tw:Lx 3 [.l EW MI,.l E1 EW,.e E_ E1]<|.l E_<|.c 900:=lw [1,1,1,0] C
def Tx:Lx 3 [.s (.a E1<|.m 2 NE) EW]<|.s E1 EW:=lw [1] C
def Ty:Lx 3 [.s (.a E1<|.m 2 NE) EW]<|.s (.a (.a HC<|.m 2 E_) Fq) EW:=lw [1] C
def TA:Lx 3 [.s (.a (.a E1<|.m 8 NE)<|.c 196) EW]<|.s (.a (.a (.a E1 MI)<|.m 8 E_) Gb) EW:=lw [1] C
def b9:Lx 3 [.s (.a (.a E1<|.m 2 E_) Fq) EW]<|.s (.a E1<|.m 2 E_) EW:=lw [1] C
def b_:Lx 3 [.s (.a (.a E1<|.m 8 E_) Gb) EW]<|.s (.a (.a HC<|.m 8 E_)<|.c 196) EW:=lw [1] C
def cb:Lx 3 [.s (.a E1 NE) EW]<|.s (.a HC E_) EW:=lw [1] C
def ce:Lx 4 [.s (.a E1<|.x E_ Fu) EW]<|.s (.a E1 E_) EW:=lw [1] C
def cg:Lx 4 [.s (.a E1<|.x E_ Fu) EW]<|.s (.a E1 Fu) EW:=lw [1] C
def ub {a c:Q} {b:g'} (h0:(b+(↑c:g')).toNat=a) (Y:0≤b+(↑c:g')∧b+(↑c:g')<(↑c:g')) (T':c<2^62):-2^63≤b∧b<2^63∧a<c∧(0≤b∧(↑a:g')=b∨b<0∧(↑a:g')=b+(↑c:g')):=by have e:=Be Y.1;rw[h0]at e;have n:=g'.sub_lt_sub_right Y.2 c;rw[K_,g'.sub_self]at n;have l:=Ej Y.1 c;rw[K_,g'.zero_sub]at l;exact⟨y7 (g'.neg_le_neg<|x9.mpr<|Bu<|C1 T' (by decide:2^62<2^63)) l,C5 n (by decide),Z4.mp<|e▸Y.2,.inr ⟨n,e⟩⟩
def uc {b c:Q} {a:g'} (h0:0≤a∧a<(↑b:g')) (Y:b<2^62) (T':a.toNat=c):-2^63≤a∧a<2^63∧c<b∧(0≤a∧(↑c:g')=a∨a<0∧(↑c:g')=a+(↑b:g')):=by have e:=Be h0.1;rw[T']at e;exact⟨y7 (by decide) h0.1,C5 h0.2<|Z4.mpr<|C1 Y (by decide:2^62<2^63),Z4.mp<|e▸h0.2,.inl ⟨h0.1,e⟩⟩
def zlw {b:Q} {a:g'} (h0:(↑b:g')=a):a.toNat=b:=by refine rp h0 ?_;rfl
def ud {a c:Q} {b:g'} (h0:(↑a:g')=b+(↑c:g')):-(↑c:g')≤b:=by have t:=Ej (Q3 a) c;rw[h0,K_,g'.zero_sub]at t;exact t
def zly {a c:Q} {b:g'} (h0:(↑a:g')=b+(↑c:g')):(b+(↑c:g')).toNat=a:=by refine rp h0 ?_;rfl
def ue {a:Q} (h0:a<2^62):(↑a:g')<2^63:=Z4.mpr<|C1 h0<|by decide
def zl0 {a b:g'} (h0:b<a):min a b=b:=EU<|Co h0
def zl1 {a b:g'} (h0:¬a<b):min b a=b:=g'.min_eq_left<|Cn.mp h0
def uf {a:Q}:(max 0 (↑a:g')).toNat=a:=by refine rq (Dh<|Q3 _) ?_;rfl
def ug {a b c:Q} (h0:a≤b -c) (Y:c≤b):c+a≤b:=by rw[Y5];exact Q.add_le_of_le_sub Y h0
def uh {a b:Q} (h0:a=b+1):a -b=1:=by refine rq h0 ?_;exact Cf ..
def Ug:Lx 4 []<|.e (.a (.a (.a EW E1) E_) Fu)<|.a EW<|.a (.a E1 E_) Fu:=lw [] C
def ui {a b c:Q} (h0:min a b<min c b):¬(↑(min c b):g')<(↑(min a b):g'):=λh=>Q.lt_asymm h0<|Z4.mp h
def YQ {a b c:Q} (h0:min b a -min c a=a):min c a=0:=oZ (K1 ..) (by have h:=h0;rw[oM h0]at h;exact h)
def zl6 {a b c:Q} (h0:min b a -min c a=a):min b a -0=a:=(Q.sub_zero _).trans<|oM h0
def uj {a b:Q} (h0:¬(↑a:g')<(↑b:g')):0=b -a:=(Y'<|V_ λh=>h0 (Z4.mpr h)).symm
def uk {a b c:Q}:((↑(min a b):g')+(↑c:g')*1).toNat=min a b+c:=by rw[Ek];rfl
def ul {a b c:Q}:min b a+(min c a -min b a)≤a:=(Q.le_total (min b a)<|min c a).elim (λh=>by refine rq (CM h) ?_;exact K1 ..) λh=>by refine rq (Y' h) ?_;exact K1 ..
def zma {a b c:Q} (h0:¬min a b≤min c b):min c b -min a b=0:=Y'<|Bu<|Bb h0
def um {a b c:Q} (h0:min b a -min c a=a) (Y:¬a=0):c=0:=(Q.le_total c a).elim (λh=>(V4 h).symm.trans<|YQ h0) λh=>Lg ((BB h).symm.trans<|YQ h0) Y
def uo {a b c:Q} (h0:min b a -min c a=a):a≤b -0:=q0 (W1 (oM h0).symm)<|Y7 ..
def ch:Lx 1 [.l EW G1]<|.l EW<|.a (.c 16777216) Fq:=lw [1] C
def ci:Lx 2 [.l EW<|.c 900,.e E1 EW]<|.l E1<|.c 16777216:=lw [1,1,0] C
def uq {a:Q}:min 60 a≤60:=Y7 ..
def ur {a:Q} (h0:¬(↑63:g')<(↑a:g')):a≤63:=V_ λh=>h0<|Z4.mpr h
def us {a b:Q} (h0:b<a):b≤a -1:=Ef h0
def ut {a b:Q} (h0:b≤a):b -1≤a:=q0 (Ck ..) h0
def uu {a b:Q} (h0:a -b+(1 -(b -a))=1):a≤b:=V_ λh=>by rw[Y'<|Bu h]at h0;exact Lg (B3 h0)<|Q.sub_ne_zero_of_lt h
def uv {a b:Q} (h0:a<b+1):a -b=0:=Y'<|Bt h0
def uw {a b:Q} (h0:b+1+1≤a):b≤a -2:=BE h0
def ux {a b c:Q} (h0:b+1+1≤a) (Y:a<c+1):a -2<c:=Q.sub_lt_left_of_lt_add (q0 (K6 2 b) h0)<|by rw[Y5 2];exact EI Y
def uy {a b c d e:Q} (h0:1000001≤a) (Y:b=c+d) (T':b≤200000):d -e<a:=Z9 (q0 (Ck d e)<|q0 (K6 d c)<|Y▸T')<|v_ (by decide) h0
def uz {a b:g'} (h0:b≤a):¬a<b:=Cn.mpr h0
def cj:Lx 3 [.l E1 EW,.l E_ E1]<|.l E_ EW:=lw [1,1] C
def cm:Lx 2 [.l E1 EW]<|.l E1 GQ:=lw [1] C
def cn:Lx 3 [.e (.a E1 E_) EW]<|.l E1 EW:=lw [1,0] C
def cq:Lx 3 [.l (.c 1000001) EW,.l E1<|.c 400000,.l E_ E1]<|.s E_ EW:=lw [1,1,1] C
def ct:Lx 3 [.l (.a (.a EW E1) NE) F0]<|.l (.a (.a EW HC) E_) F0:=lw [1] C
def cu:Lx 2 [.s HC EW]<|.s E1 EW:=lw [1] C
def cv:Lx 4 [.s EW HC,.l (.a (.a E_ Fu) HC) F0]<|.l (.a (.a NE Fu) EW) F0:=lw [1,1] C
def uA {a b:g'} (h0:a=3) (Y:b=3):b≤a:=by(refine rq h0 ?_;refine rq Y ?_);exact Dk _
def uB {a b:g'} (h0:b=a):b≤a:=g'.le_of_eq h0
def uC {a b:g'} (h0:b<a):b≠a:=g'.ne_of_lt h0
def cw:Lx 7 [.l (.a (.a EW<|.a E1 E_) Rt) F0,.s Gh Rt,.l MD<|.a E1 E_,.l PH EW]<|.l (.a (.a PH lu) Gh) F0:=lw [1,1,1,1] C
def cx:Lx 3 [.l E1 EW,.l EW F0,.l E_ E1]<|.l E_ Fi:=lw [1,1,1] C
def uD {a:Q}:¬(↑a:g')+1=0:=λh=>nomatch (Eu h)
def cA:Lx 5 [.l (.a (.a EW<|.a E1 NE) Rt) F0,.l Gh EW]<|.l (.a (.a Gh NE) Fu) F0:=lw [1,1] C
def cB:Lx 4 [.l (.c 1000001) EW,.e E1<|.a E_ Rt,.l E1<|.c 200000]<|.s Fu EW:=lw [1,0,1,1] C
def cC:Lx 6 [.s EW HC,.l (.a (.a E_<|.a Fu Gh) HC) F0,.l lu E_]<|.l (.a (.a lu Gh) EW) F0:=lw [1,1,1] C
def cD:Lx 3 [.l (.c 1000001) EW,.e EW HC,.l E_<|.c 200000]<|.s E_ E1:=lw [1,1,0,1] C
def cE:Lx 3 [.l (.c 1000001) EW,.l E1 F0,.e E_ E1]<|.s E_ EW:=lw [1,1,1,0] C
def uE {a:g'} (h0:a+1≤25):¬25<a+1:=Cn.mpr h0
def cF:Lx 2 [.l (.c 1000001) EW,.l HC<|.c 500]<|.s E1 EW:=lw [1,1] C
def cG:Lx 1 [.l GQ<|.c 500]<|.l (.a Fq EW) G1:=lw [1] C
def Uh:Lx 1 []<|.s EW<|.a GQ Fq:=lw [] C
def Ui:Lx 2 []<|.s EW<|.a E1 GQ:=lw [] C
def uF {a:g'} (h0:8≤a) (Y:a=7):False:=Lg (Y▸h0)<|by decide
def uG {a:g'} (h0:a<16) (Y:a≠15):a<15:=Zz (El h0) Y
def uH {a b:g'} (h0:a=3) (Y:b=a):b=3:=Y.trans h0
def uI {a b c:g'} (h0:b≤a) (Y:c≤b) (T':¬b=c):c<a:=Bi (Zz Y<|Ne.symm T') h0
def uJ {a b:g'} (h0:0≤a) (Y:b+(a+1)≤25):b+1≤25:=y7 (BK (g'.le_add_of_nonneg_left h0) b) Y
def cH:Lx 3 [.e EW<|.a E1 E_,.l EW<|.c 200000]<|.l E_<|.c 200000:=lw [0,1,1] C
def uK {a b:g'} (h0:a+(b+1)≤25):a+1+b≤25:=by rw[g'.add_right_comm,W2];exact h0
def uL {a b c:g'} (h0:b≤a) (Y:c+a≤25):c+b≤25:=y7 (BK h0 c) Y
def Uj:Lx 2 [.l (.a (.m 10 E1)<|.c 14) EW]<|.l (.c 9) EW:=lw [1] C
def uM {a b:Q} (h0:10*b+14≤a):a=a -9+9:=(j'<|Uj h0).symm
def Uk:Lx 1 []<|.l Gs<|.m 2 EW:=lw [] C
def uN {a:Q}:0≤2*(↑a:g'):=x9.mpr<|@Uk _
def uO {b:Q} {a:g'} (h0:a+2*(↑b:g')+1≤25):a+(2*(↑b:g')+1)≤25:=by rw[←W2];exact h0
def cI:Lx 2 [.l (.a (.m 10 E1)<|.c 7) EW]<|.l (.a (.m 10 E1)<|.c 14)<|.a EW<|.c 7:=lw [1] C
def uP {b:Q} {a:g'} (h0:a+2*(↑b:g')+1≤25):a+2*(↑b:g')≤25:=Co h0
def Ul:Lx 2 [.l (.a (.m 10 E1)<|.c 16) EW]<|.l (.c 9) EW:=lw [1] C
def uQ {a b:Q} (h0:10*b+16≤a):a=a -9+9:=(j'<|Ul h0).symm
def Um:Lx 1 []<|.l Gs<|.a (.m 2 EW) Fq:=lw [] C
def uR {a:Q}:0≤2*(↑a:g')+1:=x9.mpr<|@Um _
def uS {b:Q} {a:g'} (h0:a+(2*(↑b:g')+1)≤25):a+2*(↑b:g')+1≤25:=by rw[W2];exact h0
def uT {b:Q} {a:g'} (h0:2*(↑b:g')+2≤a):2*(↑b:g')+1+1≤a:=by rw[W2];exact h0
def Un:Lx 2 [.l (.a (.m 10 E1)<|.c 17) EW]<|.l Of EW:=lw [1] C
def uU {a b:Q} (h0:10*b+17≤a):a=a -5+5:=(j'<|Un h0).symm
def uV {b c:Q} {a:g'} (h0:2*(↑(max b<|max c 0):g')+2≤a):2*(↑c:g')+2≤a:=y7 (x9.mpr<|q0 (oL 2)<|oR 2) h0
def cJ:Lx 3 [.l (.a (.m 10<|.x E1<|.x E_ Gs)<|.c 17) EW]<|.l (.a (.m 10 E_)<|.c 17) EW:=lw [1] C
def Uo:Lx 3 []<|.s EW<|.a (.a E1<|.a (.a E_ EW) Fq) Fq:=lw [] C
def Up:Lx 3 []<|.s EW<|.a (.a (.a (.a E1<|.a (.a E_ EW) Fq) Fq) Fq) Fq:=lw [] C
def Uq:Lx 2 []<|.l (.a (.m 2 EW) Fq)<|.a (.m 2<|.x EW E1) Gi:=lw [] C
def uW {a b:Q}:2*(↑a:g')+1≤2*(↑(max a b):g')+2:=x9.mpr<|@Uq _ _
def uX {b:Q} {a:g'} (h0:a+2*(↑(b+1):g')≤25):a+(2*(↑b:g')+2)≤25:=oD (x:=2*b+2) (y:=2*(b+1)) (j2 _) h0
def Ur:Lx 1 []<|.l (.a (.m 2 EW) Gi)<|.a (.m 2 EW) Gi:=lw [] C
def uY {a:Q}:2*(↑a:g')+2≤2*(↑a:g')+2:=x9.mpr<|@Ur _
def cK:Lx 2 [.l (.a (.m 10 HC) Of) EW]<|.l (.a (.m 10 E1)<|.c 16)<|.a EW Of:=lw [1] C
def Us:Lx 3 []<|.s EW<|.a (.a E1<|.a (.a E_ GQ) Fq) Fq:=lw [] C
def cL:Lx 2 [.l (.a (.m 10 HC) Of) EW]<|.l (.a (.m 10 E1)<|.c 7) EW:=lw [1] C
def uZ {b:Q} {a:g'} (h0:a+2*(↑(b+1):g')≤25):a+2*(↑b:g')+1≤25:=by rw[W2];exact oD (x:=2*b+1) (y:=2*(b+1)) (BD _) h0
def u4 {a b c:g'} (h0:a=15) (Y:a≤b) (T':c≤16) (h3:¬b=15) (h4:¬b=16):c<b:=Y6 T'<|Zz (Zz (h0▸Y)<|Ne.symm h3)<|Ne.symm h4
def u5 {a b c:g'} (h0:b≤a) (Y:c≤b∨c=16∧b=15):c≤a∨c=16∧a=15:=Y.elim (λh=>.inl<|y7 h h0) λh=>by by_cases e:a=15;exact .inr ⟨h.1,e⟩;exact .inl<|h.1▸Zz (h.2▸h0) (Ne.symm e)
def u6 {a b c:g'} (h0:b=a) (Y:c≤b):c≤a:=h0▸Y
def u7 {a:g'} (h0:12≤a) (Y:¬a=12):12<a:=Zz h0<|Ne.symm Y
def u8 {a:g'} (h0:15≤a) (Y:¬a=15):15<a:=Zz h0<|Ne.symm Y
def u9 {a:g'} (h0:a<15):a≤14:=El h0
def u_ {a b:g'} (h0:15≤a) (Y:a≤b):14<b:=Bi h0 Y
def znk {b c:Q} {a:g'} (h0:a+2*(↑(max b c+1):g')≤25):a+(2*(↑c:g')+1)≤25:=oD (x:=2*c+1) (y:=2*(max b c+1)) (q0 (oR 1)<|BD _) h0
def cM:Lx 3 [.l (.a (.m 10<|.a (.x E1 E_) Fq) Of) EW]<|.l (.a (.m 10 E_)<|.c 14)<|.a (.a EW MI) MI:=lw [1] C
def cN:Lx 4 [.l (.a (.m 10<|.a (.x E1<|.x E_ Fu) Fq) Of) EW]<|.l (.a (.m 10 E1)<|.c 7) EW:=lw [1] C
def znl {b c d:Q} {a:g'} (h0:a+2*(↑(max b (max c d)+1):g')≤25):a+2*(↑b:g')+1≤25:=by rw[W2];exact oD (x:=2*b+1) (y:=2*(max b (max c d)+1)) (q0 (oL 1)<|BD _) h0
def cO:Lx 4 [.l (.a (.m 10<|.a (.x E1<|.x E_ Fu) Fq) Of) EW]<|.l (.a (.m 10 E_)<|.c 7) EW:=lw [1] C
def znm {b c d:Q} {a:g'} (h0:a+2*(↑(max b (max c d)+1):g')≤25):a+2*(↑c:g')+1≤25:=by rw[W2];exact oD (x:=2*c+1) (y:=2*(max b (max c d)+1)) (q0 (q0 (oL 1)<|oR 1)<|BD _) h0
def znn {a b:g'} (h0:4≤a) (Y:a≤b):3<b:=Bi h0 Y
def cP:Lx 4 [.l (.a (.m 10<|.a (.x E1<|.x E_ Fu) Fq) Of) EW]<|.l (.a (.m 10 Fu)<|.c 7) EW:=lw [1] C
def zno {b c d:Q} {a:g'} (h0:a+2*(↑(max b (max c d)+1):g')≤25):a+2*(↑d:g')+1≤25:=by rw[W2];exact oD (x:=2*d+1) (y:=2*(max b (max c d)+1)) (q0 (q0 (oR 1)<|oR 1)<|BD _) h0
def znp {a:g'} (h0:3≤a) (Y:¬3=a):3<a:=Zz h0 Y
def cQ:Lx 2 [.e E1 EW,.l E1 G1]<|.l EW Fa:=lw [0,1,1] C
def cR:Lx 3 [.e E1 EW,.e E1 E_,.l EW Gi]<|.l E_ Fa:=lw [1,0,0,1,1] C
def Ut:Lx 2 [.l HC EW]<|.l Fq EW:=lw [1] C
def znq {a b:Q} (h0:b+1≤a):a=a -1+1:=(j'<|Ut h0).symm
def cS:Lx 2 [.l GQ HC]<|.l EW E1:=lw [1] C
def cT:Lx 4 [.l E1 EW,.l (.a (.a E_ Fu) Fq) E1]<|.l (.a (.a E_ Fu) Fq) EW:=lw [1,1] C
def Uu:Lx 2 []<|.l EW<|.a E1 EW:=lw [] C
def cU:Lx 4 [.l (.a (.a E1 E_) Fq) EW]<|.l (.a (.a E1<|.a E_ Fu) Fq)<|.a EW Fu:=lw [1] C
def cV:Lx 4 [.l (.a (.a E1 E_) Fq) EW,.l Fu E_]<|.l Rt EW:=lw [1,1] C
def znr {a b:Q} (h0:a+1=b+1):a=b:=B3 h0
def cW:Lx 3 [.l (.a (.a E1 E_) Fq) EW]<|.l (.a E1 E_) EW:=lw [1] C
def cX:Lx 5 [.l (.a (.a E1 E_) Fq) EW,.l Fu E_,.l Gh E1]<|.l (.a Gh Fu) EW:=lw [1,1,1] C
def Uv:Lx 2 []<|.l EW<|.a EW HC:=lw [] C
def Uw:Lx 2 [.l (.a EW HC)<|.c 120]<|.l EW<|.c 120:=lw [1] C
def zns {a b:Q} (h0:a+(b+1)≤120):(↑a:g')≤120:=x9.mpr<|Uw h0
def cY:Lx 3 [.l EW<|.a HC E_]<|.l EW<|.a E1 NE:=lw [1] C
def znt {a b c:Q} (h0:a≤10000) (Y:b≤10001) (T':c≤a):c≤1000000∧b≤1000000:=⟨q0 T'<|q0 h0<|by decide,q0 Y<|by decide⟩
def znu {a b:Q} (h0:a≤100) (Y:b≤0+a):¬120<(↑b:g'):=λh=>Y3.mpr (q0 Y<|by rw[K'];exact q0 h0 (by decide))<|Z4.mp h
def cZ:Lx 2 [.l HC EW]<|.l (.a (.a E1 Gs) Fq) EW:=lw [1] C
def Ux:Lx 1 []<|.l GQ<|.a (.m 3 EW) Hg:=lw [] C
def Uy:Lx 1 []<|.l (.a (.a EW<|.a (.m 2 EW) Fq) Fq)<|.a (.m 3 EW) Hg:=lw [] C
def Uz:Lx 3 []<|.l EW<|.x EW<|.x E1 E_:=lw [] C
def UA:Lx 3 []<|.l EW<|.x E1<|.x EW E_:=lw [] C
def UB:Lx 3 []<|.l EW<|.x E1<|.x E_ EW:=lw [] C
def UC:Lx 1 []<|.l (.a (.a EW<|.a EW EW) Fq)<|.a (.m 3 EW) Hg:=lw [] C
def UD:Lx 2 []<|.l (.a EW E1)<|.a E1 EW:=lw [] C
def UE:Lx 1 []<|.l (.a Gs Fq)<|.a (.m 4 EW) Fq:=lw [] C
def UF:Lx 1 []<|.l (.a (.a Fq EW) Fq)<|.a EW Gi:=lw [] C
def UG:Lx 2 []<|.l (.a (.a EW Gi) E1)<|.a E1<|.a EW Gi:=lw [] C
def c0:Lx 3 [.l Fq EW,.l E_ E1]<|.l NE<|.a EW E1:=lw [1,1] C
def c9:Lx 4 [.e HC EW,.l E1 E_,.l E_ Fu,.l Fu Fa]<|.l EW<|.c 200000:=lw [0,1,1,1,1] C
def c_:Lx 1 [.e EW EW,.l EW<|.c 5480]<|.l EW Fa:=lw [1,1,1] C
def UH:Lx 1 [.l EW MI]<|.l (.a (.m 2 EW) Fq)<|.c 7:=lw [2] C
def znv {a:Q} (h0:a≤3):2*(↑a:g')+1≤7:=x9.mpr<|UH h0
def da:Lx 2 [.l (.c 55)<|.a EW Of,.l E1 MI]<|.l (.a (.m 10 E1)<|.c 14)<|.a EW Of:=lw [1,10] C
def db:Lx 1 [.l EW MI]<|.l (.a (.m 4 EW) Fq)<|.c 100:=lw [5] C
def dc:Lx 1 [.l EW<|.m 2<|.c 49]<|.l GQ Gb:=lw [1] C
def de:Lx 1 [.l EW<|.m 2<|.a (.c 49) Gi]<|.l GQ Gb:=lw [1] C
def UI:Lx 2 []<|.l (.a Fq<|.a EW E1)<|.a EW HC:=lw [] C
def dg:Lx 1 [.l EW Gi]<|.l (.a (.a Gs EW) Fq) Of:=lw [1] C
def UJ:Lx 1 [.l (.c 18) EW]<|.l Gi EW:=lw [1] C
def znw {a:Q} (h0:18≤a):a=a -2+2:=(j'<|UJ h0).symm
def dh:Lx 1 [.l EW<|.a (.m 2<|.c 5480) Hg]<|.l EW<|.c 11000:=lw [1] C
def znx {a:Q} (h0:a≤1000):a≤2^24:=q0 h0<|by decide
def zny {a:Q}:0<(↑a:g')↔0<a:=g'.natCast_pos
def UK:Lx 1 [.l (.c 25) EW]<|.l Fq EW:=lw [1] C
def znz {a:Q} (h0:25≤a):a=a -1+1:=(j'<|UK h0).symm
def di:Lx 4 [.l EW Hg,.l E1<|.c 100,.l E_ Of,.l Fu<|.c 11000]<|.l (.a E_<|.a (.a Fu<|.a E1 EW) Fq)<|.c 30000:=lw [1,1,1,1] C
def dk:Lx 2 [.l EW<|.c 11000,.l E1<|.c 11200]<|.l (.a E1 GQ)<|.c 29994:=lw [1,1] C
def dl:Lx 2 [.l (.c 27)<|.a EW Gi,.l E1 Gi]<|.l (.a (.m 5 E1)<|.c 6) EW:=lw [1,5] C
def dq:Lx 2 [.l (.c 27)<|.a EW Gi,.l E1 Gi]<|.l (.a (.m 5 E1)<|.c 6) GQ:=lw [1,5] C
def du:Lx 5 [.l EW<|.c 5480,.l E1<|.c 5480,.l E_ Of,.l Fu<|.c 11200,.l Gh<|.a EW Gi]<|.l (.a Fu<|.a (.a (.a E_<|.a Gh<|.a (.a (.a (.a E1 Gi) Fq) Fq) Fq) Fq) Fq)<|.c 29995:=lw [1,1,1,1,1] C
def dw:Lx 2 [.e E1 EW,.l E1 Gi]<|.l EW Fi:=lw [0,1,1] C
def zn0 {a b c:Q} (h0:a≤b*30001) (Y:c≤30001):c+a≤b*30001+30001:=by rw[Y5];exact BR h0 Y
def zn1 {a b:Q} (h0:a≤2) (Y:b≤a*30001):b≤70000:=q0 Y<|q0 (Z' _ h0)<|by decide
def dx:Lx 4 [.l E1 EW,.l Fu E_]<|.l (.a (.a (.a E1 Fu) Fq) Fq)<|.a E_<|.m 1<|.a EW Gi:=lw [1,1] C
def dy:Lx 4 [.l E1 EW,.l Fu E_]<|.l (.a (.a E1 Fu) Fq)<|.a E_<|.m 1 GQ:=lw [1,1] C
def dz:Lx 3 [.l EW<|.m 2<|.a E1 MI,.l E_ EW]<|.l (.a (.a (.a (.a Gs Fq)<|.a (.a Gs Fq) Gs) E_)<|.a (.a Gs Fq)<|.a (.a Gs Fq) Gs)<|.a (.m 2 E1) Hg:=lw [1,1] C
def dA:Lx 5 [.l E1 EW,.l E_<|.c 4,.l Fu<|.a E1 Gi,.l Gh NE]<|.l (.a Gh Fu)<|.a (.m 4 EW) Gb:=lw [1,1,1,1] C
def zn2 {a b c d e f g i j:Q} (h0:b≤a) (Y:c≤b) (T':e≤d) (h3:d≤a) (h4:f≤c+2) (h5:g≤1∧i≤3) (h6:j≤e+2):j+g+i+g+f≤4*a+200:=by lia
def zn3 {a b c d e f g i j k l m:Q} (h0:b≤a) (Y:c≤b) (T':e≤d) (h3:d≤a) (h4:f≤e+2) (h5:g≤5∧i≤4) (h6:j≤c+2) (h7:k≤5∧l≤4) (h8:m≤i+1):f+m+(0+1+(0+1+1+(0+1+0)))+k+j≤4*a+200:=by lia
def dC:Lx 7 [.l E1 EW,.l E_<|.m 2<|.a E1 Gi,.l Gh Fu,.l Fu EW,.l MD E_,.l PH<|.a Gh Gi]<|.l (.a (.a (.a PH<|.a (.a Gs Fq) Gs) MD)<|.a (.a Gs Fq) Gs)<|.a (.m 4 EW) Gb:=lw [2,1,1,1,1,1] C
def dD:Lx 10 [.l E1 EW,.l E_ E1,.l Gh Fu,.l MD EW,.l Fu EW,.l PH MD,.l iw<|.a E_ Gi,.l iz<|.a Gh Gi,.l n7<|.a PH Gi]<|.l (.a (.a (.a (.a n7<|.a (.a Gs Fq)<|.a (.a (.a Gs Fq) Fq)<|.a (.a Gs Fq) Gs) iz)<|.a (.a Gs Fq)<|.a (.a (.a (.a (.a Gs Fq) Fq) Fq) Fq)<|.a (.a Gs Fq) Gs) iw)<|.a (.m 4 EW) Gb:=lw [1,1,1,1,1,1,1,1,1] C
def dE:Lx 7 [.l E1 EW,.l E_<|.m 2<|.a (.a E1<|.c 40) Gi,.l Gh Fu,.l Fu EW,.l MD E_,.l PH<|.c 4]<|.l (.a (.a (.a (.a PH<|.a (.a Gs Fq) Gs) MD)<|.a (.a Gs Fq)<|.a (.a Gs Fq)<|.a (.a Gs Fq) Gs) Gh)<|.a (.m 4 EW) Gb:=lw [2,1,1,1,1,1] C
def dF:Lx 6 [.l E1 EW,.l E_ EW,.l Fu E1,.l Gh E_,.l MD Fq]<|.l (.a (.a (.a (.a (.a (.a (.a Gs Fq) Fq) Fq)<|.a (.a Gs Fq)<|.a MD<|.a (.a Gs Fq)<|.a (.a Gs Fq)<|.a (.a Gs Fq) Gs) Gh)<|.a (.a Gs Fq)<|.a (.a Gs Fq)<|.a (.a Gs Fq) Gs) Fu)<|.a (.m 4 EW) Gb:=lw [1,1,1,1,1] C
def dG:Lx 2 [.l EW<|.a (.m 2 E1) Hg]<|.l EW<|.a (.m 4 E1) Gb:=lw [1] C
def dH:Lx 6 [.l E1 EW,.l E_<|.m 2<|.a (.a E1<|.c 40) Gi,.l Gh Fu,.l Fu EW,.l MD E_]<|.l (.a (.a (.a (.a (.a (.a Gs Fq)<|.a (.a Gs Fq) Gs) MD)<|.a (.a Gs Fq)<|.a (.a Gs Fq)<|.a (.a Gs Fq) Gs) Gh)<|.a (.a Gs Fq)<|.a (.a Gs Fq) Gs)<|.a (.m 4 EW) Gb:=lw [2,1,1,1,1] C
def dI:Lx 6 [.l E1 EW,.l E_ Of,.l Fu<|.c 4,.l Gh<|.a E1 Gi,.l MD Of]<|.l (.a (.a (.a (.a MD Fu)<|.a (.a Gs Fq)<|.a (.a Gs Fq) Gs) E_) Gh)<|.a EW<|.c 40:=lw [1,1,1,1,1] C
def dJ:Lx 2 [.l (.c 8) EW,.l E1 Gi]<|.l (.a (.m 3 E1) Fq) EW:=lw [1,3] C
def dK:Lx 2 [.l (.c 8) GQ,.l E1 Gi]<|.l (.a (.m 3 E1) Fq) EW:=lw [1,3] C
def dL:Lx 2 [.l (.c 40) EW,.l (.x E1 Gs) Gi]<|.l (.a (.m 10 E1)<|.c 17) EW:=lw [1,10] C
def dM:Lx 2 [.l (.c 50)<|.a EW<|.c 4,.l E1 Gi]<|.l (.a (.m 10 E1)<|.c 16)<|.a EW MI:=lw [1,10] C
def dO:Lx 2 [.l (.c 60)<|.a EW<|.c 4,.l E1 Gi]<|.l (.a (.m 10 E1)<|.c 16)<|.a EW MI:=lw [1,10] C
def UL:Lx 1 [.l EW Gi]<|.l (.a (.m 2 EW) Fq) Hg:=lw [2] C
def zn4 {a:Q} (h0:a≤2):2*(↑a:g')+1≤10:=x9.mpr<|UL h0
def dP:Lx 2 [.l (.c 60)<|.a EW<|.c 4,.l E1 Gi]<|.l (.a (.m 10 E1)<|.c 14)<|.a EW MI:=lw [1,10] C
def zn5 {a:Q} {b:g'} (h0:0<a) (Y:b<(↑a:g')):b.toNat<a:=(g'.toNat_lt' h0).mpr Y
def zn6 {a:Q} (h0:0<a):¬(↑a:g')=0:=λh=>Lg (Eu h)<|Q.ne_of_gt h0
def UM:Lx 1 [.s EW Fi]<|.s EW Fi:=lw [1] C
def zn7 {a:Q} (h0:a<1000000):(↑a:g')<1000000:=Z4.mpr<|UM h0
def UN:Lx 2 [.s E1 EW]<|.s E1 EW:=lw [1] C
def zn8 {a b:Q} (h0:b<a):(↑b:g')<(↑a:g'):=Z4.mpr<|UN h0
def zn9 {a b:Q} (h0:¬a<b):¬(↑a:g')<(↑b:g'):=λh=>h0<|Z4.mp h
def zoa {a:Q} (h0:a≤1000000):(↑a:g').natAbs<2^60:=Z9 h0<|by decide
def dQ:Lx 3 [.l (.a EW<|.a E1 E_) Fa]<|.l (.a EW E_) Fa:=lw [1] C
def dR:Lx 4 [.l (.a EW<|.a E1 E_) Fa,.l Fu<|.a EW E_]<|.l (.a Fu E1) Fa:=lw [1,1] C
def dT:Lx 5 [.l EW<|.a E1 E_,.l Fu<|.a EW Gh]<|.l Fu<|.a E1<|.a Gh E_:=lw [1,1] C
def dU:Lx 1 [.l EW MI]<|.s EW Fi:=lw [1] C
def dV:Lx 2 [.l EW MI,.e E1 EW]<|.l E1 Fi:=lw [1,1,0] C
def dW:Lx 3 [.l (.a EW<|.a E1<|.a MI E_) Fa]<|.l EW Fi:=lw [1] C
def dX:Lx 3 [.l (.a EW<|.a E1<|.a MI E_) Fa]<|.l (.a GQ Fq) Fi:=lw [1] C
def dY:Lx 3 [.l (.a EW<|.a E1<|.a MI E_) Fa]<|.l GQ Fi:=lw [1] C
def dZ:Lx 3 [.l (.a EW<|.a E1<|.a MI E_) Fa]<|.l (.a (.a (.a GQ Fq) Fq) E_) Fa:=lw [1] C
def d0:Lx 4 [.l (.a EW<|.a E1<|.a MI E_) Fa,.l Fu<|.a (.a (.a GQ Fq) Fq) E_]<|.l (.a Fu E1) Fa:=lw [1,1] C
def d5:Lx 5 [.l EW<|.a (.a (.a HC Fq) Fq) E_,.l Fu<|.a EW Gh]<|.l Fu<|.a E1<|.a Gh<|.a MI E_:=lw [1,1] C
def d6:Lx 3 [.l EW<|.m 2<|.a MI E1,.l (.a E_<|.a (.c 7)<|.m 2 E1) Fa]<|.l (.a NE EW) Fa:=lw [1,1] C
def d7:Lx 2 [.s EW Gi,.e E1<|.a Fq EW]<|.l E1 Gi:=lw [1,1,0] C
def zob {a:Q} (h0:0=1+a):False:=Lg h0<|by rw[Y5];exact λh=>nomatch h
def d8:Lx 4 [.l EW<|.m 2<|.a MI E1,.l E_<|.a Rt EW]<|.l E_<|.a Fu<|.a (.c 7)<|.m 2 E1:=lw [1,1] C
def d9:Lx 1 [.s EW Gi]<|.s (.a Fq EW) Fi:=lw [1] C
def d_:Lx 3 [.e EW<|.a Fq E1,.s E1 Gi,.e E_ EW]<|.l E_ Fi:=lw [1,0,1,1,0] C
def zoc {a:Q} (h0:¬0<a):¬0<(↑a:g'):=λh=>h0<|Z4.mp h
def eg:Lx 3 [.l HC EW,.l (.a E_ EW) Fa]<|.l (.a NE E1) Fa:=lw [1,1] C
def eh:Lx 4 [.l HC EW,.l E_<|.a Rt E1]<|.l E_<|.a Fu EW:=lw [1,1] C
def eo:Lx 3 [.l EW<|.m 2 E1,.l (.a E_<|.a Fq<|.m 2 E1) Fa]<|.l (.a NE EW) Fa:=lw [1,1] C
def eA:Lx 4 [.l EW<|.m 2 E1,.l E_<|.a Rt EW]<|.l E_<|.a Fu<|.a Fq<|.m 2 E1:=lw [1,1] C
def eD:Lx 4 [.l (.x E1<|.x E_<|.x Fu Gs) EW]<|.l E1 EW:=lw [1] C
def eE:Lx 4 [.l (.x E1<|.x E_<|.x Fu Gs) EW]<|.l E_ EW:=lw [1] C
def eH:Lx 4 [.l (.x E1<|.x E_<|.x Fu Gs) EW]<|.l Fu EW:=lw [1] C
def eI:Lx 2 [.l (.a EW<|.a Fq E1) Fa]<|.l EW Fi:=lw [1] C
def eJ:Lx 2 [.l (.a EW<|.a Fq E1) Fa]<|.l (.a GQ E1) Fa:=lw [1] C
def eN:Lx 3 [.l EW<|.a HC E_]<|.l EW<|.a E1<|.a Fq E_:=lw [1] C
def eQ:Lx 2 [.l (.a EW<|.a Fq<|.m 2 E1) Fa]<|.l (.a GQ E1) Fa:=lw [1] C
def eR:Lx 3 [.l (.a EW<|.a Fq<|.m 2 E1) Fa,.l E_<|.a GQ E1]<|.l (.a E_ E1) Fa:=lw [1,1] C
def eV:Lx 4 [.l EW<|.a HC E_,.l Fu<|.a EW E_]<|.l Fu<|.a E1<|.a Fq<|.m 2 E_:=lw [1,1] C
def eW:Lx 2 [.l (.a EW<|.a Gi<|.m 2 E1) Fa]<|.l GQ Fi:=lw [1] C
def eX:Lx 2 [.l (.a EW<|.a Gi<|.m 2 E1) Fa]<|.l (.a (.a GQ Fq) E1) Fa:=lw [1] C
def eY:Lx 3 [.l (.a EW<|.a Gi<|.m 2 E1) Fa,.l E_<|.a (.a GQ Fq) E1]<|.l (.a E_ E1) Fa:=lw [1,1] C
def eZ:Lx 4 [.l EW<|.a (.a HC Fq) E_,.l Fu<|.a EW E_]<|.l Fu<|.a E1<|.a Gi<|.m 2 E_:=lw [1,1] C
def e7:Lx 3 [.l (.a EW<|.a Fq<|.m 3 E1) Fa,.l E_<|.a EW E1]<|.l (.a E_<|.a Fq<|.m 2 E1) Fa:=lw [1,1] C
def e8:Lx 4 [.l EW<|.a E1 E_,.l Fu<|.a EW<|.a Fq<|.m 2 E_]<|.l Fu<|.a E1<|.a Fq<|.m 3 E_:=lw [1,1] C
def zod {a b c d:Q} (h0:b≤a) (Y:c≤a) (T':d≤a):max c (max d b)+1≤a+1:=J2<|Cm.mpr ⟨Y,Cm.mpr ⟨T',h0⟩⟩
def e_:Lx 3 [.l (.a EW<|.a Fq<|.m 2 E1) Fa,.l E_<|.a EW E1]<|.l E_ Fi:=lw [1,1] C
def fb:Lx 3 [.l (.a EW<|.a Fq<|.m 2 E1) Fa,.l E_<|.a EW E1]<|.l (.a NE E1) Fa:=lw [1,1] C
def fe:Lx 4 [.l EW<|.a E1 E_,.l Fu<|.a GQ E_]<|.l Fu<|.a E1<|.a Fq<|.m 2 E_:=lw [1,1] C
def ff:Lx 3 [.l EW<|.a HC<|.a Fq<|.m 2 E_]<|.l EW<|.a E1<|.a (.c 8)<|.m 3 E_:=lw [1] C
def fg:Lx 3 [.l E1 EW,.l (.a E_ EW) Fa]<|.l (.a E_ E1) Fa:=lw [1,1] C
def fh:Lx 4 [.l E1 EW,.l E_<|.a Fu E1]<|.l E_<|.a Fu EW:=lw [1,1] C
def UO:Lx 1 [.l (.a (.m 3 Gs) MI) EW]<|.l Gi EW:=lw [1] C
def zoe {a:Q} (h0:3*0+3≤a):a=a -2+2:=(j'<|UO h0).symm
def UP:Lx 2 [.l (.a (.m 3 HC) MI) EW]<|.l Of EW:=lw [1] C
def zof {a b:Q} (h0:3*(b+1)+3≤a):a=a -5+5:=(j'<|UP h0).symm
def UQ:Lx 1 []<|.l (.a Fq EW)<|.a (.m 3 EW)<|.c 9:=lw [] C
def UR:Lx 1 []<|.l (.m 3 EW)<|.a (.m 3 EW)<|.c 9:=lw [] C
def US:Lx 2 [.l (.a (.m 3 E1)<|.c 4) EW]<|.l Fq EW:=lw [1] C
def zog {a b:Q} (h0:3*b+4≤a):a=a -1+1:=(j'<|US h0).symm
def UT:Lx 2 [.l (.a (.m 3 E1) Of) EW]<|.l Gi EW:=lw [1] C
def zoh {a b:Q} (h0:3*b+5≤a):a=a -2+2:=(j'<|UT h0).symm
def fi:Lx 2 [.l Hg GQ,.l E1 Gi]<|.l (.a (.m 3 E1)<|.c 4) GQ:=lw [1,3] C
def fj:Lx 2 [.l EW<|.m 2<|.c 58,.l E1<|.c 90000]<|.l (.a HC EW) Fa:=lw [1,1] C
def fo:Lx 3 [.l EW<|.m 2<|.c 58,.l E1<|.a NE EW]<|.l E1<|.a E_ Gb:=lw [1,1] C
def fq:Lx 1 [.l EW<|.c 90000]<|.l (.a GQ<|.a (.c 7)<|.m 2<|.a (.m 3 Gi) Hg) Fa:=lw [1] C
def ft:Lx 2 [.l EW<|.a HC<|.a (.c 7)<|.m 2<|.a (.m 3 Gi) Hg]<|.l EW<|.a E1 Gb:=lw [1] C
def fu:Lx 2 [.l Hg EW,.l E1 Gi]<|.l (.a (.m 3 E1) MI) EW:=lw [1,3] C
def fv:Lx 3 [.l EW<|.c 58,.l E1<|.a E_ EW]<|.l E1<|.a E_ Gb:=lw [1,1] C
def UU:Lx 1 []<|.l (.a (.a GQ Fq) Fq)<|.a EW Hg:=lw [] C
def UV:Lx 1 []<|.l (.a (.a (.a (.a GQ Fq) Fq) Fq) Fq)<|.a EW Hg:=lw [] C
def fy:Lx 2 [.l EW<|.a E1 Hg]<|.l GQ<|.a E1<|.c 20:=lw [1] C
def zoi {a:Q} (h0:a<6):a -1<5:=by induction a with|zero=>decide|succ n=>exact W' h0
def fz:Lx 1 [.l EW<|.c 80000]<|.l (.a GQ Fq) Fi:=lw [1] C
def fA:Lx 2 [.l EW<|.c 80000,.l E1<|.a (.a (.a GQ Fq) Fq) Gb]<|.l E1 Fi:=lw [1,1] C
def fC:Lx 2 [.l EW<|.c 80000,.l E1<|.a (.a (.a GQ Fq) Fq) Gb]<|.l HC<|.c 90000:=lw [1,1] C
def fF:Lx 3 [.l EW<|.a (.a (.a HC Fq) Fq) Gb,.l E_<|.a GQ Gb]<|.l E_<|.a E1<|.c 900:=lw [1,1] C
def fG:Lx 3 [.l EW<|.a E1 Gb,.l E_<|.a EW Gb]<|.l E_<|.a E1 G1:=lw [1,1] C
def fH:Lx 2 [.l EW<|.c 50000,.l E1<|.a EW Gb]<|.l HC<|.c 90000:=lw [1,1] C
def fI:Lx 3 [.l EW<|.a E1 Gb,.l E1<|.c 50000,.l E_<|.a GQ Gb]<|.l E_<|.c 90000:=lw [1,1,1] C
def fJ:Lx 4 [.l EW<|.a HC Gb,.l E1<|.a E_ Gb,.l Fu<|.a EW Gb]<|.l Fu<|.a E_ G1:=lw [1,1,1] C
def fK:Lx 3 [.l EW<|.a E1<|.c 300,.l E1<|.c 50000,.l E_<|.a EW<|.c 20]<|.l E_ Fi:=lw [1,1,1] C
def fM:Lx 3 [.l EW<|.a E1<|.c 300,.l E_<|.a EW<|.c 20]<|.l NE<|.a E1 G1:=lw [1,1] C
def zoj {a:Q} (h0:a<3):a -1<2:=by induction a with|zero=>decide|succ n=>exact W' h0
def zok {a:Q} (h0:a<2):¬1<(↑a:g'):=λh=>Y3.mpr (Bt h0)<|Z4.mp h
def fN:Lx 2 [.l (.a EW HC) G1]<|.l GQ Fi:=lw [1] C
def fO:Lx 2 [.l EW MI,.l HC<|.a (.m 4 EW) Fq]<|.l E1<|.c 20:=lw [5,1] C
def fP:Lx 1 [.l EW<|.c 50000]<|.l (.a EW<|.a (.m 3<|.a (.m 3<|.a (.m 3 Gi) Hg) Hg) Hg) Fa:=lw [1] C
def fQ:Lx 2 [.l (.c 100) GQ,.l E1 MI]<|.l (.a (.m 3 E1) Fq) GQ:=lw [1,3] C
def fR:Lx 2 [.l EW<|.a E1<|.a (.m 3<|.a (.m 3<|.a (.m 3 Gi) Hg) Hg) Hg]<|.l EW<|.a E1 G1:=lw [1] C
def fU:Lx 1 [.l EW<|.a Gs G1]<|.l EW<|.c 50000:=lw [1] C
def fW:Lx 2 [.l EW<|.a Gs G1,.l E1<|.a EW G1]<|.l E1<|.c 40000:=lw [1,1] C
def fX:Lx 3 [.l EW<|.a E1 G1,.l E1<|.a Gs G1,.l E_<|.a EW<|.c 2000]<|.l E_<|.c 40000:=lw [1,1,1] C
def fY:Lx 1 [.e Gi EW]<|.l EW Fi:=lw [0,1] C
def fZ:Lx 5 [.l E1 EW,.l Fu E_]<|.l (.a (.a E1 Gh) Fu)<|.a E_<|.m 1<|.a EW Gh:=lw [1,1] C
def UW:Lx 1 [.l EW<|.c 2000000]<|.s EW<|.c 4000000:=lw [1] C
def zol {a:Q} (h0:a≤2000000):(↑a:g')<4000000:=Z4.mpr<|UW h0
def UX:Lx 1 []<|.l Gs GQ:=lw [] C
def zom {a:Q}:0≤(↑a:g')+1:=x9.mpr<|@UX _
def UY:Lx 1 [.l EW<|.c 2000000]<|.s GQ<|.c 4000000:=lw [1] C
def zon {a:Q} (h0:a≤2000000):(↑a:g')+1<4000000:=Z4.mpr<|UY h0
def zoo {a:Q}:((↑a:g')+1).toNat -(↑a:g').toNat=1:=by refine(?_:a+1 -a=1);exact Cf ..
def UZ:Lx 2 []<|.e (.a GQ E1)<|.a EW HC:=lw [] C
def U0:Lx 2 [.l EW Fi,.l E1 EW]<|.s E1<|.c 4000000:=lw [1,1] C
def zop {a b:Q} (h0:a≤1000000) (Y:b≤a):(↑b:g')<4000000:=Z4.mpr<|U0 h0 Y
def U1:Lx 2 []<|.l Gs<|.a EW E1:=lw [] C
def zoq {a b:Q}:0≤(↑(a+b):g'):=x9.mpr<|@U1 _ _
def zor {a b c d:Q} (h0:a -b=c+d) (Y:a≤1000000) (T':b≤a):(↑(b+c):g')<4000000:=Z4.mpr<|Z9 (YP h0 Y T')<|by decide
def zos {a b:Q}:(↑(b+a):g').toNat -(↑b:g').toNat=a:=by refine(?_:b+a -b=a);exact Cf ..
def zot {a:Q}:1+min 1 a≤1000000:=q0 (Q6 (Y7 ..) 1)<|by decide
def zou {a b:Q}:1+min 1 (a+b)≤1000000:=q0 (Q6 (Y7 ..) 1)<|by decide
def U2:Lx 2 []<|.e (.a GQ E1)<|.a EW HC:=lw [] C
def zov {a b:Q}:(↑a:g')+1+(↑b:g')=(↑a:g')+((↑b:g')+1):=Li J3<|@U2 _ _
def zow {a:Q} (h0:a≤1000):¬1000<(↑a:g'):=λh=>Y3.mpr h0<|Z4.mp h
def f_:Lx 3 [.s (.a E1 E_) EW]<|.l (.a (.a E1 E_) Fq) EW:=lw [1] C
def zox {a b c d e:Q} (h0:a -b=c+(d+1+1)+e) (Y:a≤1000000):b+c+1+(d+1)≤1000000:=by rw[oS h0<|oP h0<|@tP _ _ _]at Y;exact tQ Y
def U3:Lx 3 []<|.e (.a (.a (.a EW E1) Fq) NE)<|.a EW<|.a E1<|.a NE Fq:=lw [] C
def zoy {a b:Q} (h0:b≤a):0≤(↑b:g')∧(↑b:g').toNat≤a:=⟨Q3 _,h0⟩
def gb {a b:Q}:(↑(a+b):g') -(↑b:g')=(↑a:g'):=K_ (a:g') b
def zoz {a b c:Q} (h0:b -c=a) (Y:b≤1000000) (T':c≤b):c+a≤1000000:=by(refine rp h0 ?_;refine rq (CM T') ?_);exact Y
def zo0 {a:Q}:-1+((↑a:g')+1)=(↑a:g'):=by rw[g'.add_comm,W2];exact g'.add_zero _
def U4:Lx 2 [.l (.a E1 Gi) EW]<|.l Gi EW:=lw [1] C
def zo1 {a b:Q} (h0:b+2≤a):a=a -2+2:=(j'<|U4 h0).symm
def zo2 {a b:Q} (h0:b+1≤a) (Y:a≤b):False:=Y3.mpr Y h0
def zo3 {a b c:Q} (h0:0<a) (Y:a=b -c):b=c+a:=by(refine rq Y ?_;exact rq (CM<|Bu<|EJ<|Y▸h0) C)
def zo4 {a b:Q} (h0:0<a):min b (a -1)<a:=Z9 (K1 ..)<|Q.sub_lt h0 Q.one_pos
def zo5 {a b c:Q} (h0:0<a):min ((↑b:g')+(↑c:g')) ((↑(b+a):g') -1)=(↑(b+min c (a -1)):g'):=by induction a with|zero=>exact Lg h0 (V0 0)|succ k=>exact(by refine rq (K_ ((b+k:Q):g') 1:(↑(b+(k+1)):g') -1=((b+k:Q):g')) ?_;exact(oN b c k))
def zo6 {a:Q}:0≤(↑(a+1):g') -1∧(↑(a+1):g') -1=(↑a:g'):=⟨by refine rq om90 ?_;exact Q3 _,om90⟩
def U5:Lx 1 []<|.s Gs GQ:=lw [] C
def zo7 {a:Q}:0<(↑(a+1):g'):=Z4.mpr<|@U5 _
def U6:Lx 0 []<|.l Gs Gs:=lw [] C
def gc:(↑0:g')≤0:=x9.mpr<|@U6
def zo8 {a b:Q} (h0:b<a):b≠a:=Z3 h0
def U7:Lx 1 []<|.s (.a EW Gs) GQ:=lw [] C
def oH {a b:Q} (h0:b<a):a -1 -b<a:=Z9 (Ck ..)<|Q.sub_lt (Z9 (Q4 _) h0) Q.one_pos
def zg1 {a b:Q} (h0:b<a):a -1 -(a -1 -b)=b:=Q.sub_sub_self<|Ef h0
def zo9 {a b c:Q} (h0:b<a) (Y:a=c):a -1 -b<c:=Y▸oH h0
def zpa {a b c:Q} (h0:b<a) (Y:a=c):c -1 -(a -1 -b)=b:=Y▸zg1 h0
def zpb {a b:Q} (h0:b≤a) (Y:a<b):False:=Y3.mpr h0 Y
def zpc {a b c:Q} {d:g'} (h0:a≤b∧b<c∧0≤d∧d<1000000):-2^62≤d:=y7 (by decide) h0.2.2.1
def zpd {a b c:Q} {d:g'} (h0:a≤b∧b<c∧0≤d∧d<1000000):d<2^62:=Bi h0.2.2.2<|by decide
def gd:Lx 2 [.e E1 EW]<|.l E1 EW:=lw [1,0] C
def zpe {a b c:Q} (h0:a<min b c):a<b:=v_ h0<|Y7 ..
def zpf {a:g'} (h0:a.natAbs=0):a=0:=g'.natAbs_eq_zero.mp h0
def gf:Lx 1 [.s EW<|.c 63]<|.l GQ<|.c 64:=lw [1] C
def gg:Lx 3 [.l (.a E1 E_) EW]<|.l E1 EW:=lw [1] C
def zpg {a b c d e:Q} (h0:a=b+(c+d)) (Y:a≤1000000∧e≤1000000):b+c≤16777216:=q0 (Q6 (Q8 c d) b)<|h0▸q0 Y.1 (by decide)
def zph {a:Q} (h0:a≤100):¬(↑a:g')≥2^63:=λh=>Y3.mpr h0<|v_ (by decide)<|x9.mp h
def zpi {a:Q}:-2^62≤(↑a:g'):=y7 (by decide)<|Q3 _
def zpj {a:Q} (h0:a≤100):(↑a:g')<2^62:=Z4.mpr<|Z9 h0<|by decide
def zpk {a:Q}:0+(↑a:g')*1=(↑a:g'):=by rw[Ek,g'.zero_add]
def zpl {a:Q} (h0:a≤100):a<2^62:=Z9 h0<|by decide
def om595 {a:Q}:0+(↑a:g')*1=(↑(0+a):g'):=by rw[Ek,g'.zero_add,K']
def zpm {a:Q}:min 60 a≤16777216:=q0 (Y7 ..)<|by decide
def gh:Lx 3 [.s (.a (.a E1<|.m 8 E_) Gb) EW]<|.s (.a (.a E1<|.m 8 E_)<|.c 196) EW:=lw [1] C
def gi:Lx 2 [.l E1 EW]<|.l E1<|.a (.m 4 EW) Gb:=lw [1] C
def gj:Lx 4 [.l E1 EW,.l Fu E_]<|.l (.a E1 Fu)<|.a E_<|.m 1<|.a EW Gi:=lw [1,1] C
def gk:Lx 3 []<|.e (.a EW<|.a (.a (.a E1 E_) Fq) Fq)<|.a (.a EW Gi)<|.a E1 E_:=lw [] C
def gm:Lx 3 []<|.e (.a EW<|.a (.a E1 E_) Fq)<|.a GQ<|.a E1 E_:=lw [] C
def gq:Lx 2 [.l (.c 18)<|.a EW Gi,.l E1 Gi]<|.l (.a (.m 5 E1)<|.c 6) EW:=lw [1,5] C
def gr:Lx 2 [.l (.c 20)<|.a EW MI,.l E1 Gi]<|.l (.a (.m 5 E1)<|.c 6) EW:=lw [1,5] C
def gu:Lx 2 [.l (.a EW<|.a Fq<|.m 3 E1) Fa]<|.l (.a EW E1) Fa:=lw [1] C
def TB:Lx 2 [.l (.a EW<|.a (.c 8)<|.m 3 E1) Fa]<|.l EW Fi:=lw [1] C
def TC:Lx 1 []<|.l (.a (.c 8)<|.m 3 EW)<|.a (.m 3 EW)<|.c 9:=lw [] C
def gv:Lx 1 []<|.l (.a Fq<|.m 3 EW)<|.a (.m 3 EW)<|.c 9:=lw [] C
def gw:Lx 2 [.l (.a EW HC)<|.c 500001]<|.l EW<|.c 500000:=lw [1] C
def oI {z8:g'} (h:0≤z8):(if 0<z8 then z8 -0 else 0)=(z8.toNat:g'):=by
 split
 ·rw[g'.sub_zero,Be h]
 ·rename_i e;exact(Li J3<|g'.toNat_of_nonpos<|Cn.mp e).symm
def gx:Lx 3 [.s (.a (.a E1<|.m 2 E_) Fq) EW]<|.s (.a HC<|.m 2 E_) EW:=lw [1] C
def qk {p0 p1:Prop} {G:Prop} (h:p0∧p1) (f:p0→p1→G):G:=f h.1 h.2
def Fg.{u0} {α0:Sort u0} {p0:α0→Prop} {G:Prop} (h:∃a0,p0 a0) (f:∀a0,p0 a0→G):G:=h.elim λa0 h=>f a0 h
def yG {p0 p1 p2:Prop} {G:Prop} (h:p0∧p1∧p2) (f:p0→p1→p2→G):G:=f h.1 h.2.1 h.2.2
def E7.{u0} {α0:Sort u0} {p0 p1:α0→Prop} {G:Prop} (h:∃a0,p0 a0∧p1 a0) (f:∀a0,p0 a0→p1 a0→G):G:=h.elim λa0 h=>f a0 h.1 h.2
def Ib.{u0,u1} {α0:Sort u0} {α1:Sort u1} {p0:α0→α1→Prop} {G:Prop} (h:∃a0 a1,p0 a0 a1) (f:∀a0 a1,p0 a0 a1→G):G:=h.elim λa0 h=>h.elim λa1 h=>f a0 a1 h
def JS {p0 p1 p2 p3:Prop} {G:Prop} (h:p0∧p1∧p2∧p3) (f:p0→p1→p2→p3→G):G:=f h.1 h.2.1 h.2.2.1 h.2.2.2
def Hs.{u0} {α0:Sort u0} {p0 p1 p2:α0→Prop} {G:Prop} (h:∃a0,p0 a0∧p1 a0∧p2 a0) (f:∀a0,p0 a0→p1 a0→p2 a0→G):G:=h.elim λa0 h=>f a0 h.1 h.2.1 h.2.2
def F4.{u0,u1} {α0:Sort u0} {α1:Sort u1} {p0 p1:α0→α1→Prop} {G:Prop} (h:∃a0 a1,p0 a0 a1∧p1 a0 a1) (f:∀a0 a1,p0 a0 a1→p1 a0 a1→G):G:=h.elim λa0 h=>h.elim λa1 h=>f a0 a1 h.1 h.2
def U8.{u0,u1,u2} {α0:Sort u0} {α1:Sort u1} {α2:Sort u2} {p0:α0→α1→α2→Prop} {G:Prop} (h:∃a0 a1 a2,p0 a0 a1 a2) (f:∀a0 a1 a2,p0 a0 a1 a2→G):G:=h.elim λa0 h=>h.elim λa1 h=>h.elim λa2 h=>f a0 a1 a2 h
def ZB {p0 p1 p2 p3 p4:Prop} {G:Prop} (h:p0∧p1∧p2∧p3∧p4) (f:p0→p1→p2→p3→p4→G):G:=f h.1 h.2.1 h.2.2.1 h.2.2.2.1 h.2.2.2.2
def zvh.{u0} {α0:Sort u0} {p0 p1 p2 p3:α0→Prop} {G:Prop} (h:∃a0,p0 a0∧p1 a0∧p2 a0∧p3 a0) (f:∀a0,p0 a0→p1 a0→p2 a0→p3 a0→G):G:=h.elim λa0 h=>f a0 h.1 h.2.1 h.2.2.1 h.2.2.2
def Fv.{u0,u1} {α0:Sort u0} {α1:Sort u1} {p0 p1 p2:α0→α1→Prop} {G:Prop} (h:∃a0 a1,p0 a0 a1∧p1 a0 a1∧p2 a0 a1) (f:∀a0 a1,p0 a0 a1→p1 a0 a1→p2 a0 a1→G):G:=h.elim λa0 h=>h.elim λa1 h=>f a0 a1 h.1 h.2.1 h.2.2
def II.{u0,u1,u2} {α0:Sort u0} {α1:Sort u1} {α2:Sort u2} {p0 p1:α0→α1→α2→Prop} {G:Prop} (h:∃a0 a1 a2,p0 a0 a1 a2∧p1 a0 a1 a2) (f:∀a0 a1 a2,p0 a0 a1 a2→p1 a0 a1 a2→G):G:=h.elim λa0 h=>h.elim λa1 h=>h.elim λa2 h=>f a0 a1 a2 h.1 h.2
def N8.{u0,u1,u2,u3} {α0:Sort u0} {α1:Sort u1} {α2:Sort u2} {α3:Sort u3} {p0:α0→α1→α2→α3→Prop} {G:Prop} (h:∃a0 a1 a2 a3,p0 a0 a1 a2 a3) (f:∀a0 a1 a2 a3,p0 a0 a1 a2 a3→G):G:=h.elim λa0 h=>h.elim λa1 h=>h.elim λa2 h=>h.elim λa3 h=>f a0 a1 a2 a3 h
def zvi.{u0} {α0:Sort u0} {p0 p1 p2 p3 p4:α0→Prop} {G:Prop} (h:∃a0,p0 a0∧p1 a0∧p2 a0∧p3 a0∧p4 a0) (f:∀a0,p0 a0→p1 a0→p2 a0→p3 a0→p4 a0→G):G:=h.elim λa0 h=>f a0 h.1 h.2.1 h.2.2.1 h.2.2.2.1 h.2.2.2.2
def Og.{u0,u1} {α0:Sort u0} {α1:Sort u1} {p0 p1 p2 p3:α0→α1→Prop} {G:Prop} (h:∃a0 a1,p0 a0 a1∧p1 a0 a1∧p2 a0 a1∧p3 a0 a1) (f:∀a0 a1,p0 a0 a1→p1 a0 a1→p2 a0 a1→p3 a0 a1→G):G:=h.elim λa0 h=>h.elim λa1 h=>f a0 a1 h.1 h.2.1 h.2.2.1 h.2.2.2
def Gm.{u0,u1,u2} {α0:Sort u0} {α1:Sort u1} {α2:Sort u2} {p0 p1 p2:α0→α1→α2→Prop} {G:Prop} (h:∃a0 a1 a2,p0 a0 a1 a2∧p1 a0 a1 a2∧p2 a0 a1 a2) (f:∀a0 a1 a2,p0 a0 a1 a2→p1 a0 a1 a2→p2 a0 a1 a2→G):G:=h.elim λa0 h=>h.elim λa1 h=>h.elim λa2 h=>f a0 a1 a2 h.1 h.2.1 h.2.2
def U9.{u0,u1,u2,u3} {α0:Sort u0} {α1:Sort u1} {α2:Sort u2} {α3:Sort u3} {p0 p1:α0→α1→α2→α3→Prop} {G:Prop} (h:∃a0 a1 a2 a3,p0 a0 a1 a2 a3∧p1 a0 a1 a2 a3) (f:∀a0 a1 a2 a3,p0 a0 a1 a2 a3→p1 a0 a1 a2 a3→G):G:=h.elim λa0 h=>h.elim λa1 h=>h.elim λa2 h=>h.elim λa3 h=>f a0 a1 a2 a3 h.1 h.2
def RO.{u0,u1} {α0:Sort u0} {α1:Sort u1} {p0 p1 p2 p3 p4:α0→α1→Prop} {G:Prop} (h:∃a0 a1,p0 a0 a1∧p1 a0 a1∧p2 a0 a1∧p3 a0 a1∧p4 a0 a1) (f:∀a0 a1,p0 a0 a1→p1 a0 a1→p2 a0 a1→p3 a0 a1→p4 a0 a1→G):G:=h.elim λa0 h=>h.elim λa1 h=>f a0 a1 h.1 h.2.1 h.2.2.1 h.2.2.2.1 h.2.2.2.2
def HX.{u0,u1,u2} {α0:Sort u0} {α1:Sort u1} {α2:Sort u2} {p0 p1 p2 p3:α0→α1→α2→Prop} {G:Prop} (h:∃a0 a1 a2,p0 a0 a1 a2∧p1 a0 a1 a2∧p2 a0 a1 a2∧p3 a0 a1 a2) (f:∀a0 a1 a2,p0 a0 a1 a2→p1 a0 a1 a2→p2 a0 a1 a2→p3 a0 a1 a2→G):G:=h.elim λa0 h=>h.elim λa1 h=>h.elim λa2 h=>f a0 a1 a2 h.1 h.2.1 h.2.2.1 h.2.2.2
def zvj.{u0,u1,u2,u3} {α0:Sort u0} {α1:Sort u1} {α2:Sort u2} {α3:Sort u3} {p0 p1 p2:α0→α1→α2→α3→Prop} {G:Prop} (h:∃a0 a1 a2 a3,p0 a0 a1 a2 a3∧p1 a0 a1 a2 a3∧p2 a0 a1 a2 a3) (f:∀a0 a1 a2 a3,p0 a0 a1 a2 a3→p1 a0 a1 a2 a3→p2 a0 a1 a2 a3→G):G:=h.elim λa0 h=>h.elim λa1 h=>h.elim λa2 h=>h.elim λa3 h=>f a0 a1 a2 a3 h.1 h.2.1 h.2.2
def RP.{u0,u1} {α0:Sort u0} {α1:Sort u1} {p0 p1 p2 p3 p4 p5:α0→α1→Prop} {G:Prop} (h:∃a0 a1,p0 a0 a1∧p1 a0 a1∧p2 a0 a1∧p3 a0 a1∧p4 a0 a1∧p5 a0 a1) (f:∀a0 a1,p0 a0 a1→p1 a0 a1→p2 a0 a1→p3 a0 a1→p4 a0 a1→p5 a0 a1→G):G:=h.elim λa0 h=>h.elim λa1 h=>f a0 a1 h.1 h.2.1 h.2.2.1 h.2.2.2.1 h.2.2.2.2.1 h.2.2.2.2.2
def Rf.{u0,u1,u2} {α0:Sort u0} {α1:Sort u1} {α2:Sort u2} {p0 p1 p2 p3 p4:α0→α1→α2→Prop} {G:Prop} (h:∃a0 a1 a2,p0 a0 a1 a2∧p1 a0 a1 a2∧p2 a0 a1 a2∧p3 a0 a1 a2∧p4 a0 a1 a2) (f:∀a0 a1 a2,p0 a0 a1 a2→p1 a0 a1 a2→p2 a0 a1 a2→p3 a0 a1 a2→p4 a0 a1 a2→G):G:=h.elim λa0 h=>h.elim λa1 h=>h.elim λa2 h=>f a0 a1 a2 h.1 h.2.1 h.2.2.1 h.2.2.2.1 h.2.2.2.2
def OL.{u0,u1,u2,u3} {α0:Sort u0} {α1:Sort u1} {α2:Sort u2} {α3:Sort u3} {p0 p1 p2 p3:α0→α1→α2→α3→Prop} {G:Prop} (h:∃a0 a1 a2 a3,p0 a0 a1 a2 a3∧p1 a0 a1 a2 a3∧p2 a0 a1 a2 a3∧p3 a0 a1 a2 a3) (f:∀a0 a1 a2 a3,p0 a0 a1 a2 a3→p1 a0 a1 a2 a3→p2 a0 a1 a2 a3→p3 a0 a1 a2 a3→G):G:=h.elim λa0 h=>h.elim λa1 h=>h.elim λa2 h=>h.elim λa3 h=>f a0 a1 a2 a3 h.1 h.2.1 h.2.2.1 h.2.2.2
def M0.{u0,u1,u2} {α0:Sort u0} {α1:Sort u1} {α2:Sort u2} {p0 p1 p2 p3 p4 p5:α0→α1→α2→Prop} {G:Prop} (h:∃a0 a1 a2,p0 a0 a1 a2∧p1 a0 a1 a2∧p2 a0 a1 a2∧p3 a0 a1 a2∧p4 a0 a1 a2∧p5 a0 a1 a2) (f:∀a0 a1 a2,p0 a0 a1 a2→p1 a0 a1 a2→p2 a0 a1 a2→p3 a0 a1 a2→p4 a0 a1 a2→p5 a0 a1 a2→G):G:=h.elim λa0 h=>h.elim λa1 h=>h.elim λa2 h=>f a0 a1 a2 h.1 h.2.1 h.2.2.1 h.2.2.2.1 h.2.2.2.2.1 h.2.2.2.2.2
def U_.{u0,u1,u2,u3} {α0:Sort u0} {α1:Sort u1} {α2:Sort u2} {α3:Sort u3} {p0 p1 p2 p3 p4:α0→α1→α2→α3→Prop} {G:Prop} (h:∃a0 a1 a2 a3,p0 a0 a1 a2 a3∧p1 a0 a1 a2 a3∧p2 a0 a1 a2 a3∧p3 a0 a1 a2 a3∧p4 a0 a1 a2 a3) (f:∀a0 a1 a2 a3,p0 a0 a1 a2 a3→p1 a0 a1 a2 a3→p2 a0 a1 a2 a3→p3 a0 a1 a2 a3→p4 a0 a1 a2 a3→G):G:=h.elim λa0 h=>h.elim λa1 h=>h.elim λa2 h=>h.elim λa3 h=>f a0 a1 a2 a3 h.1 h.2.1 h.2.2.1 h.2.2.2.1 h.2.2.2.2
@[elab_as_elim] def iL {α:Type} {motive:D α→Prop} {l:D α} (h:l.length≤2) (x0:motive []) (x1:∀a,motive [a]) (x2:∀a b,motive [a,b]):motive l:=by
 induction l with
 |nil=>exact x0
 |cons a l=>
  clear tail_ih;induction l with
  |nil=>exact x1 a
  |cons b l=>
   clear tail_ih;induction l with
   |nil=>exact x2 a b
   |cons c l=>exact Lg h<|Q.not_le_of_gt<|K6 3 l.length
def cps {T:Prop} (h:∀G:Prop,(T→G)→G):T:=h T id
def iM {α:Type} {P:D α→Prop} {n:Q} (h:∀a t,t.length=n→P (a::t)) (vs:D α) (e:vs.length=n+1):P vs:=by
 induction vs with
 |nil=>contradiction
 |cons a t=>exact h a t<|B3 e
def oJ {α:Type} {P:D α→Prop} (h:P []) (vs:D α) (e:vs.length=0):P vs:=by
 refine rq (J0 e) ?_;exact h
def oK {α:Type} {P:D α→Prop} (h:∀a,P [a]):∀(vs:D α),vs.length=1→P vs:=iM λa=>oJ (P:=λl=>P<|a::l)<|h a
def oO {α:Type} {P:D α→Prop} (h:∀a b,P [a,b]):∀(vs:D α),vs.length=2→P vs:=iM λa=>oK (P:=λl=>P<|a::l)<|h a
def lX {α:Type} {P:D α→Prop} (h:∀a b c,P [a,b,c]):∀(vs:D α),vs.length=3→P vs:=iM λa=>oO (P:=λl=>P<|a::l)<|h a
def zss {α:Type} {P:D α→Prop} (h:∀a b c d,P [a,b,c,d]):∀(vs:D α),vs.length=4→P vs:=iM λa=>lX (P:=λl=>P<|a::l)<|h a
def dn {n:Q} (k:Q) (h:k≤n) {G:Prop} (f:∀q,n=q+k→G):G:=f (n -k) (j' h).symm
def zB {α β:Type} {o:Lc α} {f:α→Lc β} {b:β} {G:Prop} (h:o.bind f=R b) (k:∀a,o=R a→f a=R b→G):G:=by
 induction o with
 |Z=>exact nO h
 |R a=>exact k a C h
def qa {α β:Type} {o:Lc α} {f:α→β} {b:β} {G:Prop} (h:o.map f=R b) (k:∀a,o=R a→f a=b→G):G:=by
 induction o with
 |Z=>exact nO h
 |R a=>exact k a C<|z' h
def zh {α γ β:Type} {o:Lc<|α×γ} {f:α×γ→Lc β} {b:β} {G:Prop} (h:o.bind f=R b) (k:∀x y,o=R (x,y)→f (x,y)=R b→G):G:=zB h λa=>k a.1 a.2
def wH {α γ β:Type} {o:Lc<|α×γ} {f:α×γ→β} {b:β} {G:Prop} (h:o.map f=R b) (k:∀x y,o=R (x,y)→f (x,y)=b→G):G:=qa h λa=>k a.1 a.2
inductive MV where
 |Z
 |bool (b:Ld)
 |int (i:g')
 |str (s:D Q)
 |tup (l:D MV)
 |ref (a:Q)
abbrev MV.ctorIdx (x:MV):Q:=MV.casesOn (motive_1:=λH=>Q) x 0 (λH=>1) (λH=>2) (λH=>3) (λH=>4) λH=>5
inductive MO where
 |list (l:D MV)
 |dict (l:D<|D Q×MV)
 |inst (G' d:Q)
abbrev MO.ctorIdx (x:MO):Q:=MO.casesOn (motive:=λH=>Q) x (λH=>0) (λH=>1) λH H=>2
nonrec abbrev MH:=Q→Lc MO
abbrev upd (σ:MH) (a:Q) (x:MO):MH:=λb=>if b=a then R x else σ b
nonrec abbrev E5 (l:D Q):Lf:=⟨l.toArray⟩
abbrev ZC (vs:D q4) (n:Q):Obj:={cls:=.type s!"tuple",data:=.seq vs.toArray n}
abbrev vc (vs:D q4) (n:Q):Obj:={cls:=.type s!"list",data:=.seq vs.toArray n}
abbrev Ic (h:y9) (a:w_) (vs:D q4):Prop:=∃n,h.get? a=R (ZC vs n)
abbrev NL (h:y9) (a:w_) (vs:D q4):Prop:=∃n,h.get? a=R (vc vs n)
def Ic.isTuple {h:y9} {a:w_} {vs:D q4} (x:Ic h a vs):h.IsTuple a vs.toArray:=x.elim λn e=>⟨_,e,C,n,C⟩
def NL.isList {h:y9} {a:w_} {vs:D q4} (x:NL h a vs):h.IsList a vs.toArray:=x.elim λn e=>⟨_,e,C,n,C⟩
abbrev FP (h:y9) (v:q4) (m:MV):Prop:=MV.rec (motive_1:=λH=>q4→Prop) (motive_2:=λH=>D q4→Prop) (λv=>v=.none) (λb v=>v=.bool b) (λi v=>∃t,v=.int i t) (λl v=>∃t,v=.str (E5 l) t) (λH r v=>∃a vs,v=.ref a∧Ic h a vs∧r vs) (λa v=>v=.ref a) (λvs=>vs=[]) (λH H r q vs=>∃v ws,vs=v::ws∧r v∧q ws) m v
abbrev FJ (h:y9) (vs:D q4) (ms:D MV):Prop:=MV.rec_1 (motive_1:=λH=>q4→Prop) (motive_2:=λH=>D q4→Prop) (λv=>v=.none) (λb v=>v=.bool b) (λi v=>∃t,v=.int i t) (λl v=>∃t,v=.str (E5 l) t) (λH r v=>∃a vs,v=.ref a∧Ic h a vs∧r vs) (λa v=>v=.ref a) (λvs=>vs=[]) (λH H r q vs=>∃v ws,vs=v::ws∧r v∧q ws) ms vs
end
mutual section
variable {h:y9} {v:q4} {m:MV} {vs:D q4} {ms:D MV}
def FP.none:FP h .none .none:=C
def FP.bool (b:Ld):FP h (.bool b)<|.bool b:=C
def FP.int (i:g') (t:Tok):FP h (.int i t)<|.int i:=⟨t,C⟩
def FP.str (l:D Q) (t:Tok):FP h (.str (E5 l) t)<|.str l:=⟨t,C⟩
def FP.tup (a:w_) (vs:D q4) (ms:D MV) (t:Ic h a vs) (r:FJ h vs ms):FP h (.ref a)<|.tup ms:=⟨a,vs,C,t,r⟩
def FP.ref (a:w_):FP h (.ref a)<|.ref a:=C
def FJ.nil:FJ h [] []:=C
def FJ.cons (a:FP h v m) (b:FJ h vs ms):FJ h (v::vs)<|m::ms:=⟨v,vs,C,a,b⟩
def FP.str_i {l:D Q} (r:FP h v<|.str l) {G:Prop} (k:∀t,v=.str (E5 l) t→G):G:=r.elim k
def FP.int_i {l:g'} (r:FP h v<|.int l) {G:Prop} (k:∀t,v=.int l t→G):G:=r.elim k
def FP.bool_i {b:Ld} (r:FP h v<|.bool b):v=.bool b:=r
def FP.none_i (r:FP h v .none):v=.none:=r
def FP.ref_i {a:w_} (r:FP h v<|.ref a):v=.ref a:=r
def FP.tup_i (r:FP h v<|.tup ms) {G:Prop} (k:∀a vs,v=.ref a→Ic h a vs→FJ h vs ms→G):G:=Fv r k
def FP.cs {P:q4→MV→Prop} (r:FP h v m) (n:P .none .none) (b:∀b,P (.bool b)<|.bool b) (i:∀i t,P (.int i t)<|.int i) (s:∀l t,P (.str (E5 l) t)<|.str l) (t:∀a vs ms,Ic h a vs→FJ h vs ms→P (.ref a) (.tup ms)) (f:∀a,P (.ref a)<|.ref a):P v m:=by
 cases m with
 |Z=>exact r.none_i▸n
 |bool x=>exact r.bool_i▸b x
 |int x=>exact r.int_i λu e=>e▸i x u
 |str x=>exact r.str_i λu e=>e▸s x u
 |tup x=>exact r.tup_i λa vs e p q=>e▸t a vs x p q
 |ref x=>exact r.ref_i▸f x
def FJ.nil_i (r:FJ h vs []):vs=[]:=r
def FJ.cons_i (r:FJ h vs<|m::ms) {G:Prop} (k:∀v ws,vs=v::ws→FP h v m→FJ h ws ms→G):G:=Fv r k
end
mutual namespace A
abbrev F2 {α β:Type} (I':α→β→Prop) (l:D α) (m:D β):Prop:=D.rec (motive:=λH=>D α→Prop) (λl=>l=[]) (λb H r l=>∃a k,l=a::k∧I' a b∧r k) m l
end
mutual section
variable {α β:Type} {I' R':α→β→Prop} {a:α} {b:β} {l:D α} {m:D β}
def F2.nil:F2 I' [] []:=C
def F2.cons (h:I' a b) (t:F2 I' l m):F2 I' (a::l)<|b::m:=⟨a,l,C,h,t⟩
def F2.one (h:F2 I' (a::l)<|b::m):I' a b∧F2 I' l m:=Fv h λx y e p q=>by cases e;exact⟨p,q⟩
def F2.ind {P:D α→D β→Prop} (n:P [] []) (c:∀a b l m,I' a b→F2 I' l m→P l m→P (a::l) (b::m)) (h:F2 I' l m):P l m:=by
 induction m generalizing l with
 |nil=>refine rq (h:l=[]) ?_;exact n
 |cons b m ih=>exact Fv h λa k e p q=>by refine rq e ?_;exact c a b k m p q<|ih q
def F2.mono (f:∀a b,I' a b→R' a b) (h:F2 I' l m):F2 R' l m:=F2.ind (P:=F2 R') .nil (λH H H H p H i=>.cons (f _ _ p) i) h
def F2.len (h:F2 I' l m):l.length=m.length:=F2.ind (P:=λl m=>l.length=m.length) C (λH H H H H H i=>Li Ed i) h
end
mutual namespace A
structure Gl where
 prog:CG
 w:Ep
 K:Frag
 h0:y9
 os:EB
nonrec abbrev Gl.M (G:Gl):Model:=model G.prog G.w
abbrev zst (P:V6) (h:y9) (e:J7) (x:D Q×MV):Prop:=∃t v,e=⟨K2 P<|E5 x.1,.str (E5 x.1) t,v⟩∧FP h v x.2
nonrec abbrev Gy (P:V6) (h:y9):D J7→D (D Q×MV)→Prop:=F2<|zst P h
abbrev Holds (G:Gl) (h:y9) (a:w_):MO→Prop
 | .list l=>∃vs:D q4,NL h a vs∧FJ h vs l
 | .dict l=>∃(es:D J7) (n:Q),h.get? a=R ⟨.type s!"dict",Z,.dict es.toArray n,(D.toArray [])⟩∧Gy G.w.params h es l
 | .inst G' d=>h.get? a=R (Do G' d)
structure St (G:Gl) (σ:MH) (s:q7):Prop where
 keep:∀a o,G.h0.get? a=R o→s.heap.get? a=R o
 own:∀a x,σ a=R x→Holds G s.heap a x
 new:∀a x,σ a=R x→G.h0.get? a=Z
 gens:s.gens=(D.toArray [])
 os:s.os=G.os
structure FB (σ σ':MH) (h h':y9):Prop where
 un:∀a o,h.get? a=R o→σ a=Z→h'.get? a=R o
 dom:∀a o,h.get? a=R o→σ a=Z→σ' a=Z
def FB.refl (σ:MH) (h:y9):FB σ σ h h:=⟨λH H e H=>e,λH H H e=>e⟩
def FB.trans {σ σ' σ'':MH} {h h' h'':y9} (x:FB σ σ' h h') (y:FB σ' σ'' h' h''):FB σ σ'' h h'':=
 ⟨λa o e n=>y.un a o (x.un a o e n)<|x.dom a o e n,λa o e n=>y.dom a o (x.un a o e n)<|x.dom a o e n⟩
abbrev zQ (h h':y9):Prop:=∀a vs,Ic h a vs→Ic h' a vs
def FP.ext {h h':y9} (x:zQ h h') {v:q4} {m:MV} (r:FP h v m):FP h' v m:=
 MV.rec (motive_1:=λm=>∀v,FP h v m→FP h' v m) (motive_2:=λms=>∀vs,FJ h vs ms→FJ h' vs ms) (λH r=>r) (λH H r=>r) (λH H r=>r) (λH H r=>r) (λH i H r=>Fv r λa vs e t q=>⟨a,vs,e,x a _ t,i _ q⟩) (λH H r=>r) (λH r=>r) (λH H i j H r=>Fv r λv ws e a b=>⟨v,ws,e,i _ a,j _ b⟩) m v r
def FJ.ext {h h':y9} (x:zQ h h') {vs:D q4} {ms:D MV} (r:FJ h vs ms):FJ h' vs ms:=by
 induction ms generalizing vs with
 |nil=>exact r
 |cons m ms ih=>exact r.cons_i λv ws e a b=>⟨v,ws,e,a.ext x,ih b⟩
def Gy.ext {P:V6} {h h':y9} (x:zQ h h') {es:D J7} {ms:D<|D Q×MV} (q:Gy P h es ms):Gy P h' es ms:=F2.mono (λH H p=>F4 p λt v e r=>⟨t,v,e,r.ext x⟩) q
def Holds.noTuple {G:Gl} {h:y9} {a:w_} {x:MO} {items:D q4} (z_:Holds G h a x) (T:Ic h a items):False:=by
 obtain⟨n,ho⟩:=T
 induction x with
 |list l=>obtain⟨vs,⟨m,ho'⟩,_⟩:=z_;rw[ho]at ho';simp[ZC,vc]at ho'
 |dict l=>obtain⟨es,n,ho',_⟩:=z_;rw[ho]at ho';simp[ZC]at ho'
 |inst G' d=>
  have H':h.get? a=R (Do G' d):=z_
  rw[ho]at H';simp[ZC]at H'
def St.tupExt {G:Gl} {σ σ':MH} {s:q7} {h':y9} (S:St G σ s) (P:FB σ σ' s.heap h'):zQ s.heap h':=by
 intro a items T
 have hn:σ a=Z:=by
  induction e:σ a with
  |Z=>rfl
  |R x=>exact((S.own a x e).noTuple T).elim
 obtain⟨n,ho⟩:=T
 exact⟨n,P.un a _ ho hn⟩
def zj (h:y9) (o:Obj):zQ h<|h.push o:=λH H T=>let ⟨n,e⟩:=T;⟨n,Heap.get?_push_of_some o e⟩
def Holds.ext {G:Gl} {h h':y9} {a:w_} {x:MO} (z_:Holds G h a x) (t:zQ h h') (e:∀o,h.get? a=R o→h'.get? a=R o):Holds G h' a x:=by
 induction x with
 |list l=>obtain⟨vs,⟨n,ho⟩,hr⟩:=z_;exact⟨vs,⟨n,e _ ho⟩,hr.ext t⟩
 |dict l=>obtain⟨es,n,ho,hr⟩:=z_;exact⟨es,n,e _ ho,hr.ext t⟩
 |inst G' d=>exact e _ z_
def Holds.some {G:Gl} {h:y9} {a:w_} {x:MO} (z_:Holds G h a x):∃o,h.get? a=R o:=by
 induction x with
 |list l=>obtain⟨vs,⟨n,ho⟩,_⟩:=z_;exact⟨_,ho⟩
 |dict l=>obtain⟨es,n,ho,_⟩:=z_;exact⟨_,ho⟩
 |inst G' d=>exact⟨_,z_⟩
abbrev Fh (G:Gl) (σ:MH) (s:q7) (k:MV→MH→Prop):q4→q7→Prop:=
 λv s'=>∃m σ',FP s'.heap v m∧St G σ' s'∧FB σ σ' s.heap s'.heap∧k m σ'
end
mutual section
variable {G:Gl} {σ:MH} {s:q7} {k:MV→MH→Prop}
def St.toks (S:St G σ s) (t:Q):St G σ {s with toks:=t}:=⟨S.keep,S.own,S.new,S.gens,S.os⟩
def Fh.same {v:q4} {m:MV} {t:Q} (S:St G σ s) (r:FP s.heap v m) (h:k m σ):Fh G σ s k v {s with toks:=t}:=
 ⟨m,σ,r,S.toks t,FB.refl _ _,h⟩
def Fh.here {v:q4} {m:MV} (S:St G σ s) (r:FP s.heap v m) (h:k m σ):Fh G σ s k v s:=⟨m,σ,r,S,FB.refl _ _,h⟩
def FB.push (σ:MH) (h:y9) (o:Obj):FB σ σ h<|h.push o:=⟨λH H e H=>Heap.get?_push_of_some o e,λH H H e=>e⟩
def St.push (S:St G σ s) (o:Obj):St G σ {s with heap:=s.heap.push o}:=
 ⟨λa o' e=>Heap.get?_push_of_some o<|S.keep a o' e,λa x e=>(S.own a x e).ext (zj _ _) λH q=>Heap.get?_push_of_some o q,S.new,S.gens,S.os⟩
def FB.ext {h h':y9} (e:∀a o,h.get? a=R o→h'.get? a=R o):FB σ σ h h':=⟨λa o q H=>e a o q,λH H H q=>q⟩
def St.ext (S:St G σ s) {h':y9} {t:Q} (e:∀a o,s.heap.get? a=R o→h'.get? a=R o):St G σ {s with heap:=h',toks:=t}:=
 ⟨λa o q=>e a o<|S.keep a o q,λa x q=>(S.own a x q).ext (λH H T=>let ⟨n,ho⟩:=T;⟨n,e _ _ ho⟩) λo ho=>e a o ho,S.new,S.gens,S.os⟩
def St.fresh (S:St G σ s):σ s.heap.objs.size=Z:=by
 induction e:σ s.heap.objs.size with
 |Z=>rfl
 |R x=>obtain⟨o,ho⟩:=(S.own _ _ e).some;exact Lg (Z2 ho)<|V0 _
def St.fresh0 (S:St G σ s):G.h0.get? s.heap.objs.size=Z:=by
 induction e:G.h0.get? s.heap.objs.size with
 |Z=>rfl
 |R o=>exact Lg (Z2<|S.keep _ _ e)<|V0 _
def zJ (σ:MH) (a:Q) (x:MO):upd σ a x a=R x:=by simp[upd]
def zE (σ:MH) {a b:Q} (x:MO) (h:b≠a):upd σ a x b=σ b:=by simp[upd,h]
def St.alloc (S:St G σ s) {o:Obj} {x:MO} (hx:Holds G (s.heap.push o) s.heap.objs.size x):St G (upd σ s.heap.objs.size x) {s with heap:=s.heap.push o}:=by
 have S':=S.push o
 refine⟨S'.keep,λa y e=>?_,λa y e=>?_,S.gens,S.os⟩
 ·by_cases ha:a=s.heap.objs.size
  ·subst ha;rw[zJ]at e;replace e:=z' e;subst e;exact hx
  ·rw[zE _ _ ha]at e;exact S'.own a y e
 ·by_cases ha:a=s.heap.objs.size
  ·subst ha;exact S.fresh0
  ·rw[zE _ _ ha]at e;exact S.new a y e
def FB.alloc (σ:MH) (h:y9) (o:Obj) (x:MO):FB σ (upd σ h.objs.size x) h<|h.push o:=
 ⟨λH H e H=>Heap.get?_push_of_some o e,λa o' e n=>by refine rq (zE _ _<|Z3<|Z2 e) ?_;exact n⟩
def FB.upd {h h':y9} {a:w_} {x:MO} (hs:BL a h h') (ha:(σ a).isSome=f'):FB σ (upd σ a x) h h':=by
 refine⟨λb o e n=>?_,λb o e n=>?_⟩
 ·have hb:b≠a:=by rintro C;rw[n]at ha;exact nB ha
  refine rq (hs.2 b hb) ?_;exact e
 ·have hb:b≠a:=by rintro C;rw[n]at ha;exact nB ha
  refine rq (zE _ _ hb) ?_;exact n
def St.upd (S:St G σ s) {h':y9} {a:w_} {x y:MO} {t:Q} (hs:BL a s.heap h') (ha:σ a=R y) (hx:zQ s.heap h'→Holds G h' a x):St G (upd σ a x) {s with heap:=h',toks:=t}:=by
 have te:=S.tupExt (FB.upd hs (by refine rq ha ?_;rfl):FB σ (Mine.Internal.upd σ a x) s.heap h')
 refine⟨λb o e=>?_,λb z e=>?_,λb z e=>?_,S.gens,S.os⟩
 ·have hb:b≠a:=by rintro C;rw[S.new _ _ ha]at e;exact nO e
  refine(?_:h'.get? b=_)
  refine rq (hs.2 b hb) ?_;exact S.keep b o e
 ·by_cases hb:b=a
  ·subst hb;rw[zJ]at e;replace e:=z' e;subst e;exact hx te
  ·rw[zE _ _ hb]at e
   exact(S.own b z e).ext te λo ho=>by refine rq (hs.2 b hb) ?_;exact ho
 ·by_cases hb:b=a
  ·subst hb;exact S.new _ _ ha
  ·rw[zE _ _ hb]at e;exact S.new b z e
abbrev Le (σ σ':MH):Prop:=∀a x,σ a=R x→σ' a=R x
def St.le {σ':MH} (S:St G σ s) (h:Le σ' σ):St G σ' s:=⟨S.keep,λa x e=>S.own a x<|h a x e,λa x e=>S.new a x<|h a x e,S.gens,S.os⟩
def FB.le {σ' σ'':MH} {h h':y9} (P:FB σ σ' h h') (l:Le σ'' σ'):FB σ σ'' h h':=⟨P.un,λa o e n=>by
 have:=P.dom a o e n
 induction q:σ'' a with
 |Z=>rfl
 |R x=>rw[l a x q]at this;contradiction⟩
def YR {z:MV} {τ:MH} {v:q4} {s':q7} (h:Fh G σ s (λm σ'=>m=z∧σ'=τ) v s') {G':Prop} (q:FP s'.heap v z→St G τ s'→FB σ τ s.heap s'.heap→G'):G':=Og h λm σ' a b c d=>by cases d.1;cases d.2;exact q a b c
end
mutual namespace A
structure Nl (A:Z6) (n:Q):Prop where
 hd:A.handled=Z
 dp:A.depth+2*n+1<DZ
 un:A.units+8*n+200<DL
nonrec abbrev Er:q4→q7→Prop:=λH H=>False
end
mutual section
variable {G:Gl} {A:Z6} {σ:MH} {s:q7} {k:MV→MH→Prop}
def zsu (a b:D Q):(E5 a++E5 b:Lf)=E5 (a++b):=by
 apply Lf.ext'
 refine(?_:(a.toArray++b.toArray)=(a++b).toArray)
 simp
def vd (a:D Q):(E5 a).length=a.length:=by refine(?_:a.toArray.size=_);simp
def zsv (a b:D Q):((E5 a).cps.toList==(E5 b).cps.toList)=decide (a=b):=by
 refine(?_:(a.toArray.toList==b.toArray.toList)=_)
 by_cases h:a=b<;>simp[h]
def zsw (a b:D Q):((E5 a).cps.toList !=(E5 b).cps.toList)=!decide (a=b):=by
 refine(?_:(!(a.toArray.toList==b.toArray.toList))=_)
 by_cases h:a=b<;>simp[h]
def oQ (a b:g'):(a==b)=decide (a=b):=by by_cases h:a=b<;>simp[h]
def zsx (a b:g'):(a !=b)=!decide (a=b):=by refine(?_:(!(a==b))=_);rw[oQ]
def JT (a b:D Q):((E5 a)==(E5 b))=decide (a=b):=by
 by_cases h:a=b
 ·simp[h]
 ·have:E5 a≠E5 b:=λe=>h (by have:=Li (λx=>x.cps.toList) e;simpa using this)
  simp[h,this]
def Vc {a b:g'} {t u:Tok} (S:St G σ s) (h:k (.int<|a+b) σ):q9 G.M A (Dq .Add (.int a t)<|.int b u) (Fh G σ s k) Er s:=wpAny_add_int<|Fh.same S (.int ..) h
def Vd {a b:g'} {t u:Tok} (S:St G σ s) (h:k (.int<|a -b) σ):q9 G.M A (Dq .Sub (.int a t)<|.int b u) (Fh G σ s k) Er s:=P.sub_int<|Fh.same S (.int ..) h
def Ve {a b:g'} {t u:Tok} (S:St G σ s) (hm:IntMulOk a b) (h:k (.int<|a*b) σ):q9 G.M A (Dq .Mult (.int a t)<|.int b u) (Fh G σ s k) Er s:=P.mul_int (Fh.same S (.int ..) h) hm
def Vf {a:g'} {t:Tok} (S:St G σ s) (h:k (.int<| -a) σ):q9 G.M A (unaryOp .USub<|.int a t) (Fh G σ s k) Er s:=P.neg_int<|Fh.same S (.int ..) h
def JU {a b:g'} {t u:Tok} (S:St G σ s) (h:k (.int<|a+b) σ):q9 G.M A (inplaceOp .Add (.int a t)<|.int b u) (Fh G σ s k) Er s:=wpAny_iadd_int<|Fh.same S (.int ..) h
def JV {a b:g'} {t u:Tok} (S:St G σ s) (h:k (.int<|a -b) σ):q9 G.M A (inplaceOp .Sub (.int a t)<|.int b u) (Fh G σ s k) Er s:=P.isub_int<|Fh.same S (.int ..) h
def Vg {a b:D Q} {t u:Tok} (S:St G σ s) (hs:a.length+b.length≤k7) (h:k (.str<|a++b) σ):q9 G.M A (Dq .Add (.str (E5 a) t)<|.str (E5 b) u) (Fh G σ s k) Er s:=by
 refine P.add_str ?_
 rw[vd,vd]
 by_cases ha:a.length=0
 ·have:a=[]:=J0 ha
  subst this
  refine rq (Lh<|by decide) ?_
  exact Fh.here S (.str ..) h
 ·by_cases hb:b.length=0
  ·have:b=[]:=J0 hb
   subst this
   (refine rq (Lj<|by simpa using ha) ?_;refine rq (Lh<|by decide) ?_)
   exact Fh.here S (.str ..)<|by simpa using h
  ·(refine rq (Lj<|by simpa using ha) ?_;refine rq (Lj<|by simpa using hb) ?_;rw[zsu])
   exact⟨by(rewrite [vd];refine rq q8 ?_);exact hs,Fh.same S (.str ..) h⟩
def YS {a b:g'} {t u:Tok} (S:St G σ s) (h:k (.bool<|decide (a=b)) σ):q9 G.M A (K3 .Eq (.int a t)<|.int b u) (Fh G σ s k) Er s:=P.eq_int<|by rw[oQ];exact Fh.here S (.bool _) h
def YT {a b:g'} {t u:Tok} (S:St G σ s) (h:k (.bool<|!decide (a=b)) σ):q9 G.M A (K3 .NotEq (.int a t)<|.int b u) (Fh G σ s k) Er s:=P.ne_int<|by rw[zsx];exact Fh.here S (.bool _) h
def YU {a b:g'} {t u:Tok} (S:St G σ s) (h:k (.bool<|decide (a<b)) σ):q9 G.M A (K3 .Lt (.int a t)<|.int b u) (Fh G σ s k) Er s:=P.lt_int<|Fh.here S (.bool _) h
def YV {a b:g'} {t u:Tok} (S:St G σ s) (h:k (.bool<|decide (a≤b)) σ):q9 G.M A (K3 .LtE (.int a t)<|.int b u) (Fh G σ s k) Er s:=P.le_int<|Fh.here S (.bool _) h
def YW {a b:g'} {t u:Tok} (S:St G σ s) (h:k (.bool<|decide (b<a)) σ):q9 G.M A (K3 .Gt (.int a t)<|.int b u) (Fh G σ s k) Er s:=P.gt_int<|Fh.here S (.bool _) h
def YX {a b:g'} {t u:Tok} (S:St G σ s) (h:k (.bool<|decide (b≤a)) σ):q9 G.M A (K3 .GtE (.int a t)<|.int b u) (Fh G σ s k) Er s:=P.ge_int<|Fh.here S (.bool _) h
def YY {a b:D Q} {t u:Tok} (S:St G σ s) (h:k (.bool<|decide (a=b)) σ):q9 G.M A (K3 .Eq (.str (E5 a) t)<|.str (E5 b) u) (Fh G σ s k) Er s:=P.eq_str<|Fh.here S (by rw[zsv];exact .bool _) h
def YZ {a b:D Q} {t u:Tok} (S:St G σ s) (h:k (.bool<|!decide (a=b)) σ):q9 G.M A (K3 .NotEq (.str (E5 a) t)<|.str (E5 b) u) (Fh G σ s k) Er s:=P.ne_str<|Fh.here S (by rw[zsw];exact .bool _) h
mutual
abbrev MV.dep:MV→Q
 | .tup l=>MV.depL l+1
 |_=>0
abbrev MV.depL:D MV→Q
 |[]=>0
 |m::l=>max (MV.dep m)<|MV.depL l
end
def iN:(MV.depL []=0)∧(∀(m:MV) (l:D MV),MV.depL (m::l)=max (MV.dep m) (MV.depL l)):=⟨C,λH H=>C⟩
mutual
abbrev MV.flat:MV→Ld
 | .tup l=>MV.flatL l
 | .ref _=>La
 |_=>f'
abbrev MV.flatL:D MV→Ld
 |[]=>f'
 |m::l=>MV.flat m&&MV.flatL l
end
def OM:(MV.flatL []=f')∧(∀(m:MV) (l:D MV),MV.flatL (m::l)=(MV.flat m&&MV.flatL l)):=⟨C,λH H=>C⟩
open SeqAt
def FJ.length {h:y9} {vs:D q4} {ms:D MV} (r:FJ h vs ms):vs.length=ms.length:=by
 induction ms generalizing vs with
 |nil=>refine rq r.nil_i ?_;rfl
 |cons m ms ih=>exact r.cons_i λv ws e H b=>by refine rq e ?_;exact Li Ed<|ih b
def FJ.get {h:y9} {vs:D q4} {ms:D MV} (r:FJ h vs ms) {i:Q} {m:MV} (e:ms[i]?=R m):∃v,vs[i]?=R v∧FP h v m:=by
 induction ms generalizing vs i with
 |nil=>exact nO e
 |cons m ms ih=>
  refine r.cons_i λv ws e1 a b=>?_
  refine rq e1 ?_
  induction i with
  |zero=>exact⟨v,C,z' e▸a⟩
  |succ i=>exact ih b e
def FJ.append {h:y9} {vs:D q4} {ms:D MV} {vs':D q4} {ms':D MV} (a:FJ h vs ms) (b:FJ h vs' ms'):FJ h (vs++vs')<|ms++ms':=by
 induction ms generalizing vs with
 |nil=>cases a.nil_i;exact b
 |cons m ms ih=>exact a.cons_i λv ws e r1 r2=>by clear a;subst e;exact .cons r1<|ih r2
def FJ.drop {h:y9} (n:Q) {vs:D q4} {ms:D MV} (a:FJ h vs ms):FJ h (vs.drop n)<|ms.drop n:=by
 induction n generalizing vs ms with
 |zero=>exact a
 |succ n ih=>
  induction ms with
  |nil=>cases a.nil_i;exact .nil
  |cons m ms=>exact a.cons_i λv ws e r1 r2=>by clear tail_ih a r1;subst e;exact ih r2
def FJ.take {h:y9} (n:Q) {vs:D q4} {ms:D MV} (a:FJ h vs ms):FJ h (vs.take n)<|ms.take n:=by
 induction n generalizing vs ms with
 |zero=>exact .nil
 |succ n ih=>
  induction ms with
  |nil=>cases a.nil_i;exact .nil
  |cons m ms=>exact a.cons_i λv ws e r1 r2=>by clear tail_ih a;subst e;exact .cons r1<|ih r2
def jq (n:Q):(j5 n).all (λH=>f')=f':=by simp
mutual
def Xa {s:q7}:∀(m:MV) {A:Z6} {v1 v2:q4},FP s.heap v1 m→FP s.heap v2 m→m.flat=f'→A.units+m.dep<DL→EqAt A s v1 v2 f'
 | .none,A,v1,v2,r1,r2,_,_=>by(refine rq r1.none_i ?_;refine rq r2.none_i ?_);exact EqAt.same _
 | .bool b,A,v1,v2,r1,r2,_,_=>by(refine rq r1.bool_i ?_;refine rq r2.bool_i ?_);exact EqAt.same _
 | .ref a,A,v1,v2,r1,r2,_,_=>by(refine rq r1.ref_i ?_;refine rq r2.ref_i ?_);exact EqAt.same _
 | .int i,A,v1,v2,r1,r2,_,_=>r1.int_i λt e1=>r2.int_i λu e2=>by(refine rq e1 ?_;refine rq e2 ?_);have:=EqAt.int_int (A:=A) (s:=s) i t i u;simpa using this
 | .str l,A,v1,v2,r1,r2,_,_=>r1.str_i λt e1=>r2.str_i λu e2=>by(refine rq e1 ?_;refine rq e2 ?_);have:=EqAt.str_str (A:=A) (s:=s) (E5 l) t (E5 l) u;simpa using this
 | .tup ms,A,v1,v2,r1,r2,hf,hu=>r1.tup_i λa vs e1 ha ra=>r2.tup_i λb ws e2 hb rb=>by
  clear r1;subst e1;clear r2;subst e2
  by_cases hab:a=b
  ·subst hab;exact EqAt.same _
  ·refine EqAt.of_refs hab ?_
   have:=RcAt.tuples (A:=A) (s:=s) (e:=λH=>f') ha.isTuple hb.isTuple (Z9 (Q8 ..) hu) λj Y T'=>jX ms ra rb hf (by refine(?_:A.units+1+_<_);exact cb (hu:A.units+(MV.depL ms+1)<DL)) j Y T'
   rw[jq]at this
   simpa[ra.length,rb.length]using this
def jX {s:q7}:∀(ms:D MV) {A:Z6} {vs ws:D q4},FJ s.heap vs ms→FJ s.heap ws ms→MV.flatL ms=f'→A.units+MV.depL ms<DL→
  ∀j (Y:j<vs.toArray.size) (T':j<ws.toArray.size),EqAt A s vs.toArray[j] ws.toArray[j] f'
 |[],A,vs,ws,r1,r2,_,_=>λj Y H=>by cases r1.nil_i;simp at Y
 |m::ms,A,vs,ws,r1,r2,hf,hu=>r1.cons_i λv vs' e1 a r=>r2.cons_i λw ws' e2 b q=>λj Y T'=>by
  clear r1;subst e1;clear r2;subst e2
  simp only[OM,V1]at hf
  have hu:A.units+max m.dep (MV.depL ms)<DL:=hu
  induction j with
  |zero=>exact Xa m a b hf.1<|ce hu
  |succ j=>
   have:=jX (A:=A) ms r q hf.2 (cg hu) j (by simpa using Y)<|by simpa using T'
   simpa using this
end
def Xb {l:D MV} {v1 v2:q4} (S:St G σ s) (r1:FP s.heap v1<|.tup l) (r2:FP s.heap v2<|.tup l) (hf:MV.flatL l=f') (hu:A.units+MV.depL l+1<DL) (h:k (.bool f') σ):
  q9 G.M A (K3 .Eq v1 v2) (Fh G σ s k) Er s:=by
 refine r1.tup_i λa vs e1 ha ra=>r2.tup_i λb ws e2 hb rb=>?_
 clear r1;subst e1;clear r2;subst e2
 refine eq_tupleAt (e:=λH=>f') ha.isTuple hb.isTuple (T0 hu) (λj Y T'=>jX _ ra rb hf (by refine(?_:A.units+1+_<_);exact T7 hu) j Y T') ?_
 rw[jq]
 have:(f'&&vs.toArray.size==ws.toArray.size)=f':=by simp[ra.length,rb.length]
 refine rq this ?_
 exact Fh.here S (.bool f') h
def Xc {l:D MV} {v1 v2:q4} (S:St G σ s) (r1:FP s.heap v1<|.tup l) (r2:FP s.heap v2<|.tup l) (hf:MV.flatL l=f') (hu:A.units+MV.depL l+1<DL) (h:k (.bool La) σ):
  q9 G.M A (K3 .NotEq v1 v2) (Fh G σ s k) Er s:=by
 refine r1.tup_i λa vs e1 ha ra=>r2.tup_i λb ws e2 hb rb=>?_
 clear r1;subst e1;clear r2;subst e2
 refine RcNeAt.tuples (e:=λH=>f') ha.isTuple hb.isTuple (T0 hu) (λj Y T'=>jX _ ra rb hf (by refine(?_:A.units+1+_<_);exact T7 hu) j Y T') G.prog G.w Er _ ?_
 rw[jq]
 have:(!(f'&&vs.toArray.size==ws.toArray.size))=La:=by simp[ra.length,rb.length]
 refine rq this ?_
 exact Fh.here S (.bool La) h
def Vh {l:D MV} {a b:w_} {vs ws:D q4} (S:St G σ s) (ha:NL s.heap a vs) (hb:NL s.heap b ws) (ra:FJ s.heap vs l) (rb:FJ s.heap ws l) (hf:MV.flatL l=f') (hu:A.units+MV.depL l+1<DL) (h:k (.bool f') σ):
  q9 G.M A (K3 .Eq (.ref a)<|.ref b) (Fh G σ s k) Er s:=by
 refine eq_listAt (e:=λH=>f') ha.isList hb.isList (by simp[ra.length,rb.length]) (T0 hu) (λj Y T'=>jX _ ra rb hf (by refine(?_:A.units+1+_<_);exact T7 hu) j Y T') ?_
 rw[jq]
 exact Fh.here S (.bool f') h
abbrev jD (a:D Q):D MV→Lc Ld
 |[]=>R La
 | .str b::l=>(jD a l).map (decide (b=a)|| ·)
 |_::_=>Z
set_option tactic.hygienic true in
def vI {h:y9} {a:D Q}:∀{ms:D MV} {vs:D q4} {b:Ld},FJ h vs ms→jD a ms=R b→
  (∀y∈vs,∃l t,y=.str (E5 l) t)∧vs.any (λv=>match v with| .str x _=>x==E5 a|_=>La)=b:=λ{ms}=>by
 induction ms with
 |nil=>
  intro vs b r e
  cases r.nil_i
  have e:=z' e;subst e
  exact⟨λy h=>(by cases h),C⟩
 |cons m ms ih=>
  intro vs b r e
  refine r.cons_i λv ws e1 r1 r2=>?_
  clear r;subst e1
  cases m<;>try (first|exact nO e|cases e)
  rename_i l
  refine qa (o:=jD a ms) e λb' e1 e2=>r1.str_i λt e3=>?_
  clear e r1;subst e3
  have i:=ih r2 e1
  refine⟨λy hy=>?_,?_⟩
  ·clear r2;cases hy with
   |head=>exact⟨l,t,C⟩
   |tail _ hy=>exact i.1 y hy
  ·(refine rq D.any_cons ?_;refine rq i.2 ?_;refine rp e2 ?_)
   simp only[JT]
def Vi {a:D Q} {t:Tok} {l:D MV} {v:q4} {b:Ld} (S:St G σ s) (r:FP s.heap v<|.tup l) (e:jD a l=R b) (h:k (.bool b) σ):
  q9 G.M A (K3 .In (.str (E5 a) t) v) (Fh G σ s k) Er s:=by
 refine r.tup_i λp vs e1 hp rp=>?_
 ·clear r;subst e1
  obtain⟨i1,i2⟩:=vI rp e
  refine in_tupleAt (λv=>match v with| .str x _=>x==E5 a|_=>La) hp.isTuple (λy hy=>?_) ?_
  ·clear e hp rp;obtain⟨l,t',C⟩:=i1 y<|by simpa using hy
   exact EqAt.str_str _ _ _ _
  ·rw[show vs.toArray.any _=b from by rw[C_];exact i2]
   exact Fh.here S (.bool b) h
def ZD {a:D Q} {t:Tok} {l:D MV} {v:q4} {b:Ld} (S:St G σ s) (r:FP s.heap v<|.tup l) (e:jD a l=R b) (h:k (.bool<|!b) σ):
  q9 G.M A (K3 .NotIn (.str (E5 a) t) v) (Fh G σ s k) Er s:=by
 refine r.tup_i λp vs e1 hp rp=>?_
 ·clear r;subst e1
  obtain⟨i1,i2⟩:=vI rp e
  refine notIn_tupleAt (λv=>match v with| .str x _=>x==E5 a|_=>La) hp.isTuple (λy hy=>?_) ?_
  ·clear e hp rp;obtain⟨l,t',C⟩:=i1 y<|by simpa using hy
   exact EqAt.str_str _ _ _ _
  ·rw[show vs.toArray.any _=b from by rw[C_];exact i2]
   exact Fh.here S (.bool _) h
def Xd {c:Q} {t u:Tok} {x:D Q} (S:St G σ s) (h:k (.bool<|decide (c∈x)) σ):
  q9 G.M A (K3 .In (.str (E5 [c]) t)<|.str (E5 x) u) (Fh G σ s k) Er s:=by
 refine P.in_str ?_
 have:=StrLaws.found_one (E5 x) c
 (refine rq (C:(E5 [c]:Lf)=⟨(D.toArray [c])⟩) ?_;refine rq this ?_)
 exact Fh.here S (.bool _)<|by simpa using h
end
mutual section
variable {G:Gl} {A:Z6} {σ:MH} {s:q7} {k:MV→MH→Prop}
def qR (l:D q4):l.toArray.size=l.length:=by simp
def Vj {l m:D MV} {v1 v2:q4} (S:St G σ s) (r1:FP s.heap v1<|.tup l) (r2:FP s.heap v2<|.tup m) (hz:l.length+m.length≤k7) (h:k (.tup<|l++m) σ):
  q9 G.M A (Dq .Add v1 v2) (Fh G σ s k) Er s:=by
 refine r1.tup_i λa vs e1 ha ra=>r2.tup_i λb ws e2 hb rb=>?_
 clear r1;subst e1;clear r2;subst e2
 obtain⟨n,ha'⟩:=id ha
 obtain⟨n2,hb'⟩:=id hb
 by_cases e1:vs=[]
 ·subst e1
  cases J0 ra.length.symm
  refine concat_meets (w:=G.w) ⟨_,ha',C⟩ ⟨_,hb',C⟩ noFill_tuple_add seq_tuple_add F.slot_tuple_add F.entry_tuple_add (EV _ _) (AutoSeq1.tuple___add___tuple_tuple_0 a _ n b _ n2 C) ⟨ha',hb',?_⟩
  exact Fh.here S (.tup b ws m hb rb) h
 ·by_cases e2:ws=[]
  ·clear hb;subst e2
   cases J0 rb.length.symm
   refine concat_meets (w:=G.w) ⟨_,ha',C⟩ ⟨_,hb',C⟩ noFill_tuple_add seq_tuple_add F.slot_tuple_add F.entry_tuple_add (EV _ _) (AutoSeq1.tuple___add___tuple_tuple_1 a _ n b _ n2 (by simpa using e1) C) ⟨ha',hb',?_⟩
   exact Fh.here S (.tup a vs l ha ra)<|by simpa using h
  ·refine P.add_tuple ha' hb' (by simpa using e1) (by simpa using e2) ?_ (by(rewrite [qR,qR];refine rq ra.length ?_;refine rq rb.length ?_);exact hz:vs.toArray.size+ws.toArray.size≤k7)
   refine⟨.tup<|l++m,σ,.tup _ (vs++ws) _ ⟨0,?_⟩<|(ra.append rb).ext (zj _ _),S.push _,FB.push _ _ _,h⟩
   refine rq (Heap.get?_push_size _ C) ?_
   simp[ZC]
def ZE {n:Q} {i:g'} {j:Q} (e:BG i n=R j) (hn:n<2^62):-2^63≤i∧i<2^63∧j<n∧(0≤i∧(j:g')=i∨i<0∧(j:g')=i+n):=by
 unfold BG at e
 dsimp only at e
 by_cases h0:i<0
 ·simp only[h0,if_true]at e
  by_cases h:(decide (0≤i+(n:g'))&&decide (i+(n:g')<n))=f'
  ·rw[Lh h]at e
   simp only[V1,decide_eq_true_eq]at h
   exact ub (z' e) h hn
  ·rw[Lj h]at e;exact nO e
 ·simp only[h0,if_false]at e
  by_cases h:(decide (0≤i)&&decide (i<(n:g')))=f'
  ·rw[Lh h]at e
   simp only[V1,decide_eq_true_eq]at h
   exact uc h hn<|z' e
  ·rw[Lj h]at e;exact nO e
def Vk {l:D MV} {v:q4} {i:g'} {t:Tok} {j:Q} {m:MV} (S:St G σ s) (r:FP s.heap v<|.tup l) (hz:l.length<2^62) (e:BG i l.length=R j) (em:l[j]?=R m) (h:k m σ):
  q9 G.M A (BX v<|.int i t) (Fh G σ s k) Er s:=by
 refine r.tup_i λa vs e1 ha ra=>?_
 ·clear r;subst e1
  obtain⟨n,ha'⟩:=id ha
  obtain⟨y,hy,ry⟩:=ra.get em
  obtain⟨b1,b2,_,_⟩:=ZE e hz
  refine P.getItem_tuple ha' b1 b2 (k:=j) (by(rewrite [qR];refine rq ra.length ?_);exact e) (y:=y) (by simpa using hy) ?_
  exact Fh.here S ry h
def JW {l:D MV} {a:w_} {i:g'} {t:Tok} {j:Q} {m:MV} (S:St G σ s) (o:σ a=R (.list l)) (hz:l.length<2^62) (e:BG i l.length=R j) (em:l[j]?=R m) (h:k m σ):
  q9 G.M A (BX (.ref a)<|.int i t) (Fh G σ s k) Er s:=by
 obtain⟨vs,⟨n,ha⟩,ra⟩:=S.own _ _ o
 obtain⟨y,hy,ry⟩:=ra.get em
 obtain⟨b1,b2,b3,b4⟩:=ZE e hz
 have hy':vs.toArray[j]?=R y:=by simpa using hy
 rcases b4 with⟨h0,hj⟩|⟨h0,hj⟩
 ·refine wpAny_getItem_list (NL.isList ⟨n,ha⟩) h0 b2 (by refine rq (zlw hj:i.toNat=j) ?_;exact hy') ?_
  exact Fh.here S ry h
 ·refine wpAny_getItem_list_neg (x:=y) (NL.isList ⟨n,ha⟩) h0 ?_ b1 ?_ ?_
  ·(rewrite [qR];refine rq ra.length ?_);exact ud hj
  ·(rewrite [qR];refine rq ra.length ?_;refine rq (zly hj:(i+(l.length:g')).toNat=j) ?_);exact hy'
  ·exact Fh.here S ry h
def Vl {l:D MV} {v:q4} (S:St G σ s) (r:FP s.heap v<|.tup l) (hz:l.length<2^62) (h:k (.int l.length) σ):q9 G.M A (call (.builtin s!"len") [v]) (Fh G σ s k) Er s:=by
 refine r.tup_i λa vs e1 ha ra=>?_
 ·clear r;subst e1
  obtain⟨n,ha'⟩:=id ha
  refine P.len_tuple ha' (by(rewrite [qR];refine rq ra.length ?_);exact oj hz) ?_
  refine Fh.same S (m:=.int l.length) (by(rewrite [qR];refine rq ra.length ?_);exact .int _ _) h
def JX {l:D MV} {a:w_} (S:St G σ s) (o:σ a=R (.list l)) (hz:l.length<2^62) (h:k (.int l.length) σ):q9 G.M A (call (.builtin s!"len") [.ref a]) (Fh G σ s k) Er s:=by
 obtain⟨vs,ha,ra⟩:=S.own _ _ o
 refine Calls.call_len_list ha.isList (by(rewrite [qR];refine rq ra.length ?_);exact ue hz) ?_
 exact Fh.same S (m:=.int l.length) (by(rewrite [qR];refine rq ra.length ?_);exact .int _ _) h
def Vm {l:D Q} {t:Tok} (S:St G σ s) (hz:l.length<2^62) (h:k (.int l.length) σ):q9 G.M A (call (.builtin s!"len") [.str (E5 l) t]) (Fh G σ s k) Er s:=by
 refine P.len_str (by rw[vd];exact oj hz) ?_
 exact Fh.same S (m:=.int l.length) (by rw[vd];exact .int _ _) h
abbrev zW (i:g'):D Q:=(Y1<|toString i).cps.toList
def KS (i:g'):E5 (zW i)=Y1 (toString i):=by
 apply Lf.ext';simp[zW]
def Vn {l:D Q} {t:Tok} (S:St G σ s) (h:k (.str l) σ):q9 G.M A (call (.type s!"str") [.str (E5 l) t]) (Fh G σ s k) Er s:=P.str_of_str<|Fh.here S (.str ..) h
def Vo {i:g'} {t:Tok} (S:St G σ s) (hi:i.natAbs<2^1000) (h:k (.str<|zW i) σ):q9 G.M A (call (.type s!"str") [.int i t]) (Fh G σ s k) Er s:=by
 refine P.str_of_int ?_ ?_
 ·by_cases h0:i.natAbs=0
  ·refine rq h0 ?_;decide
  ·exact v_ ((Q.log2_lt h0).mpr hi)<|by decide
 ·exact Fh.same S (m:=.str<|zW i) (by rw[←KS];exact .str ..) h
def Vp {l:D Q} {t:Tok} {i:g'} (S:St G σ s) (h0:0≤i) (Y:i<10^10) (e:l=zW i) (h:k (.int i) σ):q9 G.M A (call (.type s!"int") [.str (E5 l) t]) (Fh G σ s k) Er s:=by
 subst e
 rw[KS]
 exact KIN.call_num h0 Y<|Fh.same S (.int ..) h
def ZF {l:D MV} {a:w_} (S:St G σ s) (o:σ a=R (.list l)) (hz:l.length≤k7) (h:k (.tup l) σ):q9 G.M A (call (.type s!"tuple") [.ref a]) (Fh G σ s k) Er s:=by
 obtain⟨vs,ha,ra⟩:=S.own _ _ o
 refine call_tuple_list ha.isList (λh' hk=>?_)<|by(rewrite [qR];refine rq ra.length ?_);exact hz
 have S':St G σ {s with heap:=h'}:=S.ext (t:=s.toks) hk
 refine⟨.tup l,σ,.tup _ vs l ⟨0,Heap.get?_push_size _ C⟩ ?_,S'.push _,?_,h⟩
 ·exact ra.ext λb ws T=>let ⟨n,e⟩:=T;⟨n,Heap.get?_push_of_some _<|hk _ _ e⟩
 ·exact FB.ext λb o' e=>Heap.get?_push_of_some _<|hk _ _ e
def Qo {vs:D q4} {ms:D MV} {a:w_} (S:St G σ s) (ha:NL s.heap a vs) (ra:FJ s.heap vs ms) (hz:ms.length≤k7) (h:∀a,σ a=Z→G.h0.get? a=Z→k (.ref a) (upd σ a<|.list ms)):
  q9 G.M A (call (.type s!"list") [.ref a]) (Fh G σ s k) Er s:=by
 obtain⟨n,ha'⟩:=id ha
 refine call_list_seq a (T:=s!"list") (.inl C) ha' C C (λh' c hk hl=>?_)<|by(rewrite [qR];refine rq ra.length ?_);exact hz
 refine⟨.ref _,upd σ s.heap.objs.size<|.list ms,.ref _,?_,?_,h _ S.fresh S.fresh0⟩
 ·have S':St G σ {s with heap:=h'}:=S.ext (t:=s.toks) hk
  refine⟨S'.keep,λb y e=>?_,λb y e=>?_,S'.gens,S'.os⟩
  ·by_cases hb:b=s.heap.objs.size
   ·clear ha ha';subst hb;rw[zJ]at e;replace e:=z' e;clear hz h;subst e;exact⟨vs,⟨c,hl⟩,ra.ext (λb ws T=>let ⟨n,e⟩:=T;⟨n,hk _ _ e⟩:zQ s.heap h')⟩
   ·rw[zE _ _ hb]at e;exact S'.own b y e
  ·by_cases hb:b=s.heap.objs.size
   ·clear ra hl S' ha ha';subst hb;exact S.fresh0
   ·rw[zE _ _ hb]at e;exact S.new b y e
 ·exact⟨λb o' e H=>hk _ _ e,λb o' e q=>by refine rq (zE _ _<|Z3<|Z2 e) ?_;exact q⟩
def zpr {a b:g'} {t u:Tok} (S:St G σ s) (hh:A.handled=Z) (h:k (.int<|min a b) σ):q9 G.M A (call (.builtin s!"min") [.int a t,.int b u]) (Fh G σ s k) Er s:=by
 refine min_two_ints hh λh' tk hk=>?_
 refine⟨.int<|min a b,σ,?_,S.ext hk,FB.ext hk,h⟩
 by_cases hb:b<a
 ·(refine rq (Lh hb) ?_;refine rq (zl0 hb:min a b=b) ?_);exact .int ..
 ·(refine rq (Lj hb) ?_;refine rq (zl1 hb:min a b=a) ?_);exact .int ..
abbrev isTup:MV→MH→Lc Ld
 | .tup _,_=>R f'
 | .ref _,_=>Z
 |_,_=>R La
def Vq {m:MV} {v:q4} {b:Ld} (S:St G σ s) (r:FP s.heap v m) (e:isTup m σ=R b) (h:k (.bool b) σ):q9 G.M A (call (.builtin s!"isinstance") [v,.type s!"tuple"]) (Fh G σ s k) Er s:=by
 revert e
 exact r.cs (P:=λv m=>isTup m σ=R b→q9 G.M A (call (.builtin s!"isinstance") [v,.type s!"tuple"]) (Fh G σ s k) Er s) (λe=>by replace e:=z' e;subst e;exact IsiPair.NoneType_tuple<|Fh.same S (.bool _) h) (λH e=>by replace e:=z' e;subst e;exact IsiPair.bool_tuple<|Fh.same S (.bool _) h) (λH H e=>by replace e:=z' e;subst e;exact IsiPair.int_tuple<|Fh.same S (.bool _) h)
  (λH H e=>by replace e:=z' e;subst e;exact IsiPair.str_tuple<|Fh.same S (.bool _) h) (λa vs ms ht H e=>by replace e:=z' e;subst e;exact ht.elim λn ht=>IsiPair.tuple_tuple ht C<|Fh.here S (.bool _) h) (λH e=>nO e)
def oU (y x:D Q):(x.take y.length==y)=decide (y<+:x):=by
 by_cases h:y<+:x
 ·refine rq (Ll h) ?_
  obtain⟨t,C⟩:=h
  simp
 ·refine rq (Lk h) ?_
  have:x.take y.length≠y:=λe=>h<|D.prefix_iff_eq_take.mpr e.symm
  simpa using this
def zpt (x y:D Q):Txt.startswith (E5 x) (E5 y)=decide (y<+:x):=by
 unfold Txt.startswith
 rw[Ec,vd,vd]
 simp only[Bn]
 rw[oU]
 by_cases h:y<+:x
 ·have:=h.length_le
  simp[h,this]
 ·simp[h]
def ZG {x y:D Q} {t u:Tok} (S:St G σ s) (h:k (.bool<|decide (y<+:x)) σ):q9 G.M A (call (.builtin s!"str.startswith") [.str (E5 x) t,.str (E5 y) u]) (Fh G σ s k) Er s:=
 SC.startswith (by rw[zpt];exact Fh.here S (.bool _) h)
def zig (x y:D Q) (i:Q) (hi:i≤x.length):Txt.startswith3 (E5 x) (E5 y) i=decide (y<+:x.drop i):=by
 unfold Txt.startswith3
 have hf:fromIndex (E5 x).length (i:g')=i:=by unfold fromIndex;refine rq (Lj xN) ?_;exact uf
 (refine rq hf ?_;rw[Ec,vd,vd])
 simp only[]
 rw[oU]
 by_cases h:y<+:x.drop i
 ·have:=h.length_le
  rw[V9]at this
  have T':i+y.length≤x.length:=by exact ug this hi
  simp[h,T']
 ·simp[h]
def xO {x y:D Q} {i:Q} {t u v:Tok} (S:St G σ s) (hi:i≤x.length) (h:k (.bool<|decide (y<+:x.drop i)) σ):
  q9 G.M A (call (.builtin s!"str.startswith") [.str (E5 x) t,.str (E5 y) u,.int i v]) (Fh G σ s k) Er s:=
 SC.startswith3 (by refine rq (zig _ _ _ hi) ?_;exact Fh.here S (.bool _) h)
def wI {h:y9} {a:w_} {vs ws:D q4} {n:Q} {f:Array q4→Array q4} (e:h.get? a=R (vc vs n)) (hf:f vs.toArray=ws.toArray):NL (h.update a<|DI f) a ws:=by
 refine⟨if(f vs.toArray).size==vs.toArray.size then n else n+1,?_⟩
 refine rq (Heap.get?_update_self _ e C) ?_
 refine(?_:R ({cls:=.type s!"list",data:=.seq (f vs.toArray) _}:Obj)=_)
 refine rq hf ?_
 rfl
def Qp {l:D MV} {a:w_} {v:q4} {m:MV} (S:St G σ s) (o:σ a=R (.list l)) (r:FP s.heap v m) (hz:l.length≤k7) (h:k .none<|upd σ a<|.list<|l++[m]):
  q9 G.M A (call (.builtin s!"list.append") [.ref a,v]) (Fh G σ s k) Er s:=by
 obtain⟨vs,⟨n,ha⟩,ra⟩:=S.own _ _ o
 refine D3 (w:=G.w) slot_list_append ⟨_,ha,C⟩ entry_list_append (args_list_append _ _) (list_append a vs.toArray n v<|by(rewrite [qR];refine rq ra.length ?_);exact hz) ⟨ha,?_⟩
 have hs:=Bv s.heap a<|DI λx=>x.push v
 refine⟨.none,_,.none,S.upd (x:=.list<|l++[m]) hs o λte=>⟨vs++[v],wI ha (by simp),?_⟩,FB.upd hs (by refine rq o ?_;rfl),h⟩
 exact(ra.append #[r]).ext te
def zpu {l:D MV} {a:w_} {m:MV} (S:St G σ s) (o:σ a=R (.list<|l++[m])) (hz:l.length<k7) (h:k m<|upd σ a<|.list l):
  q9 G.M A (call (.builtin s!"list.pop") [.ref a]) (Fh G σ s k) Er s:=by
 obtain⟨vs,⟨n,ha⟩,ra⟩:=S.own _ _ o
 have hl:=ra.length
 rw[q8]at hl
 obtain⟨y,hy,ry⟩:=ra.get (i:=l.length) (m:=m)<|by simp
 have hvs:vs=vs.take l.length++[y]:=by
  have Y:=D.take_append_drop l.length vs
  have T':vs.drop l.length=[y]:=by
   have h3:(vs.drop l.length).length=1:=by refine rq V9 ?_;simp at hl;exact uh hl
   have h4:(vs.drop l.length)[0]?=R y:=by refine rq (D.getElem?_drop) ?_;simpa using hy
   match hd:vs.drop l.length with
   |[]=>rw[hd]at h3;simp at h3
   |[z]=>rw[hd]at h4;simp at h4;exact rq h4 C
   |_::_::_=>rw[hd]at h3;simp at h3
  rw[T']at Y;exact Y.symm
 have hsz:vs.toArray.size=l.length+1:=by rw[qR];simpa using hl
 refine D3 (w:=G.w) F.slot_list_pop ⟨_,ha,C⟩ F.entry_list_pop (F.args_list_pop_1 _) (MeetsSeq.list_pop_last a vs.toArray n y (by refine rq hsz ?_;simpa using hy)<|by refine rq hsz ?_;exact T8 hz) ⟨ha,?_⟩
 have hs:=Bv s.heap a<|DI λxs=>xs.eraseIdxIfInBounds (vs.toArray.size -1)
 have rt:FJ s.heap (vs.take l.length) l:=by
  have:=ra.take l.length
  simpa using this
 have te:=S.tupExt<|FB.upd (σ:=σ) (x:=.list l) hs<|by refine rq o ?_;rfl
 refine⟨m,_,ry.ext te,S.upd (x:=.list l) hs o λte=>⟨vs.take l.length,wI ha ?_,rt.ext te⟩,FB.upd hs (by refine rq o ?_;rfl),h⟩
 have hk:=kl_erase (vs.take l.length) [] y
 have hlen:(vs.take l.length).length=l.length:=rt.length
 rw[hlen,←hvs]at hk
 refine rq hsz ?_
 simpa using hk
def Xe {l m:D MV} {a b:w_} (S:St G σ s) (o:σ a=R (.list l)) (ob:σ b=R (.list m)) (hz:l.length+m.length≤1000000) (h:k .none<|upd σ a<|.list<|l++m):
  q9 G.M A (call (.builtin s!"list.extend") [.ref a,.ref b]) (Fh G σ s k) Er s:=by
 obtain⟨vs,⟨n,ha⟩,ra⟩:=S.own _ _ o
 obtain⟨ws,⟨n2,hb⟩,rb⟩:=S.own _ _ ob
 have e1:vs.toArray.size=l.length:=by(rewrite [qR];exact rq ra.length C)
 have e2:ws.toArray.size=m.length:=by(rewrite [qR];exact rq rb.length C)
 refine D3 (w:=G.w) F.slot_list_extend ⟨_,ha,C⟩ F.entry_list_extend (F.args_list_extend_2 _ _) (AutoSeq1.list_extend_list_list_0 a vs.toArray n b ws.toArray n2 ?_ ?_ ?_) ⟨ha,hb,?_⟩
 ·(refine rq e1 ?_;refine rq e2 ?_)
  have:CW (l.length+m.length)=La:=by
   unfold CW
   simp[k7];exact oh hz omT
  simp[this]
 ·refine rq e1 ?_;simp[k7];exact iB hz omT
 ·(refine rq e1 ?_;refine rq e2 ?_);simp[k7];exact oh hz omT
 have hs:=Bv s.heap a<|DI λx=>x++ws.toArray
 refine⟨.none,_,.none,S.upd (x:=.list<|l++m) hs o λte=>⟨vs++ws,wI ha (by simp),?_⟩,FB.upd hs (by refine rq o ?_;rfl),h⟩
 exact(ra.append rb).ext te
abbrev jz (sep:D Q):D (D Q)→D Q
 |[]=>[]
 |[x]=>x
 |x::y::r=>x++sep++jz sep (y::r)
def MR:(∀(sep:D Q),jz sep []=[])∧(∀(sep x_1:D Q),jz sep [x_1]=x_1)∧(∀(sep x_1 y:D Q) (r:D<|D Q),jz sep (x_1::y::r)=x_1++sep++jz sep (y::r)):=⟨λH=>C,λH H=>C,λH H H H=>C⟩
abbrev Il:D MV→Lc (D<|D Q)
 |[]=>R []
 | .str x::r=>(Il r).map (x:: ·)
 |_::_=>Z
set_option tactic.hygienic true in
def yb {h:y9} {ms:D MV}:∀{vs:D q4} {xs:D<|D Q},FJ h vs ms→Il ms=R xs→∃l:D<|Lf×Tok,vs=strValues l∧l.map (·.1)=xs.map E5:=by
 induction ms with
 |nil=>intro vs xs r e;cases r.nil_i;replace e:=z' e;subst e;exact⟨[],C,C⟩
 |cons m ms ih=>
  intro vs xs r e
  refine r.cons_i λv ws e1 r1 r2=>?_
  clear r;subst e1
  cases m<;>try (first|exact nO e|cases e)
  rename_i x
  refine qa (o:=Il ms) e λxs' e1 e2=>r1.str_i λt e3=>?_
  clear e r1;subst e3
  refine E7 (ih r2 e1) λl e4 e5=>?_
  exact⟨(E5 x,t)::l,by refine rq e4 ?_;rfl,by refine rp e2 ?_;simp[e5]⟩
def yH (sep:Lf):∀(xs:D Lf) (acc:Array Q),(xs.foldl (λacc p=>acc++sep.cps++p.cps) acc).toList=acc.toList++xs.flatMap (λp=>sep.cps.toList++p.cps.toList)
 |[],acc=>by simp
 |x::xs,acc=>by(refine rq ET ?_;rw[yH sep xs]);simp[j3]
def yI (sep:D Q):∀(x:D Q) (xs:D<|D Q),jz sep (x::xs)=x++xs.flatMap (λp=>sep++p)
 |x,[]=>by simp[MR]
 |x,y::r=>by(rewrite [jz];refine rq (yI sep y r) ?_);simp[j3]
def KT (sep:D Q) (xs:D<|D Q):Txt.join (E5 sep) (xs.map E5)=E5 (jz sep xs):=by
 unfold Txt.join Builtin.Str.glued
 apply Lf.ext'
 induction xs with
 |nil=>rfl
 |cons x xs=>
  apply Array.toList_inj.mp
  simp only[w5,CK,Bn,D.headD_cons]
  rw[yH,yI]
  simp[D.flatMap_map]
def vJ (sep:Q):∀(xs:D Lf) (n:Q),xs.foldl (λa p=>a+p.length+sep) n=n+(xs.map λp=>p.length+sep).sum
 |[],n=>by simp
 |x::xs,n=>by(refine rq ET ?_;rw[vJ sep xs]);simp;exact(@Ug _ _ _ _)
def zih {sep:D Q} {t:Tok} {a:w_} {ms:D MV} {xs:D<|D Q} (S:St G σ s) (o:σ a=R (.list ms)) (e:Il ms=R xs) (hz:(xs.map λp=>p.length+sep.length).sum≤k7)
  (h:k (.str<|jz sep xs) σ):q9 G.M A (call (.builtin s!"str.join") [.str (E5 sep) t,.ref a]) (Fh G σ s k) Er s:=by
 obtain⟨vs,ha,ra⟩:=S.own _ _ o
 clear o;obtain⟨l,C,e2⟩:=yb ra e
 refine SC.join ha.isList e2 ?_ λt' tk=>?_
 ·unfold JoinOk DC
  rw[Eh,vJ]
  simp only[DV,W8,decide_eq_false_iff_not,Y3,gt_iff_lt]
  have:(CS ((λp=>Lf.length p+(E5 sep).length)∘E5) xs)=xs.map λp=>p.length+sep.length:=by
   apply Eg;intro x _;simp[vd]
  refine rq this ?_;exact Td hz
  ·rfl
 ·rw[KT];exact Fh.same S (.str ..) h
abbrev Hn {α:Type} (l:D α) (lo hi:Lc Q):D α:=(l.take<|hi.getD l.length).drop<|lo.getD 0
def ZH {α:Type} (x:D α) (a b:Q):(x.drop<|min a x.length).take (min b x.length -min a x.length)=(x.take b).drop a:=by
 by_cases ha:a≤x.length
 ·rw[V4 ha]
  by_cases hb:b≤x.length
  ·rw[V4 hb,Cw]
  ·rw[BB<|Bc hb,Ch<|Bc hb,Ch<|by rw[V9];exact j2 _]
 ·rw[BB<|Bc ha,J6<|j2 _,D.take_nil,J6<|q0 (D.length_take_le' ..)<|Bc ha]
inductive Gz:q4→Lc Q→Prop where
 |Z:Gz .none Z
 |int (n:Q) (t:Tok):Gz (.int n t)<|R n
abbrev RQ:Lc Q→Tok→Lc (g'×Tok)
 |Z,_=>Z
 |R n,t=>R ((n:g'),t)
def Gz.val {v:q4} {p:Lc Q} (h:Gz v p):∃t,v=partValue (RQ p t):=by
 induction h with
 |Z=>exact⟨0,C⟩
 |int n t=>exact⟨t,C⟩
def mC (a n:Q):min (a:g') n=((min a n:Q):g'):=(Lean.Omega.Int.ofNat_min a n).symm
def wJ (a b n:Q):w9 (R (a:g')) (R (b:g')) 1 n=sliceRange ((min a n:Q):g') ((min b n:Q):g') 1:=by
 simp only[w9,show((1:g')>0)=True from by simp,if_true]
 (refine rq (Lj xN) ?_;refine rq (Lj xN) ?_;rewrite [mC,mC];refine rq (Dh<|Q3 _) ?_;exact rq (Dh<|Q3 _) C)
def Xf (lo hi:Lc Q) (n:Q):w9 (lo.map J3) (hi.map J3) 1 n=
  w9 (R ((min (lo.getD 0) n:Q):g')) (R ((min (hi.getD n) n:Q):g')) 1 n:=by
 have z:w9 (lo.map J3) (hi.map J3) 1 n=w9 (R ((lo.getD 0:Q):g')) (R ((hi.getD n:Q):g')) 1 n:=by
  induction lo with
  |Z=>
   induction hi with
   |Z=>refine(?_:w9 Z Z 1 n=_);rw[Dr,Ds];rfl
   |R b=>refine(?_:w9 Z _ 1 n=_);rw[Dr];rfl
  |R a=>
   induction hi with
   |Z=>refine(?_:w9 _ Z 1 n=_);rw[Ds];rfl
   |R b=>rfl
 (refine rq z ?_;rw[wJ,wJ,Q.min_assoc,D6,Q.min_assoc,D6])
def yJ {a b n:Q} (h:min b n<min a n):w9 (R (a:g')) (R (b:g')) 1 n=[]:=by
 rw[wJ]
 unfold sliceRange
 simp only[show((1:g')>0)=True from by simp,if_true]
 refine rq (Lj<|ui h) ?_
 rfl
def Qq (x:D Q) (lo hi:Lc Q):(w9 (lo.map J3) (hi.map J3) 1 (E5 x).length).filterMap ((E5 x).cps[·]?)=Hn x lo hi:=by
 rw[Xf,vd]
 have hx:(E5 x).length=x.length:=vd x
 by_cases h:min (lo.getD 0) x.length≤min (hi.getD x.length) x.length
 ·have:=DS (E5 x) h<|by refine rq hx ?_;exact lQ
  rw[hx]at this
  refine rq this ?_
  exact ZH x _ _
 ·refine rq (yJ<|YN h) ?_
  unfold Hn
  rw[J6]
  ·rfl
  ·refine rq X_ ?_;exact ol h
set_option tactic.hygienic true in
def Qr {x:D Q} {t:Tok} {a:w_} {vl vu:q4} {lo hi:Lc Q} (S:St G σ s) (hs:s.heap.get? a=R {cls:=.type s!"slice",data:=.fields<|D.toArray [vl,vu,.none]}) (pl:Gz vl lo) (pu:Gz vu hi)
  (hz:x.length≤k7) (h:k (.str<|Hn x lo hi) σ):q9 G.M A (BX (.str (E5 x) t)<|.ref a) (Fh G σ s k) Er s:=by
 obtain⟨t1,C⟩:=pl.val
 clear pl;obtain⟨t2,C⟩:=pu.val
 refine wpAny_getItem_str_slice (l:=RQ lo t1) (u:=RQ hi t2) (st:=Z) ⟨_,hs,C,C⟩ C ?_
 unfold sliceMade slicePicked
 have m1:(RQ lo t1).map (·.1)=lo.map J3:=by clear hs;induction lo<;>rfl
 have m2:(RQ hi t2).map (·.1)=hi.map J3:=by clear pu hs;induction hi<;>rfl
 (refine rq m1 ?_;refine rq m2 ?_)
 have pk:=Qq x lo hi
 simp only[EC,Es]at*
 split
 ·rename_i hw
  refine Fh.here S (m:=.str<|Hn x lo hi) ?_ h
  have:Hn x lo hi=x:=by
   refine rp pk ?_
   have hl:(w9 (lo.map J3) (hi.map J3) 1 (E5 x).length).length=(E5 x).length:=by simpa using hw
   rw[Xf]at hl⊢
   by_cases q:min (lo.getD 0) (E5 x).length≤min (hi.getD (E5 x).length) (E5 x).length
   ·refine rq (DS (E5 x) q lQ) ?_
    rw[StrLaws.strSliceIndices_plain q lQ]at hl
    have hl':min (hi.getD (E5 x).length) (E5 x).length -min (lo.getD 0) (E5 x).length=(E5 x).length:=by simpa using hl
    have e0:min (lo.getD 0) (E5 x).length=0:=by exact YQ hl'
    (refine rq e0 ?_;refine rq (zl6 hl':min (hi.getD (E5 x).length) (E5 x).length -0=(E5 x).length) ?_;rw[vd])
    simp
   ·rw[yJ<|YN q]at hl
    exact Lg hl<|Z3<|Z9 (Q4 _)<|v_ (YN q)<|K1 _ _
  refine rq this ?_
  exact .str ..
 ·refine rq pk ?_
  refine⟨?_,Fh.same S (.str ..) h⟩
  refine(?_:(Hn x lo hi).toArray.size≤k7)
  unfold Hn
  simp only[X3,V9,X_]
  exact om hz
def yc {v:q4} {p:Lc Q} (h:Gz v p):IsPart v<|p.map J3:=by
 induction h with
 |Z=>exact .none
 |int n t=>exact .int _ _
def xP (vs:D q4) (lo hi:Lc Q):slicePick vs.toArray (lo.map J3) (hi.map J3) Z=(Hn vs lo hi).toArray:=by
 rw[slicePick_plain]
 congr 1
 have e1:(lo.map J3).elim 0 (clipAt vs.toArray.size)=min (lo.getD 0) vs.length:=by
  induction lo with
  |Z=>simp
  |R a=>have:=clipAt_nat vs.toArray.size a;simpa using this
 have e2:(hi.map J3).elim vs.toArray.size (clipAt vs.toArray.size)=min (hi.getD vs.length) vs.length:=by
  induction hi with
  |Z=>simp
  |R b=>have:=clipAt_nat vs.toArray.size b;simpa using this
 (refine rq e1 ?_;refine rq e2 ?_)
 exact ZH vs _ _
def KU {α β:Type} {a b:α} {c d:β} (h:a=b) (k:c=d):(a,c)=(b,d):=h▸k▸C
def adj (lo hi:Lc Q) (n:Q):Builtin.Slice.sliceAdjust (lo.map J3) (hi.map J3) 1 (n:g')=(((min (lo.getD 0) n:Q):g'),((min (hi.getD n) n:Q):g')):=by
 have c:∀a:Q,(if(a:g')<0 then max ((a:g')+n) 0 else min (a:g') n)=((min a n:Q):g'):=λa=>(Lj xN).trans<|mC a n
 have z:((0:g'))=((min 0 n:Q):g'):=by rw[Q.zero_min];rfl
 have u:(n:g')=((min n n:Q):g'):=by rw[D6]
 induction lo with
 |Z=>
  induction hi with
  |Z=>exact KU z u
  |R b=>exact KU z<|c b
 |R a=>
  induction hi with
  |Z=>exact KU (c a) u
  |R b=>exact KU (c a)<|c b
def zii (a b:Q):CO (a:g') (b:g') 1=b -a:=by
 unfold CO
 by_cases h:(a:g')<b
 ·simp[h]
 ·simp[h];exact uj h
def Xg (vs:D q4) (lo hi:Lc Q):
  (j5<|(min (hi.getD vs.length) vs.length) -(min (lo.getD 0) vs.length)).filterMap (λ(k:Q)=>vs.toArray[(((min (lo.getD 0) vs.length:Q):g')+(k:g')*1).toNat]?)=Hn vs lo hi:=by
 have hf:(λ(k:Q)=>vs.toArray[(((min (lo.getD 0) vs.length:Q):g')+(k:g')*1).toNat]?)=(λj=>vs[j]?)∘(λk=>min (lo.getD 0) vs.length+k):=by
  funext k
  simp only[Function.comp,D.getElem?_toArray]
  congr 1
  exact uk
 (refine rq hf ?_;refine rp D.filterMap_map ?_)
 by_cases h:min (lo.getD 0) vs.length≤min (hi.getD vs.length) vs.length
 ·have:=StrLaws.picks vs (min (hi.getD vs.length) vs.length -min (lo.getD 0) vs.length) (min (lo.getD 0) vs.length) ul
  refine rq this ?_
  exact ZH vs _ _
 ·refine rq (zma h:min (hi.getD vs.length) vs.length -min (lo.getD 0) vs.length=0) ?_
  unfold Hn
  rw[J6]
  ·rfl
  ·refine rq X_ ?_;exact ol h
def JY {M:Model} {E:q4→q7→Prop} {v:q4} {p:Lc Q} {N':Lc g'→q7→Prop} (pl:Gz v p) (h:N' (p.map J3) s):q9 M A (Builtin.Slice.slicePartIndex v) N' E s:=by
 induction pl with
 |Z=>exact j4 h
 |int n t=>
  refine q6<|wpAny_specialOf (name:=Y1 s!"__index__") (typeIs_int s n t) F.slot_int_index.lookup ?_
  exact j4 h
def Vr {M:Model} {E:q4→q7→Prop} {a:w_} {vl vu:q4} {lo hi:Lc Q} {len:Q} {N':g'×g'×Q→q7→Prop} (hs:s.heap.get? a=R {cls:=.type s!"slice",data:=.fields<|D.toArray [vl,vu,.none]})
  (pl:Gz vl lo) (pu:Gz vu hi) (h:N' (((min (lo.getD 0) len:Q):g'),1,(min (hi.getD len) len) -(min (lo.getD 0) len)) s):q9 M A (Bw (.ref a)<|pure (len:g')) N' E s:=by
 unfold Bw Builtin.Slice.sliceFields
 refine q6<|q6<|EN (x:=vl) hs C C<|q6<|EN (x:=vu) hs C C<|q6<|EN (x:=.none) hs C C<|j4 ?_
 refine q6<|JY .none ?_
 refine q6<|JY pl<|q6<|JY pu<|q6<|j4 ?_
 have e:=adj lo hi len
 simp only[EC,Es]
 refine rq e ?_
 dsimp only
 rw[zii]
 exact j4 h
def ZI {h:y9} {a:w_} {v:Array q4} {g d t os} (e:h.get? a=R {cls:=.type s!"slice",data:=.fields v}):EQ ⟨h,g,d,t,os⟩ (.ref a) s!"slice":=⟨_,e,C⟩
set_option tactic.hygienic true in
def ve (x:w_) (vs:D q4) (n:Q) (a:w_) (vl vu:q4) (lo hi:Lc Q) (pl:Gz vl lo) (pu:Gz vu hi) (hz:vs.length≤k7):
  Meets (Builtin.«tuple.__getitem__» ⟨[.ref x,.ref a],[]⟩) (λH I' s=>s.heap.get? x=R (ZC vs n)∧s.heap.get? a=R {cls:=.type s!"slice",data:=.fields<|D.toArray [vl,vu,.none]}∧
   (∀(b:w_) (h':y9),Ic h' b (Hn vs lo hi)→(h'=s.heap∨∃o,h'=s.heap.push o)→I' (.ok<|.ret<|.ref b) {s with heap:=h'})):=by
 intro prog w A I' s hq
 obtain⟨hp,g,d,tk,os⟩:=s
 obtain⟨hx,ha,hq⟩:=hq
 refine(?_:q9 _ _ (do
  let xs ←CN (.ref x)
  if(←typeOf (.ref a))==.type s!"slice" then
   let (lo,step,n) ←Bw (.ref a) (pure xs.size)
   if lo==0&&step==1&&n==xs.size then
    if ←Builtin.Tuple.tupleIsExact (.ref x)then rule s!"tuple.getitem.whole";return ←ret (.ref x)
   return ←ret (←CQ ((j5 n).filterMap λ(k:Q)=>xs[(lo+(k:g')*step).toNat]?).toArray)
  _) _ _ _)
 refine q6 ?_
 unfold CN
 refine q6<|wpAny_seqItems hx C<|j4 ?_
 refine q6<|wpAny_typeOf (ZI ha) ?_
 refine rq (Lh<|by decide) ?_
 refine q6<|Vr ha pl pu ?_
 rw[qR]
 dsimp only
 rw[Xg]
 have fin:q9 (model prog w) A.in1 (do return ←ret (←CQ (Hn vs lo hi).toArray)) (λfin s'=>match fin with| .done f=>I' (.ok f) s'| .again c'=>c'.quiet=f'∧Y_ (model prog w) A c' I' s') (λe s'=>I' (.error e) s') ⟨hp,g,d,tk,os⟩:=by
  refine q6<|wpAny_newObj_type (q6<|j4 ?_) ?_
  ·exact j4<|hq _ _ ⟨0,Heap.get?_push_size _ C⟩<|.inr ⟨_,C⟩
  ·refine(?_:(Hn vs lo hi).toArray.size≤k7)
   unfold Hn
   simp only[X3,V9,X_]
   exact om hz
 split
 ·rename_i hw
  simp only[V1,beq_iff_eq]at hw
  refine q6<|q6<|wpAny_typeOf (T:=s!"tuple") ⟨_,hx,C⟩<|j4 ?_
  refine rq (Lh<|by decide) ?_
  refine q6<|wpAny_rule<|q6<|j4 ?_
  refine j4<|hq x hp ?_<|.inl C
  have:Hn vs lo hi=vs:=by
   unfold Hn
   refine rq Cw ?_
   obtain⟨⟨Y,_⟩,T'⟩:=hw
   by_cases hv:vs.length=0
   ·have:vs=[]:=J0 hv
    clear hz hq Y;subst this;simp
   ·have h0:lo.getD 0=0:=by exact um T' hv
    (refine rq h0 ?_;refine rq Bn ?_)
    apply Ch
    exact uo T'
  refine rq this ?_;exact⟨n,hx⟩
 ·exact fin
def Qs {l:D MV} {v:q4} {a:w_} {vl vu:q4} {lo hi:Lc Q} (S:St G σ s) (r:FP s.heap v<|.tup l) (hs:s.heap.get? a=R {cls:=.type s!"slice",data:=.fields<|D.toArray [vl,vu,.none]}) (pl:Gz vl lo) (pu:Gz vu hi)
  (hz:l.length≤k7) (h:k (.tup<|Hn l lo hi) σ):q9 G.M A (BX v<|.ref a) (Fh G σ s k) Er s:=by
 refine r.tup_i λx vs e hx rx=>?_
 ·clear r;subst e
  obtain⟨n,hx⟩:=hx
  refine getItem_meets (w:=G.w) ⟨_,hx,C⟩ (by decide) F.slot_tuple_getitem F.entry_tuple_getitem (F.args_tuple_getitem_2 _ _) (ve x vs n a vl vu lo hi pl pu<|by refine rq rx.length ?_;exact hz) ⟨hx,hs,λb h' hb hh=>?_⟩
  have rc:FJ s.heap (Hn vs lo hi)<|Hn l lo hi:=by
   unfold Hn
   refine rq rx.length ?_
   exact(rx.take _).drop _
  clear hs pl pu hz rx hx;rcases hh with C|⟨o,C⟩
  ·exact⟨.tup<|Hn l lo hi,σ,.tup b _ _ hb rc,S,FB.refl _ _,h⟩
  ·exact⟨.tup<|Hn l lo hi,σ,.tup b _ _ hb<|rc.ext<|zj _ _,S.push o,FB.push _ _ _,h⟩
abbrev zA (k:D Q):D (D Q×MV)→Lc MV
 |[]=>Z
 |(k',m)::l=>if k'=k then R m else zA k l
def oV:(∀(k:D Q),zA k []=Z)∧(∀(k k':D Q) (m:MV) (l:D<|D Q×MV),zA k ((k',m)::l)=if k'=k then R m else zA k l):=⟨λH=>C,λH H H H=>C⟩
abbrev qG (k:D Q) (m:MV):D (D Q×MV)→D (D Q×MV)
 |[]=>[(k,m)]
 |(k',m')::l=>if k'=k then(k',m)::l else(k',m')::qG k m l
def jY (k k':D Q) (t:Tok):(DM (E5 k') t).isStr (E5 k)=decide (k'=k):=by
 refine(?_:(E5 k'==E5 k)=_)
 rw[JT]
def wK {k k':D Q} {m:MV} {l:D<|D Q×MV} (h:k'=k):zA k ((k',m)::l)=R m:=Lh h
def kO {k k':D Q} {m:MV} {l:D<|D Q×MV} (h:¬k'=k):zA k ((k',m)::l)=zA k l:=Lj h
def Gy.ind {P:V6} {h:y9} {M:D J7→D (D Q×MV)→Prop} (n:M [] []) (c:∀k t v m es l,FP h v m→Gy P h es l→M es l→M (⟨K2 P<|E5 k,.str (E5 k) t,v⟩::es) ((k,m)::l)) {es:D J7} {l:D<|D Q×MV} (q:Gy P h es l):M es l:=
 F2.ind (P:=M) n (λe x es l p r i=>F4 p λt v e1 r1=>by clear p;subst e1;exact c x.1 t v x.2 es l r1 r i) q
def Gy.refKey {P:V6} {h:y9} {es:D J7} {l:D<|D Q×MV} (q:Gy P h es l):es.any (·.refKey)=La:=Gy.ind (M:=λes H=>es.any (·.refKey)=La) C (λH H H H H H H H i=>i) q
def Gy.find {P:V6} {h:y9} {k:D Q} {es:D J7} {l:D<|D Q×MV} (q:Gy P h es l):∀{m:MV},zA k l=R m→∃e,es.find? (·.key.isStr (E5 k))=R e∧FP h e.val m:=
 Gy.ind (M:=λes l=>∀{m:MV},zA k l=R m→∃e,es.find? (·.key.isStr (E5 k))=R e∧FP h e.val m) (λe=>nO e) (λk' t v m es l r H i m' e=>by
  by_cases hk:k'=k
  ·rw[wK hk]at e
   exact⟨_,D.find?_cons_of_pos (by rw[jY];exact Ll hk),z' e▸r⟩
  ·rw[kO hk]at e
   rw[D.find?_cons_of_neg<|by rw[jY];exact λh=>hk (Lm h)]
   exact i e) q
def Gy.find_none {P:V6} {h:y9} {k:D Q} {es:D J7} {l:D<|D Q×MV} (q:Gy P h es l):zA k l=Z→es.find? (·.key.isStr (E5 k))=Z:=
 Gy.ind (M:=λes l=>zA k l=Z→es.find? (·.key.isStr (E5 k))=Z) (λH=>C) (λk' t v m es l r H i e=>by
  by_cases hk:k'=k
  ·rw[wK hk]at e;contradiction
  ·rw[kO hk]at e
   rw[D.find?_cons_of_neg<|by rw[jY];exact λh=>hk (Lm h)]
   exact i e) q
def JZ {k k':D Q} {m m':MV} {l:D<|D Q×MV} (h:k'=k):qG k m ((k',m')::l)=(k',m)::l:=Lh h
def yK {k k':D Q} {m m':MV} {l:D<|D Q×MV} (h:¬k'=k):qG k m ((k',m')::l)=(k',m')::qG k m l:=Lj h
def Gy.cons {P:V6} {h:y9} {k:D Q} {t:Tok} {v:q4} {m:MV} {es:D J7} {l:D<|D Q×MV} (r:FP h v m) (q:Gy P h es l):Gy P h (⟨K2 P<|E5 k,.str (E5 k) t,v⟩::es)<|(k,m)::l:=F2.cons ⟨t,v,C,r⟩ q
def Gy.put {P:V6} {h:y9} {k:D Q} {t:Tok} {v:q4} {m:MV} (rv:FP h v m) {es:D J7} {l:D<|D Q×MV} (q:Gy P h es l):Gy P h (putL (E5 k) (K2 P<|E5 k) (.str (E5 k) t) v es)<|qG k m l:=
 Gy.ind (M:=λes l=>Gy P h (putL (E5 k) (K2 P<|E5 k) (.str (E5 k) t) v es)<|qG k m l) (Gy.cons rv .nil) (λk' t' v' m' es l r q i=>by
  by_cases hk:k'=k
  ·refine rq (JZ hk) ?_
   simp only[putL,jY,Ll hk,if_true]
   exact .cons rv q
  ·refine rq (yK hk) ?_
   simp only[putL,jY,Lk hk,BQ,if_false]
   exact .cons r i) q
def Gy.length {P:V6} {h:y9} {es:D J7} {l:D<|D Q×MV} (q:Gy P h es l):es.length=l.length:=F2.len q
def yd (k:D Q) (m:MV):∀l,(qG k m l).length≤l.length+1
 |[]=>by simp[qG]
 |(k',m')::l=>by
  simp only[qG];split
  ·simp
  ·have:=yd k m l;simp;exact lM this omT
def FP.handed {h:y9} {v:q4} {m:MV} (r:FP h v m):handedIn v=f':=r.cs (P:=λv H=>handedIn v=f') C (λH=>C) (λH H=>C) (λH H=>C) (λH H H H H=>C) λH=>C
structure CF (G:Gl) (G':w_):Prop where
 ga:B8 G.K (.ref G') s!"__getattribute__"=R (R<|.builtin s!"object.__getattribute__")
 sa:B8 G.K (.ref G') s!"__setattr__"=R (R<|.builtin s!"object.__setattr__")
 pl:plainOver G.K G'=f'
 hd:hasDictIn G.K G'=f'
structure AF (G:Gl) (G':w_) (name:Lf):Prop where
 ha:∃attr,B8 G.K (.ref G') name=R attr∧noGet G.K attr=f'
 tk:takerIn G.K G' name=R Z
def St.K (S:St G σ s) (X:G.K.In G.h0):G.K.In s.heap:=λa o e=>S.keep a o<|X a o e
def vK {h:y9} {x G' d:w_} {od:Obj} (hx:h.get? x=R (Do G' d)) (hd:h.get? d=R od):InstAt h x (Do G' d) G'<|R od:=⟨hx,C,C,hd⟩
def xV {x G' d:w_} {name:D Q} {l:D<|D Q×MV} {m:MV} {ex:Ld} (S:St G σ s) (X:G.K.In G.h0) (cf:CF G G') (af:AF G G'<|E5 name)
  (hx:σ x=R (.inst G' d)) (hd:σ d=R (.dict l)) (e:zA name l=R m) (h:k m σ):q9 G.M A (getAttr (.ref x) (E5 name) ex) (Fh G σ s k) Er s:=by
 obtain⟨es,n,hd',q⟩:=S.own _ _ hd
 obtain⟨en,hf,r⟩:=q.find e
 obtain⟨attr,ha,hn⟩:=af.ha
 refine get_value (S.K X) (vK (S.own _ _ hx) hd') cf.ga (findObj_own cf.hd ha hn (v:=en.val) ?_) r.handed<|Fh.same S r h
 refine(?_:W.getL (E5 name) es=_)
 unfold W.getL
 exact rq hf C
def Vt {x G' d:w_} {name:D Q} {l:D<|D Q×MV} {m:MV} {v:q4} {N':Unit→q7→Prop} (S:St G σ s) (X:G.K.In G.h0) (cf:CF G G') (af:AF G G'<|E5 name)
  (hx:σ x=R (.inst G' d)) (hd:σ d=R (.dict l)) (r:FP s.heap v m) (hz:l.length≤900)
  (h:∀s',St G (upd σ d<|.dict<|qG name m l) s'→FB σ (upd σ d<|.dict<|qG name m l) s.heap s'.heap→N' () s'):q9 G.M A (setAttr (.ref x) (E5 name) v) N' Er s:=by
 obtain⟨es,n,hd',q⟩:=S.own _ _ hd
 have I:=vK (S.own _ _ hx) hd'
 have hd1:s.heap.get? d=R (dictOf es n):=hd'
 refine set_plain (S.K X) I cf.sa ?_
 refine osa_open (s:={s with toks:=s.toks+1}) (S.K X) I cf.pl af.tk λb=>?_
 obtain⟨cd,U',hdc⟩:=any_some cf.hd
 have D':(s.heap.update d<|Obj.putName (E5 name) (K2 G.w.params<|E5 name) (.str (E5 name)<|s.toks+1) v).get? d=R (dictOf (putL (E5 name) (K2 G.w.params<|E5 name) (.str (E5 name)<|s.toks+1) v es)<|putN (E5 name) es n):=by
  rw[←putName_dict]
  exact Heap.get?_update_self _ hd1<|by rw[putName_dict];rfl
 have sb:BL d s.heap<|s.heap.update d<|Obj.putName (E5 name) (K2 G.w.params<|E5 name) (.str (E5 name)<|s.toks+1) v:=Bv ..
 have P:=FB.upd (σ:=σ) (x:=.dict<|qG name m l) sb<|by refine rq hd ?_;rfl
 refine q6<|j4<|q6<|q6<|wpAny_loadPart (S.own _ _ hx)<|q6<|looks_clsIn (S.K X) U' _ _ _ _ (λH H e=>e) ?_
 refine rq hdc ?_
 refine j4 (a:=R d)<|q6<|j4<|q6 ?_
 unfold nsSet
 refine q6<|q6<|wpAny_askSetting<|j4<|q6<|wpAny_mkText<|q6<|wpAny_loadPart hd1 ?_
 dsimp only
 have c:(!es.toArray.any (·.key.isStr (E5 name))&&es.toArray.any (·.refKey))=La:=by
  (refine rp EG ?_;refine rp EG ?_)
  (refine rq q.refKey ?_;rw[Bq])
 (rewrite [aRefKeyMayBeTheName_at];refine rq c ?_)
 refine wpAny_updatePart hd1 ?_
 have hl:(putL (E5 name) (K2 G.w.params<|E5 name) (.str (E5 name)<|s.toks+1) v es).length≤1000:=by
  exact q0 (W1 ((q.ext<|S.tupExt P).put (k:=name) (t:=s.toks+1)<|r.ext<|S.tupExt P).length)<|q0 (yd name m l)<|q0 (j_ hz 1)<|by decide
 refine q6<|wpAny_lookBehind D' (pastItsLine_dict<|by(refine rq X3 ?_;refine rq W_ ?_);exact ch hl) ?_
 exact j4<|h _ (St.upd (t:=s.toks+1+1) S sb hd (x:=.dict<|qG name m l) λte=>⟨_,_,D',(q.ext te).put<|r.ext te⟩) P
nonrec abbrev DR (h:y9):D (Lf×q4)→D (D Q×MV)→Prop:=F2 λa b=>a.1=E5 b.1∧FP h a.2 b.2
def DR.cons {h:y9} {k:D Q} {v:q4} {m:MV} {kvs:D<|Lf×q4} {l:D<|D Q×MV} (r:FP h v m) (q:DR h kvs l):DR h ((E5 k,v)::kvs)<|(k,m)::l:=F2.cons ⟨C,r⟩ q
def DR.ind {h:y9} {M:D (Lf×q4)→D (D Q×MV)→Prop} (n:M [] []) (c:∀k v m kvs l,FP h v m→DR h kvs l→M kvs l→M ((E5 k,v)::kvs) ((k,m)::l)) {kvs:D<|Lf×q4} {l:D<|D Q×MV} (q:DR h kvs l):M kvs l:=
 F2.ind (P:=M) n (λa b H H p r i=>by induction a with|mk x v=>have e:x=E5 b.1:=p.1;subst e;exact c b.1 v b.2 _ _ p.2 r i) q
def kn {a b:D Q} (h:E5 a=E5 b):a=b:=by have:=Li (λx=>x.cps.toList) h;simpa using this
def Gy.dr (prog:CG) {w:Ep} {h:y9} {es:D J7} {l:D<|D Q×MV} (q:Gy w.params h es l):∃kvs,DR h kvs l∧Pairs (strKind prog w) es kvs∧(∀e∈es,∃k,(strKind prog w).is k e.key=f'∧e.hash=(strKind prog w).hash k):=
 Gy.ind (M:=λes l=>∃kvs,DR h kvs l∧Pairs (strKind prog w) es kvs∧(∀e∈es,∃k,(strKind prog w).is k e.key=f'∧e.hash=(strKind prog w).hash k)) ⟨[],.nil,.nil,λH h=>nomatch h⟩
  (λk t v m es l r H i=>Hs i λkvs a b c=>⟨(E5 k,v)::kvs,.cons r a,.cons (B7 prog w (E5 k) t) C b,Q_.mpr ⟨⟨E5 k,B7 prog w (E5 k) t,C⟩,c⟩⟩) q
def DR.keys {h:y9} {kvs:D<|Lf×q4} {l:D<|D Q×MV} (q:DR h kvs l):kvs.map (·.1)=l.map (λx=>E5 x.1):=
 F2.ind (P:=λkvs l=>kvs.map (·.1)=l.map (λx=>E5 x.1)) C (λa b H H p H i=>by(refine rq w5 ?_;refine rq w5 ?_;refine rq i ?_;exact rq p.1 C)) q
def DR.nodup {h:y9} {kvs:D<|Lf×q4} {l:D<|D Q×MV} (d:DR h kvs l) (hn:(l.map (·.1)).Nodup):(kvs.map (·.1)).Nodup:=by
 refine rq d.keys ?_
 have:l.map (λx=>E5 x.1)=(l.map (·.1)).map E5:=by simp
 refine rq this ?_
 unfold Et at hn⊢
 exact DA E5 (λa b (h:a≠b) e=>h<|kn e) hn
def DR.ext {h h':y9} (x:zQ h h') {kvs:D<|Lf×q4} {l:D<|D Q×MV} (q:DR h kvs l):DR h' kvs l:=F2.mono (λH H p=>⟨p.1,p.2.ext x⟩) q
def Ka {a b:D Q} (h:¬a=b):¬E5 a=E5 b:=λe=>h<|kn e
def DR.value {h:y9} {k:D Q} {kvs:D<|Lf×q4} {l:D<|D Q×MV} (q:DR h kvs l):∀{m:MV},zA k l=R m→∃v,BV kvs (E5 k)=R v∧FP h v m:=
 DR.ind (M:=λkvs l=>∀{m:MV},zA k l=R m→∃v,BV kvs (E5 k)=R v∧FP h v m) (λe=>nO e) (λk' v m kvs l r H i m' e=>by
  by_cases hk:k'=k
  ·rw[wK hk]at e
   exact⟨v,by unfold BV;rw[D.find?_cons_of_pos<|by rw[hk];exact Ll C];rfl,z' e▸r⟩
  ·rw[kO hk]at e
   unfold BV
   rw[D.find?_cons_of_neg<|by simpa using Ka hk]
   exact i e) q
def DR.any {h:y9} {k:D Q} {kvs:D<|Lf×q4} {l:D<|D Q×MV} (q:DR h kvs l):kvs.any (λkv=>decide (kv.1=E5 k))=(zA k l).isSome:=
 DR.ind (M:=λkvs l=>kvs.any (λkv=>decide (kv.1=E5 k))=(zA k l).isSome) C (λk' v m kvs l r H i=>by
  (refine rq D.any_cons ?_;refine rq i ?_)
  by_cases hk:k'=k
  ·(refine rq (wK hk) ?_;refine rq hk ?_;refine rq (Ll C) ?_);rfl
  ·(refine rq (kO hk) ?_;refine rq (Lk<|Ka hk) ?_);rfl) q
def DR.map {h:y9} {k:D Q} {v:q4} {m:MV} (rv:FP h v m) {kvs:D<|Lf×q4} {l:D<|D Q×MV} (q:DR h kvs l):(l.map (·.1)).Nodup→(zA k l).isSome=f'→DR h (kvs.map λkv=>if kv.1=E5 k then(kv.1,v)else kv) (qG k m l):=
 DR.ind (M:=λkvs l=>(l.map (·.1)).Nodup→(zA k l).isSome=f'→DR h (kvs.map λkv=>if kv.1=E5 k then(kv.1,v)else kv) (qG k m l)) (λH e=>nB e) (λk' v' m' kvs l r q i hn e=>by
  rw[w5,Bg]at hn
  by_cases hk:k'=k
  ·subst hk
   have:kvs.map (λkv=>if kv.1=E5 k' then(kv.1,v)else kv)=kvs:=map_eq_self λx hx=>Lj λe=>hn.1 (by
     have:x.1∈kvs.map (·.1):=BI hx
     rw[q.keys,e]at this
     exact E7 (J9.mp this) λy hy e'=>J9.mpr ⟨y,hy,kn e'⟩)
   (refine rq (JZ C) ?_;refine rq w5 ?_;refine rq this ?_;refine rq (Lh C) ?_);exact .cons rv q
  ·rw[kO hk]at e
   (refine rq (yK hk) ?_;refine rq w5 ?_;refine rq (Lj<|Ka hk) ?_)
   exact .cons r<|i hn.2 e) q
def DR.append {h:y9} {k:D Q} {v:q4} {m:MV} (rv:FP h v m) {kvs:D<|Lf×q4} {l:D<|D Q×MV} (q:DR h kvs l):zA k l=Z→DR h (kvs++[(E5 k,v)]) (qG k m l):=
 DR.ind (M:=λkvs l=>zA k l=Z→DR h (kvs++[(E5 k,v)]) (qG k m l)) (λH=>#[rv]) (λk' v' m' kvs l r H i e=>by
  by_cases hk:k'=k
  ·rw[wK hk]at e;contradiction
  ·rw[kO hk]at e
   refine rq (yK hk) ?_
   exact .cons r<|i e) q
def DR.stored {h:y9} {k:D Q} {v:q4} {m:MV} (rv:FP h v m) {kvs:D<|Lf×q4} {l:D<|D Q×MV} (d:DR h kvs l) (hn:(l.map (·.1)).Nodup):DR h (stored kvs (E5 k) v)<|qG k m l:=by
 unfold PySem.stored
 refine rq d.any ?_
 induction e:zA k l with
 |Z=>simp only[Lc.isSome_none,BQ,if_false];exact d.append rv e
 |R x=>simp only[CI,if_true];exact d.map rv hn<|by refine rq e ?_;rfl
def Holds.dictOf {h:y9} {a:w_} {l:D<|D Q×MV} (z_:Holds G h a<|.dict l) (hn:(l.map (·.1)).Nodup):∃kvs,h.DictOf (strKind G.prog G.w) a kvs∧DR h kvs l:=by
 obtain⟨es,n,ho,q⟩:=z_
 obtain⟨kvs,d,p,kk⟩:=q.dr G.prog
 exact⟨kvs,⟨_,es.toArray,n,ho,⟨C,C,C⟩,C,λe he=>kk e (by simpa using he),p,d.nodup hn⟩,d⟩
set_option tactic.hygienic true in
def zij {h:y9} {prog:CG} {w:Ep} {kvs:D<|Lf×q4} {l:D<|D Q×MV} (d:DR h kvs l):∀{es:D J7},Pairs (strKind prog w) es kvs→
  (∀e∈es,∃k,(strKind prog w).is k e.key=f'∧e.hash=(strKind prog w).hash k)→Gy w.params h es l:=
 DR.ind (M:=λkvs l=>∀{es:D J7},Pairs (strKind prog w) es kvs→(∀e∈es,∃k,(strKind prog w).is k e.key=f'∧e.hash=(strKind prog w).hash k)→Gy w.params h es l) (λp H=>by cases p;exact F2.nil) (λk v m kvs l r H ih es p kk=>by
  clear H;cases p with
  |cons i hv p=>
  rename_i e es
  refine E7 (kk _<|j0 ..) λk' hk' hh=>?_
  refine(D9 i).elim λt et=>?_
  have hk2:CH k' e.key=f':=hk'
  rw[et]at hk2
  refine(D9 hk2).elim λt' e'=>?_
  injection e' with e1 e2
  rw[←e1]at hh
  exact F2.cons ⟨t,v,by clear i hk';cases e;clear hk2 e1 e2;subst et;subst hh;cases hv;rfl,r⟩<|ih p λe he=>kk e (q_ _ he)) d
def Qt {h:y9} {a:w_} {kvs:D<|Lf×q4} {l:D<|D Q×MV} (z_:h.DictOf (strKind G.prog G.w) a kvs) (d:DR h kvs l):Holds G h a<|.dict l:=by
 obtain⟨o,es,n,ho,⟨e1,e2,e3⟩,hd,kk,p,_⟩:=z_
 obtain⟨c,dd,dt,sl⟩:=o
 dsimp only at e1 e2 e3 hd
 subst e1 e2 e3 hd
 obtain⟨l'⟩:=es
 exact⟨l',n,ho,zij d p λe he=>kk e<|by simpa using he⟩
def Vu {a:w_} {key:D Q} {t:Tok} {l:D<|D Q×MV} {m:MV} (S:St G σ s) (ha:σ a=R (.dict l)) (hn:(l.map (·.1)).Nodup) (e:zA key l=R m) (h:k m σ):
  q9 G.M A (BX (.ref a)<|.str (E5 key) t) (Fh G σ s k) Er s:=by
 obtain⟨kvs,M',d⟩:=(S.own _ _ ha).dictOf hn
 obtain⟨v,hv,r⟩:=d.value e
 have M:s.heap.MapOf (strKind G.prog G.w) a<|BV kvs:=by
  obtain⟨o,es,n,ho,x,hd,kk,p,_⟩:=M'
  refine⟨o,es,n,ho,x,hd,kk,λk=>?_⟩
  have:=p.find k
  unfold findBy
  refine rp (Array.find?_toList) ?_
  exact this
 exact wpAny_getItem_of (B7 G.prog G.w _ t) M hv<|Fh.same S r h
def Vv {a:w_} {key:D Q} {t:Tok} {l:D<|D Q×MV} {m:MV} {v:q4} {N':Unit→q7→Prop} (S:St G σ s) (ha:σ a=R (.dict l)) (hn:(l.map (·.1)).Nodup) (hz:l.length≤900) (r:FP s.heap v m)
  (h:∀s',St G (upd σ a<|.dict<|qG key m l) s'→FB σ (upd σ a<|.dict<|qG key m l) s.heap s'.heap→N' () s'):
  q9 G.M A (setItem (.ref a) (.str (E5 key) t) v) N' Er s:=by
 obtain⟨kvs,M',d⟩:=(S.own _ _ ha).dictOf hn
 refine wpAny_setItem_pairs (B7 G.prog G.w _ t) M' (λh' D' sb=>?_)<|by refine rq W_ ?_;exact ci hz (by have:=Li V' d.keys;simpa using this:kvs.length=l.length)
 exact h _ (S.upd sb ha λte=>Qt D'<|(d.ext te).stored (r.ext te) hn)<|FB.upd sb<|by refine rq ha ?_;rfl
end
mutual namespace A
mutual
abbrev MV.eqb:MV→MV→Ld
 | .none,.none=>f'
 | .bool a,.bool b=>a==b
 | .int a,.int b=>decide (a=b)
 | .str a,.str b=>decide (a=b)
 | .tup a,.tup b=>MV.eqbL a b
 | .ref a,.ref b=>a==b
 |_,_=>La
abbrev MV.eqbL:D MV→D MV→Ld
 |[],[]=>f'
 |a::l,b::m=>MV.eqb a b&&MV.eqbL l m
 |_,_=>La
end
inductive Fl where
 |d (m:MV)
 |l (l:D MV)
abbrev Fl.ctorIdx (x:Fl):Q:=Fl.casesOn (motive:=λH=>Q) x (λH=>0) λH=>1
inductive Th where
 |d (m:MV)
 |l (l:D MV)
 |o (c:Q) (fs:D Fl)
abbrev Th.ctorIdx (x:Th):Q:=Th.casesOn (motive:=λH=>Q) x (λH=>0) (λH=>1) λH H=>2
nonrec abbrev Ev:=D<|Lc Th
nonrec abbrev HM:=Q→Ev→Lc (Th×Ev)
set_option genCtorIdx true in
inductive Ph where|add|sub|mul|mod
set_option genCtorIdx true in
inductive Oh where|eq|ne|lt|le|gt|ge|isin|notin
set_option genCtorIdx true in
inductive B1 where|str|int|tuple|isTup|len
inductive X where
 |bad
 |lit (m:MV)
 |glb (m:MV)
 |var (i:Q)
 |mv (i:Q)
 |bin (o:Ph) (a b:X)
 |cmp (o:Oh) (a b:X)
 |isN (a:X)
 |neg (a:X)
 |not (a:X)
 |and (a b:X)
 |or (a b:X)
 |ite (t a b:X)
 |tupD (es:X)
 |lstD (es:X)
 |idx (a i:X)
 |slc (a lo hi:X)
 |fld (k j i:Q)
 |call (f:Q) (es:X)
 |meth (j m:Q) (es:X)
 |methT (a:X) (m:Q) (es:X)
 |new (c:Q) (es:X)
 |b1 (o:B1) (a:X)
 |min2 (a b:X)
 |join (sep a:X)
 |stw (a b:X)
 |stw3 (a b c:X)
 |pop (j:Q)
 |dget (M':Q) (k d:X)
 |didx (M':Q) (k:X)
 |din (M':Q) (k:X)
 |dlit (ks:D<|D Q) (vs k d:X)
 |comp (np:Q) (it body:X)
 |flat (a:X)
 |nil
 |cons (a b:X)
abbrev X.ctorIdx (x:X):Q:=X.casesOn (motive:=λH=>Q) x 0 (λH=>1) (λH=>2) (λH=>3) (λH=>4) (λH H H=>5) (λH H H=>6) (λH=>7) (λH=>8) (λH=>9) (λH H=>10) (λH H=>11) (λH H H=>12) (λH=>13) (λH=>14) (λH H=>15) (λH H H=>16) (λH H H=>17) (λH H=>18) (λH H H=>19) (λH H H=>20) (λH H=>21) (λH H=>22) (λH H=>23) (λH H=>24) (λH H=>25) (λH H H=>26) (λH=>27) (λH H H=>28) (λH H=>29) (λH H=>30) (λH H H H=>31) (λH H H=>32) (λH=>33) 34 λH H=>35
inductive S where
 |bad
 |skip
 |seq (a b:S)
 |asg (i:Q) (e:X)
 |asgT (is:D Q) (es:X)
 |unp (is:D Q) (e:X)
 |setF (k j i:Q) (e:X)
 |augF (k j i:Q) (o:Ph) (e:X)
 |aug (i:Q) (o:Ph) (e:X)
 |app (j:Q) (e:X)
 |ext (j:Q) (e:X)
 |exp (e:X)
 |ite (t:X) (a b:S)
 |whl (t:X) (b:S)
 |forR (i:Q) (e:X) (b:S)
 |forT (i:Q) (l:D MV) (b:S)
 |ret (e:X)
 |brk
inductive Fw where
 |nx
 |br
 |rt (t:Th)
abbrev Fw.ctorIdx (x:Fw):Q:=Fw.casesOn (motive:=λH=>Q) x 0 1 λH=>2
structure Fn where
 np:Q
 nl:Q
 body:S
structure Pg where
 fn:Q→Lc Fn
 mt:Q→Q→Lc Q
 init:Q→Lc Q
 ds:Q→D (D Q×MV)
abbrev gy:MV→MV→Lc MV
 | .int a,y=>match y with| .int b=>R (.int<|a+b)|_=>Z
 | .str a,y=>match y with| .str b=>if a.length+b.length≤k7 then R (.str<|a++b)else Z|_=>Z
 | .tup a,y=>match y with| .tup b=>if a.length+b.length≤k7 then R (.tup<|a++b)else Z|_=>Z
 |_,_=>Z
abbrev Vx (f:g'→g'→Lc MV):MV→MV→Lc MV
 | .int a,y=>match y with| .int b=>f a b|_=>Z
 |_,_=>Z
abbrev Pi:Ph→MV→MV→Lc MV
 | .add=>gy
 | .sub=>Vx λa b=>R<|.int<|a -b
 | .mul=>Vx λa b=>if a.natAbs<2^60∨b.natAbs<2^60 then R (.int<|a*b)else Z
 | .mod=>Vx λa b=>if b=0 then Z else R (.int<|a.fmod b)
abbrev Pj:Ph→MV→MV→Lc MV
 | .add=>Vx λa b=>R<|.int<|a+b
 | .sub=>Vx λa b=>R<|.int<|a -b
 |_=>λH H=>Z
abbrev gz:Oh→g'→g'→Lc Ld
 | .eq,a,b=>R<|decide (a=b)
 | .ne,a,b=>R<|!decide (a=b)
 | .lt,a,b=>R<|decide (a<b)
 | .le,a,b=>R<|decide (a≤b)
 | .gt,a,b=>R<|decide (b<a)
 | .ge,a,b=>R<|decide (b≤a)
 |_,_,_=>Z
abbrev inS:D Q→D Q→Lc Ld
 |[],_=>Z
 |c::r,b=>match r with|[]=>R (decide (c∈b))|_=>Z
abbrev gA:Oh→D Q→D Q→Lc Ld
 | .eq,a,b=>R<|decide (a=b)
 | .ne,a,b=>R<|!decide (a=b)
 | .isin,a,b=>inS a b
 |_,_,_=>Z
abbrev TD:Oh→D Q→D MV→Lc Ld
 | .isin,a,b=>jD a b
 | .notin,a,b=>(jD a b).map (!·)
 |_,_,_=>Z
abbrev gC:Oh→D MV→D MV→Lc Ld
 | .eq,a,b=>if MV.eqbL a b&&MV.flatL a&&decide (MV.depL a≤100)then R f' else Z
 | .ne,a,b=>if MV.eqbL a b&&MV.flatL a&&decide (MV.depL a≤100)then R La else Z
 |_,_,_=>Z
abbrev jE (o:Oh):MV→MV→Lc Ld
 | .int a,y=>match y with| .int b=>gz o a b|_=>Z
 | .str a,y=>match y with| .str b=>gA o a b| .tup b=>TD o a b|_=>Z
 | .tup a,y=>match y with| .tup b=>gC o a b|_=>Z
 |_,_=>Z
abbrev Nn:Oh→D MV→D MV→Lc Ld
 | .eq,a,b=>if MV.eqbL a b&&MV.flatL a&&decide (MV.depL a≤100)then R f' else Z
 |_,_,_=>Z
abbrev gt (J:Ev) (i:Q):Lc Th:=(J[i]?).join
abbrev st (J:Ev) (i:Q) (t:Th):Ev:=J.set i<|R t
abbrev M1:Q→Q
 |0=>0
 |1=>1
 |_=>2
abbrev jP (J:Ev) (k j i:Q):Lc Fl:=match gt J j with
 |R (.o c fs)=>if M1 c=k then fs[i]? else Z
 |_=>Z
inductive Vw where
 |d (m:MV)
 |l (l:D MV)
abbrev Vw.ctorIdx (x:Vw):Q:=Vw.casesOn (motive:=λH=>Q) x (λH=>0) λH=>1
abbrev Fl.vw:Fl→Vw
 | .d m=>.d m
 | .l x=>.l x
abbrev Th.vw:Th→Lc Vw
 | .d m=>R<|.d m
 | .l x=>R<|.l x
 | .o _ _=>Z
abbrev Th.dat:Th→Lc MV
 | .d m=>R m
 |_=>Z
abbrev HY:Th→Lc Ld
 | .d (.bool b)=>R b
 |_=>Z
abbrev Vw.items:Vw→Lc (D MV)
 | .d (.tup x)=>R x
 | .l x=>R x
 |_=>Z
abbrev yw (l:D Q):g':=l.foldl (λn c=>10*n+(J3 c -48)) 0
abbrev xW (l:D Q):Lc g':=
 let v:=yw l
 if 0≤v∧v<10^10∧l=zW v then R v else Z
abbrev aH:B1→Vw→Lc MV
 | .str,.d (.str l)=>R<|.str l
 | .str,.d (.int i)=>if i.natAbs<2^60 then R (.str<|zW i)else Z
 | .int,.d (.str l)=>(xW l).map .int
 | .tuple,.l l=>if l.length≤k7 then R (.tup l)else Z
 | .isTup,.d m=>(isTup m λH=>Z).map .bool
 | .len,.d (.tup l)=>if l.length≤k7 then R (.int l.length)else Z
 | .len,.l l=>if l.length≤k7 then R (.int l.length)else Z
 | .len,.d (.str l)=>if l.length≤k7 then R (.int l.length)else Z
 |_,_=>Z
abbrev vf (l:D MV):MV→Lc MV
 | .int i=>if l.length≤k7 then(BG i l.length).bind (l[·]?)else Z
 |_=>Z
abbrev HZ:MV→Lc (Lc Q)
 | .none=>R Z
 | .int i=>if 0≤i∧i<2^60 then R (R i.toNat)else Z
 |_=>Z
abbrev ZJ (v lo hi:MV):Lc MV:=
 match HZ lo,HZ hi,v with
 |R lo,R hi,.str x=>if x.length≤k7 then R (.str<|Hn x lo hi)else Z
 |R lo,R hi,.tup x=>if x.length≤k7 then R (.tup<|Hn x lo hi)else Z
 |_,_,_=>Z
abbrev xX (sep:MV) (ms:D MV):Lc MV:=match sep with
 | .str sep=>(Il ms).bind λxs=>if(xs.map λp=>p.length+sep.length).sum≤k7 then R (.str<|jz sep xs)else Z
 |_=>Z
abbrev MJ:D MV→Lc (D MV)
 |[]=>R []
 | .tup l::r=>if l.all (λm=>(isTup m λH=>Z).isSome)then(MJ r).map λq=>l.filter (λm=>(isTup m λH=>Z).getD La)++q else Z
 |_::_=>Z
abbrev Qu (f:MV→Lc MV):D MV→Lc (D MV)
 |[]=>R []
 |m::l=>(f m).bind λx=>(Qu f l).map (x:: ·)
abbrev ON:X→Ld
 | .lit _=>f'
 | .glb _=>f'
 | .var _=>f'
 | .fld _ _ _=>f'
 | .neg a=>ON a
 | .bin _ a b=>ON a&&ON b
 |_=>La
inductive Ar where
 |v (t:Th)
 |s (j:Q)
abbrev Ar.ctorIdx (x:Ar):Q:=Ar.casesOn (motive:=λH=>Q) x (λH=>0) λH=>1
abbrev GK:D Ar→Ev→Lc (Ev×Ev)
 |[],J=>R ([],J)
 | .v t::as,J=>(GK as J).map λ(U,J)=>(R t::U,J)
 | .s j::as,J=>match gt J j with
  |R t=>(GK as<|J.set j Z).map λ(U,J)=>(R t::U,J)
  |Z=>Z
abbrev Id:D Ar→Ev→Ev→Ev
 | .s j::as,t::U,J=>Id as U<|J.set j t
 | .v _::as,_::U,J=>Id as U J
 |_,_,J=>J
abbrev Kb (J:Ev) (j:Q):Lc Q:=match gt J j with
 |R (.o c _)=>R c
 |_=>Z
abbrev Hw:X→Ld
 | .var _=>f'
 | .fld _ _ _=>f'
 |_=>La
abbrev Oc:X→Ld
 | .nil=>f'
 |_=>La
abbrev gD:X→Ev→Lc Vw
 | .var i,J=>(gt J i).bind Th.vw
 | .fld k j i,J=>(jP J k j i).map Fl.vw
 |_,_=>Z
abbrev opn (a:X) (ev:Ev→Lc (Th×Ev)) (J:Ev):Lc<|Vw×Ev:=
 if Hw a then(gD a J).map λv=>(v,J)else(ev J).bind λ(x,J)=>x.vw.map λv=>(v,J)
abbrev kM (a:X) (ev:Ev→Lc (Th×Ev)) (last:Ld) (J:Ev):Lc<|Ar×Ev:=match a with
 | .var i=>match gt J i with
  |R (.d m)=>R (.v<|.d m,J)
  |R _=>R (.s i,J)
  |Z=>Z
 |_=>(ev J).bind λ(x,J)=>match x with
  | .d m=>R (.v<|.d m,J)
  |x=>if last then R (.v x,J)else Z
end
mutual section
variable (P:Pg) (cl:Q→Ev→Lc (Th×Ev))
abbrev Xh (f:Q) (as:D Ar) (J:Ev):Lc<|Th×Ev:=
 (GK as J).bind λ(U,J)=>(cl f U).bind λ(r,U)=>R (r,Id as U J)
abbrev jh (np:Q) (m:MV):Lc Ev:=
 if np=0 then R [R<|.d m]else match m with
  | .tup l=>if l.length=np then R (l.map λx=>R<|.d x)else Z
  |_=>Z
mutual
abbrev E0:X→Ev→Lc (Th×Ev)
 | .lit m,J=>R (.d m,J)
 | .glb m,J=>R (.d m,J)
 | .var i,J=>match gt J i with
  |R (.d m)=>R (.d m,J)
  |_=>Z
 | .mv i,J=>match gt J i with
  |R (.l l)=>R (.l l,J.set i Z)
  |_=>Z
 | .bin o a b,J=>(E0 a J).bind λ(x,J)=>x.dat.bind λx=>(E0 b J).bind λ(y,J)=>y.dat.bind λy=>(Pi o x y).map λz=>(.d z,J)
 | .cmp o a b,J=>(opn a (E0 a) J).bind λ(x,J)=>match x with
  | .d x=>(E0 b J).bind λ(y,J)=>y.dat.bind λy=>(jE o x y).map λz=>(.d<|.bool z,J)
  | .l x=>match b with
   | .var j=>(match gt J j with
    |R (.l y)=>(Nn o x y).map λz=>(.d<|.bool z,J)
    |_=>Z)
   |_=>Z
 | .isN a,J=>(E0 a J).bind λ(x,J)=>x.dat.map λx=>(.d<|.bool<|match x with| .none=>f'|_=>La,J)
 | .neg a,J=>(E0 a J).bind λ(x,J)=>match x with
  | .d (.int i)=>R (.d<|.int<| -i,J)
  |_=>Z
 | .not a,J=>(E0 a J).bind λ(x,J)=>(HY x).map λb=>(.d<|.bool<|!b,J)
 | .and a b,J=>(E0 a J).bind λ(x,J)=>(HY x).bind λc=>if c then(E0 b J).bind λ(y,J)=>(HY y).map λd=>(.d<|.bool d,J)else R (.d<|.bool La,J)
 | .or a b,J=>(E0 a J).bind λ(x,J)=>(HY x).bind λc=>if c then R (.d<|.bool f',J)else(E0 b J).bind λ(y,J)=>(HY y).map λd=>(.d<|.bool d,J)
 | .ite t a b,J=>(E0 t J).bind λ(x,J)=>(HY x).bind λc=>if c then E0 a J else E0 b J
 | .tupD es,J=>(Oi es J).bind λ(ms,J)=>if ms.length≤k7 then R (.d<|.tup ms,J)else Z
 | .lstD es,J=>(Oi es J).bind λ(ms,J)=>if ms.length≤k7 then R (.l ms,J)else Z
 | .idx a i,J=>(opn a (E0 a) J).bind λ(x,J)=>(match x with
   | .d (.tup l)=>R l
   | .l l=>if Hw a&&!ON i then Z else R l
   |_=>Z).bind λl=>(E0 i J).bind λ(y,J)=>y.dat.bind λy=>(vf l y).map λz=>(.d z,J)
 | .slc a lo hi,J=>(E0 a J).bind λ(x,J)=>x.dat.bind λx=>(E0 lo J).bind λ(y,J)=>y.dat.bind λy=>(E0 hi J).bind λ(z,J)=>z.dat.bind λz=>
   (ZJ x y z).map λz=>(.d z,J)
 | .fld k j i,J=>match jP J k j i with
  |R (.d m)=>R (.d m,J)
  |_=>Z
 | .call f es,J=>(Pl es J).bind λ(as,J)=>Xh cl f as J
 | .meth j m es,J=>(Kb J j).bind λc=>(P.mt c m).bind λf=>(Pl es J).bind λ(as,J)=>Xh cl f (.s j::as) J
 | .methT a m es,J=>(E0 a J).bind λ(x,J)=>match x,es with
  | .o c fs,.nil=>(P.mt c m).bind λf=>(cl f [R<|.o c fs]).map λ(r,_)=>(r,J)
  |_,_=>Z
 | .new c es,J=>(Pl es J).bind λ(as,J)=>(P.init c).bind λf=>(GK as J).bind λ(U,J)=>(cl f<|R (.o c [])::U).bind λ(r,U)=>match r,U with
  | .d .none,R (.o c' fs)::U=>if c'=c then R (.o c fs,Id as U J)else Z
  |_,_=>Z
 | .b1 o a,J=>(opn a (E0 a) J).bind λ(x,J)=>(aH o x).map λz=>(.d z,J)
 | .min2 a b,J=>(E0 a J).bind λ(x,J)=>x.dat.bind λx=>(E0 b J).bind λ(y,J)=>y.dat.bind λy=>match x,y with
  | .int x,.int y=>R (.d<|.int<|min x y,J)
  |_,_=>Z
 | .join sep a,J=>(E0 sep J).bind λ(x,J)=>x.dat.bind λx=>(opn a (E0 a) J).bind λ(y,J)=>y.items.bind λms=>(xX x ms).map λz=>(.d z,J)
 | .stw a b,J=>(E0 a J).bind λ(x,J)=>x.dat.bind λx=>(E0 b J).bind λ(y,J)=>y.dat.bind λy=>match x,y with
  | .str x,.str y=>R (.d<|.bool<|decide (y<+:x),J)
  |_,_=>Z
 | .stw3 a b c,J=>(E0 a J).bind λ(x,J)=>x.dat.bind λx=>(E0 b J).bind λ(y,J)=>y.dat.bind λy=>(E0 c J).bind λ(z,J)=>z.dat.bind λz=>match x,y,z with
  | .str x,.str y,.int i=>if 0≤i∧i.toNat≤x.length then R (.d<|.bool<|decide (y<+:x.drop i.toNat),J)else Z
  |_,_,_=>Z
 | .pop j,J=>match gt J j with
  |R (.l l)=>(match l.getLast? with
   |R m=>if l.length≤k7 then R (.d m,st J j<|.l l.dropLast)else Z
   |Z=>Z)
  |_=>Z
 | .dget M' k d,J=>(E0 k J).bind λ(x,J)=>x.dat.bind λx=>(E0 d J).bind λ(y,J)=>y.dat.bind λy=>match x with
  | .str k=>R (.d<|(zA k<|P.ds M').getD y,J)
  |_=>Z
 | .didx M' k,J=>(E0 k J).bind λ(x,J)=>x.dat.bind λx=>match x with
  | .str k=>(zA k<|P.ds M').map λm=>(.d m,J)
  |_=>Z
 | .din M' k,J=>(E0 k J).bind λ(x,J)=>x.dat.bind λx=>match x with
  | .str k=>R (.d<|.bool (zA k<|P.ds M').isSome,J)
  |_=>Z
 | .dlit ks vs k d,J=>(Oi vs J).bind λ(ms,J)=>(E0 k J).bind λ(x,J)=>x.dat.bind λx=>(E0 d J).bind λ(y,J)=>y.dat.bind λy=>match x with
  | .str k=>if ms.length=ks.length then R (.d<|(zA k<|ks.zip ms).getD y,J)else Z
  |_=>Z
 | .comp np it body,J=>(opn it (E0 it) J).bind λ(x,J)=>x.items.bind λl=>if l.length≤1000000 then
   (Qu (λm=>(jh np m).bind λρc=>(E0 body ρc).bind λ(y,_)=>y.dat) l).map λr=>(.l r,J)else Z
 | .flat a,J=>(opn a (E0 a) J).bind λ(x,J)=>match x with
  | .l l=>(MJ l).bind λr=>if r.length≤1000000∧l.length≤1000000 then R (.l r,J)else Z
  |_=>Z
 | .bad,_=>Z
 | .nil,_=>Z
 | .cons _ _,_=>Z
abbrev Oi:X→Ev→Lc (D MV×Ev)
 | .nil,J=>R ([],J)
 | .cons a b,J=>(E0 a J).bind λ(x,J)=>x.dat.bind λx=>(Oi b J).map λ(l,J)=>(x::l,J)
 |_,_=>Z
abbrev Pl:X→Ev→Lc (D Ar×Ev)
 | .nil,J=>R ([],J)
 | .cons a b,J=>(kM a (E0 a) (Oc b) J).bind λ(x,J)=>(Pl b J).map λ(l,J)=>(x::l,J)
 |_,_=>Z
end
abbrev ac:X→Ev→Lc (D Th×Ev)
 | .nil,J=>R ([],J)
 | .cons a b,J=>(E0 P cl a J).bind λ(x,J)=>(ac b J).map λ(l,J)=>(x::l,J)
 |_,_=>Z
abbrev jU (np:Q):D Q→D Th→Ev→Lc Ev
 |[],[],J=>R J
 |i::is,t::U,J=>if np≤i∧i<J.length then jU np is U (st J i t)else Z
 |_,_,_=>Z
abbrev qj (t:Ev→Lc (Th×Ev)) (b:Ev→Lc (Fw×Ev)):Q→Ev→Lc (Fw×Ev)
 |0,_=>Z
 |n+1,J=>(t J).bind λ(x,J)=>(HY x).bind λc=>if c then(b J).bind λ(f,J)=>(match f with
   | .nx=>qj t b n J
   | .br=>R (.nx,J)
   | .rt v=>R (.rt v,J))else R (.nx,J)
abbrev jr (b:MV→Ev→Lc (Fw×Ev)):D MV→Ev→Lc (Fw×Ev)
 |[],J=>R (.nx,J)
 |m::l,J=>(b m J).bind λ(f,J)=>(match f with
   | .nx=>jr b l J
   | .br=>R (.nx,J)
   | .rt v=>R (.rt v,J))
abbrev ye (J:Ev) (k j i:Q) (m:Fl):Lc Ev:=match gt J j with
 |R (.o c fs)=>if M1 c≠k then Z else if i<fs.length then R (st J j<|.o c<|fs.set i m)else if i=fs.length∧i<(if k=1 then 2 else 3)then R (st J j<|.o c<|fs++[m])else Z
 |_=>Z
abbrev Th.fl:Th→Lc Fl
 | .d m=>R<|.d m
 | .l x=>R<|.l x
 | .o _ _=>Z
abbrev Qv (a:X) (ev:Ev→Lc (Th×Ev)) (J:Ev):Lc<|Th×Ev:=match a with
 | .var i=>match gt J i with
  |R (.d m)=>R (.d m,J)
  |R t=>R (t,J.set i Z)
  |Z=>Z
 |_=>ev J
variable (W np:Q)
abbrev Fc:S→Ev→Lc (Fw×Ev)
 | .bad,_=>Z
 | .skip,J=>R (.nx,J)
 | .seq a b,J=>(Fc a J).bind λ(f,J)=>match f with
  | .nx=>Fc b J
  |f=>R (f,J)
 | .asg i e,J=>(E0 P cl e J).bind λ(x,J)=>if np≤i∧i<J.length then R (.nx,st J i x)else Z
 | .asgT is es,J=>(ac P cl es J).bind λ(l,J)=>(jU np is l J).map λJ=>(.nx,J)
 | .unp is e,J=>(E0 P cl e J).bind λ(x,J)=>match x with
  | .d (.tup l)=>(jU np is (l.map .d) J).map λJ=>(.nx,J)
  |_=>Z
 | .setF k j i e,J=>(Qv e (E0 P cl e) J).bind λ(x,J)=>x.fl.bind λm=>(ye J k j i m).map λJ=>(.nx,J)
 | .augF k j i o e,J=>match jP J k j i with
  |R (.d x)=>(E0 P cl e J).bind λ(y,J)=>y.dat.bind λy=>(Pj o x y).bind λz=>(ye J k j i<|.d z).map λJ=>(.nx,J)
  |_=>Z
 | .aug i o e,J=>match gt J i with
  |R (.d x)=>(E0 P cl e J).bind λ(y,J)=>y.dat.bind λy=>(Pj o x y).bind λz=>if np≤i∧i<J.length then R (.nx,st J i<|.d z)else Z
  |_=>Z
 | .app j e,J=>match gt J j with
  |R (.l _)=>(E0 P cl e J).bind λ(x,J)=>x.dat.bind λm=>(match gt J j with
   |R (.l l)=>if l.length≤1000000 then R (.nx,st J j<|.l<|l++[m])else Z
   |_=>Z)
  |_=>Z
 | .ext j e,J=>match gt J j with
  |R (.l _)=>(E0 P cl e J).bind λ(x,J)=>match x,gt J j with
   | .l m,R (.l l)=>if l.length+m.length≤1000000 then R (.nx,st J j<|.l<|l++m)else Z
   |_,_=>Z
  |_=>Z
 | .exp e,J=>(E0 P cl e J).bind λ(_,J)=>R (.nx,J)
 | .ite t a b,J=>(E0 P cl t J).bind λ(x,J)=>(HY x).bind λc=>if c then Fc a J else Fc b J
 | .whl t b,J=>qj (E0 P cl t) (Fc b) W J
 | .forR i e b,J=>(E0 P cl e J).bind λ(x,J)=>match x with
  | .d (.int n)=>if np≤i∧i<J.length∧0≤n∧n<1000000 then jr (λm J=>if i<J.length then Fc b (st J i<|.d m)else Z) ((j5 n.toNat).map λj=>.int (j:Q)) J else Z
  |_=>Z
 | .forT i l b,J=>if np≤i∧i<J.length then jr (λm J=>if i<J.length then Fc b (st J i<|.d m)else Z) l J else Z
 | .ret e,J=>(E0 P cl e J).bind λ(x,J)=>R (.rt x,J)
 | .brk,J=>R (.br,J)
end
mutual namespace A
abbrev EZ (P:Pg) (W:Q):Q→Q→Ev→Lc (Th×Ev)
 |0,_,_=>Z
 |n+1,f,as=>(P.fn f).bind λF=>if as.length=F.np then(Fc P (EZ P W n) W F.np F.body<|as++Bm F.nl Z).bind λ(fl,J)=>match fl with
  | .rt v=>R (v,J.take F.np)
  | .nx=>R (.d .none,J.take F.np)
  | .br=>Z
  else Z
nonrec abbrev E6 (x:D Q):Lc Th:=R<|.d<|.str x
nonrec abbrev E9 (x:g'):Lc Th:=R<|.d<|.int x
nonrec abbrev FI (x:D MV):Lc Th:=R<|.d<|.tup x
nonrec abbrev GY (x:Ld):Lc Th:=R<|.d<|.bool x
nonrec abbrev FR (x:MV):Lc Th:=R<|.d x
nonrec abbrev E4 (x:D MV):Lc Th:=R<|.l x
nonrec abbrev Da (x:D Q):X:=.lit<|.str x
nonrec abbrev EY (x:g'):X:=.lit<|.int x
nonrec abbrev Ff:X:=.var 0
nonrec abbrev Fe:X:=.var 1
nonrec abbrev FD:X:=.var 2
nonrec abbrev GU:X:=.var 3
nonrec abbrev Iq:X:=.var 4
nonrec abbrev G_:X:=.var 5
nonrec abbrev Im:X:=.var 6
nonrec abbrev OO:X:=.var 7
nonrec abbrev Ru:X:=.var 8
nonrec abbrev lY:X:=.var 9
nonrec abbrev FN:D Q:="one"
nonrec abbrev Fx:D Q:="some"
nonrec abbrev Fy:D Q:="lone"
nonrec abbrev Fz:D Q:="name"
nonrec abbrev Gv:D Q:="set"
nonrec abbrev Gn:D Q:="sign"
nonrec abbrev G2:D Q:="sig"
nonrec abbrev GF:D Q:="disj"
nonrec abbrev GH:D Q:="else"
nonrec abbrev HE:D Q:="let"
nonrec abbrev HF:D Q:="num"
nonrec abbrev HG:D Q:="end"
nonrec abbrev Ho:D Q:="none"
nonrec abbrev Hq:D Q:="univ"
nonrec abbrev Hr:D Q:="iden"
nonrec abbrev Io:D Q:="Box"
nonrec abbrev HQ:D Q:="open"
nonrec abbrev HR:D Q:="fact"
nonrec abbrev GI:D Q:="assert"
nonrec abbrev HS:D Q:="pred"
nonrec abbrev Ma:D Q:="fun"
nonrec abbrev H0:D Q:="check"
nonrec abbrev GA:D Q:="abstract"
nonrec abbrev Iu:D Q:="quant"
nonrec abbrev Iv:D Q:="arrow"
nonrec abbrev E3:D Q:="abcdefghijklmnopqrstuvwxyzABCDEFGHIJKLMNOPQRSTUVWXYZ_"
nonrec abbrev Mu:D Q:="enum"
nonrec abbrev Hh:D Q:="exactly"
nonrec abbrev Iw:D Q:="block"
nonrec abbrev Ix:D Q:="expect"
nonrec abbrev H1:D Q:="extends"
nonrec abbrev Hj:D Q:="util/ordering"
structure Gu where
 G:Gl
 P:Pg
 W:Q
 fa:Q→w_
 ca:Q→w_
abbrev FS:Q→D (D Q)
 |0=>["cells","spot","left"]
 |1=>["text","spot"]
 |_=>["tokens","place","depth"]
def qv (c:Q):(FS c).Nodup:=by
 match c with
 |0=>decide
 |1=>decide
 |c+2=>refine(?_:([_,_,_]:D<|D Q).Nodup);decide
def yL (c:Q):(FS c).length≤3:=by
 match c with
 |0=>decide
 |1=>decide
 |c+2=>exact j2 3
nonrec abbrev Fp:=w_→Prop
abbrev Ip (σ:MH) (N':Fp) (m:MV):Fl→Prop
 | .d m'=>m=m'
 | .l l=>∃a,m=.ref a∧σ a=R (.list l)∧N' a
abbrev GB (σ:MH) (N':Fp) (ks:D<|D Q) (es:D<|D Q×MV) (fs:D Fl):Prop:=(∃r,ks=es.map (·.1)++r)∧F2 (λe f=>Ip σ N' e.2 f) es fs
abbrev I3 (B:Gu) (σ:MH) (N':Fp) (m:MV):Th→Prop
 | .d m'=>m=m'
 | .l l=>∃a,m=.ref a∧σ a=R (.list l)∧N' a
 | .o 0 fs=>∃a es,m=.ref a∧σ a=R (.dict es)∧N' a∧GB σ N' (FS 0) es fs
 | .o (c+1) fs=>∃a d es,m=.ref a∧σ a=R (.inst (B.ca<|c+1) d)∧σ d=R (.dict es)∧N' a∧N' d∧GB σ N' (FS<|c+1) es fs
abbrev ZK (σ:MH) (m:MV):Vw→Prop
 | .d m'=>m=m'
 | .l l=>∃a,m=.ref a∧σ a=R (.list l)
end
section
mutual namespace A
variable {B:Gu} {σ σ':MH} {N' Q':Fp}
def Ip.cong (h:∀a,N' a→σ' a=σ a) (q:∀a,N' a→Q' a) {m:MV} {f:Fl} (x:Ip σ N' m f):Ip σ' Q' m f:=by
 induction f with
 |d _=>exact x
 |l _=>exact Hs x λa e s p=>⟨a,e,(h a p).trans s,q a p⟩
def GB.nil {ks:D<|D Q}:GB σ N' ks [] []:=⟨⟨ks,C⟩,F2.nil⟩
def GB.cons {k:D Q} {ks:D<|D Q} {m:MV} {es:D<|D Q×MV} {f:Fl} {fs:D Fl} (x:Ip σ N' m f) (y:GB σ N' ks es fs):GB σ N' (k::ks) ((k,m)::es)<|f::fs:=⟨y.1.elim λr e=>⟨r,Li (k:: ·) e⟩,F2.cons x y.2⟩
def GB.cong (h:∀a,N' a→σ' a=σ a) (q:∀a,N' a→Q' a) {ks:D<|D Q} {es:D<|D Q×MV} {fs:D Fl} (x:GB σ N' ks es fs):GB σ' Q' ks es fs:=⟨x.1,F2.mono (λH H p=>Ip.cong h q p) x.2⟩
def I3.cong (h:∀a,N' a→σ' a=σ a) (q:∀a,N' a→Q' a) {m:MV} {t:Th} (x:I3 B σ N' m t):I3 B σ' Q' m t:=by
 induction t with
 |d _=>exact x
 |l _=>exact Hs x λa e s p=>⟨a,e,(h a p).trans s,q a p⟩
 |o c _=>
  induction c with
  |zero=>exact Og x λa es e s p f=>⟨a,es,e,(h a p).trans s,q a p,f.cong h q⟩
  |succ c=>exact M0 x λa d es e s s2 p p2 f=>⟨a,d,es,e,(h a p).trans s,(h d p2).trans s2,q a p,q d p2,f.cong h q⟩
def I3.vw {m:MV}:∀{t:Th} {x:Vw},I3 B σ N' m t→t.vw=R x→ZK σ m x
 | .d _,_,h,e=>by replace e:=z' e;subst e;exact h
 | .l _,_,⟨a,e1,s,_⟩,e=>by replace e:=z' e;subst e;exact⟨a,e1,s⟩
 | .o _ _,_,_,e=>by exact nO e
def Ip.vw {m:MV}:∀{f:Fl},Ip σ N' m f→ZK σ m f.vw
 | .d _,h=>h
 | .l _,⟨a,e1,s,_⟩=>⟨a,e1,s⟩
def Ip.th {m:MV}:∀{f:Fl} {t:Th},I3 B σ N' m t→t.fl=R f→Ip σ N' m f
 |_,.d _,h,e=>by replace e:=z' e;subst e;exact h
 |_,.l _,h,e=>by replace e:=z' e;subst e;exact h
 |_,.o _ _,_,e=>by exact nO e
def F2.get {α β:Type} {I':α→β→Prop} {l:D α} {m:D β} (h:F2 I' l m):∀{i:Q} {b:β},m[i]?=R b→∃a,l[i]?=R a∧I' a b:=
 F2.ind (P:=λl m=>∀{i:Q} {b:β},m[i]?=R b→∃a,l[i]?=R a∧I' a b) (λe=>nomatch e) (λa b l m p H ih i x e=>by
  induction i with
  |zero=>exact⟨a,C,z' e▸p⟩
  |succ i=>exact ih e) h
def F2.set {α β:Type} {I':α→β→Prop} {l:D α} {m:D β} {a:α} {b:β} (i:Q) (h:F2 I' l m) (r:I' a b):F2 I' (l.set i a)<|m.set i b:=by
 refine F2.ind (P:=λl m=>∀i,F2 I' (l.set i a)<|m.set i b) (λH=>.nil) (λx y l m p q ih i=>?_) h i
 induction i with
 |zero=>exact .cons r q
 |succ i=>exact .cons p<|ih i
def F2.app {α β:Type} {I':α→β→Prop} {l:D α} {m:D β} {a:α} {b:β} (h:F2 I' l m) (r:I' a b):F2 I' (l++[a])<|m++[b]:=
 F2.ind (P:=λl m=>F2 I' (l++[a])<|m++[b]) #[r] (λH H H H p H ih=>.cons p ih) h
def Xi {es:D<|D Q×MV} {k:D Q} {e:D Q×MV} {i:Q} (h:k∉es.map (·.1)) (x:es[i]?=R e):¬k=e.1:=λq=>h<|q▸BI (W3 x)
def zdo {es:D<|D Q×MV} {i:Q} {e:D Q×MV} (nd:(es.map (·.1)).Nodup) (h:es[i]?=R e):zA e.1 es=R e.2:=by
 induction es generalizing i with
 |nil=>exact nO h
 |cons a es ih=>
  replace nd:=Bg.mp nd
  induction i with
  |zero=>replace h:=z' h;subst h;exact wK C
  |succ i=>exact(kO<|Xi nd.1 h).trans (ih nd.2 h)
def zdp {es:D<|D Q×MV} {i:Q} {k:D Q} {m m0:MV} (nd:(es.map (·.1)).Nodup) (h:es[i]?=R (k,m0)):qG k m es=es.set i (k,m):=by
 induction es generalizing i with
 |nil=>exact nO h
 |cons a es ih=>
  replace nd:=Bg.mp nd
  induction i with
  |zero=>replace h:=z' h;subst h;exact JZ C
  |succ i=>exact(yK<|Xi nd.1 h).trans (Li (a:: ·)<|ih nd.2 h)
def Xj {α:Type} {l:D α} {i:Q} {a:α} (h:l[i]?=R a):l.set i a=l:=by
 induction l generalizing i with
 |nil=>rfl
 |cons b l ih=>
  induction i with
  |zero=>replace h:=z' h;subst h;rfl
  |succ i=>exact Li (b:: ·)<|ih h
def Xk {es:D<|D Q×MV} {k:D Q} {m:MV} (h:k∉es.map (·.1)):qG k m es=es++[(k,m)]:=by
 induction es with
 |nil=>rfl
 |cons a es ih=>exact(yK λq=>h<|w3.mpr<|.inl q.symm).trans (Li (a:: ·)<|ih λq=>h (q_ _ q))
end
mutual section
variable {ks:D<|D Q} {es:D<|D Q×MV} {fs:D Fl} {i:Q} {f:Fl} {k:D Q} {m:MV}
def GB.len (h:GB σ N' ks es fs):es.length=fs.length:=F2.len h.2
def GB.keys (h:GB σ N' ks es fs):es.map (·.1)=ks.take fs.length:=h.1.elim λr e=>by(refine rq e ?_;refine rp h.len ?_;refine rp (j9 (·.1)) ?_;exact rq D.take_left C)
def GB.lenk (h:GB σ N' ks es fs):fs.length≤ks.length:=h.1.elim λr e=>by(refine rq e ?_;refine rq q8 ?_;rewrite [j9];refine rq h.len ?_);exact Q8 ..
def GB.nodup (h:GB σ N' ks es fs) (nd:ks.Nodup):(es.map (·.1)).Nodup:=h.1.elim λr e=>(EE.mp<|e▸nd).1
def GB.at_ (h:GB σ N' ks es fs) {e:D Q×MV} (x:es[i]?=R e):ks[i]?=R e.1:=h.1.elim λr q=>by
 have t:(es.map (·.1))[i]?=R e.1:=by(refine rq (D.getElem?_map) ?_;refine rq x ?_);rfl
 (refine rq q ?_;refine rq (D.getElem?_append_left (D.getElem?_eq_some_iff.mp t).1) ?_);exact t
def GB.get (h:GB σ N' ks es fs) (nd:ks.Nodup) (e:fs[i]?=R f):∃k m,ks[i]?=R k∧zA k es=R m∧Ip σ N' m f:=
 E7 (F2.get h.2 e) λa x r=>⟨a.1,a.2,h.at_ x,zdo (h.nodup nd) x,r⟩
def GB.set (h:GB σ N' ks es fs) (nd:ks.Nodup) (hk:ks[i]?=R k) (hi:i<fs.length) (g:Ip σ N' m f):GB σ N' ks (qG k m es)<|fs.set i f:=by
 have hi:i<es.length:=by rw[h.len];exact hi
 have x:es[i]?=R es[i]:=D.getElem?_eq_getElem hi
 have ek:k=es[i].1:=z'<|hk.symm.trans<|h.at_ x
 rw[zdp (m0:=es[i].2) (h.nodup nd)<|x.trans<|by rw[ek]]
 refine⟨h.1.elim λr e=>⟨r,?_⟩,F2.set i h.2 g⟩
 rw[D.map_set,Xj (a:=k)<|by rw[D.getElem?_map,x,ek];rfl]
 exact e
def GB.app (h:GB σ N' ks es fs) (nd:ks.Nodup) (hk:ks[fs.length]?=R k) (g:Ip σ N' m f):GB σ N' ks (qG k m es)<|fs++[f]:=by
 refine h.1.elim λr e=>?_
 rw[e,D.getElem?_append_right (by(rewrite [j9];refine rq h.len ?_);exact j2 _),j9,h.len,Q.sub_self]at hk
 cases r with
 |nil=>exact nO hk
 |cons k' r=>
  cases hk
  have n:k∉es.map (·.1):=λx=>(EE.mp<|e▸nd).2.2 _ x _ (j0 ..) C
  refine rq (Xk n) ?_
  exact⟨⟨r,by(refine rq D.map_append ?_;rw[j3]);exact e⟩,F2.app h.2 g⟩
end
mutual namespace A
structure Gg (B:Gu) (σ:MH) (ls:Q→Lc MV) (J:Ev) (P:Q→Fp):Prop where
 at_:∀i t,gt J i=R t→∃m,ls i=R m∧I3 B σ (P i) m t
 dj:∀i j a,P i a→P j a→i=j
 dm:∀i a,P i a→(σ a).isSome=f'
variable {ls ls':Q→Lc MV} {J:Ev} {P:Q→Fp}
def vL {J:Ev} {i j:Q} {x:Lc Th} (h:j≠i):gt (J.set i x) j=gt J j:=by
 unfold gt;exact rq (D.getElem?_set_ne<|Ne.symm h) C
def yf {J:Ev} {i:Q} {x:Lc Th} (h:i<J.length):gt (J.set i x) i=x:=by
 unfold gt;refine rq (D.getElem?_set_self h) ?_;rfl
def Qw {J:Ev} {i:Q}:gt (J.set i Z) i=Z:=by
 unfold gt
 by_cases h:i<J.length
 ·refine rq (D.getElem?_set_self h) ?_;rfl
 ·refine rq (D.getElem?_eq_none<|by simp;exact YJ h) ?_;rfl
def Xl {J:Ev} {i:Q} {t:Th} (h:gt J i=R t):i<J.length:=by
 unfold gt at h
 induction q:J[i]? with
 |Z=>rw[q]at h;exact nO h
 |R x=>exact(D.getElem?_eq_some_iff.mp q).1
def Gg.cong (O:Gg B σ ls J P) (h:∀i a,P i a→σ' a=σ a):Gg B σ' ls J P:=
 ⟨λi t e=>let ⟨m,a,b⟩:=O.at_ i t e;⟨m,a,b.cong (h i) λH x=>x⟩,O.dj,λi a p=>by refine rq (h i a p) ?_;exact O.dm i a p⟩
def Gg.drop (O:Gg B σ ls J P) (i:Q):Gg B σ ls (J.set i Z) λj a=>j≠i∧P j a:=
 ⟨λj t e=>by
  by_cases h:j=i
  ·subst h;rw[Qw]at e;exact nO e
  ·rw[vL h]at e
   refine E7 (O.at_ j t e) λm a b=>?_
   exact⟨m,a,b.cong (λH H=>C) λa p=>⟨h,p⟩⟩,λi j a p q=>O.dj i j a p.2 q.2,λj a p=>O.dm j a p.2⟩
def Gg.put (O:Gg B σ ls J P) {i:Q} {N':Fp} {m:MV} {t:Th} (hl:ls' i=R m) (hn:∀j,j≠i→ls' j=ls j) (T:I3 B σ N' m t) (hd:∀a,N' a→(σ a).isSome=f') (hj:∀a j,N' a→j≠i→¬P j a):
  Gg B σ ls' (st J i t) (λj a=>if j=i then N' a else P j a):=by
 refine⟨λj t' e=>?_,λj k a p q=>?_,λj a p=>?_⟩
 ·by_cases h:j=i
  ·subst h
   by_cases hlt:j<J.length
   ·unfold st at e;rw[yf hlt]at e;replace e:=z' e;subst e
    exact⟨m,hl,T.cong (λH H=>C) λa p=>by simp[p]⟩
   ·have:=Xl e;unfold st at this;simp at this;exact Lg this hlt
  ·unfold st at e;rw[vL h]at e
   refine E7 (O.at_ j t' e) λm' a b=>?_
   exact⟨m',(hn j h).trans a,b.cong (λH H=>C) λa p=>by simp[h,p]⟩
 ·by_cases Y:j=i<;>by_cases T':k=i
  ·(refine rq Y ?_;exact rq T' C)
  ·simp only[Y,if_true,T',if_false]at p q;exact Lg q<|hj a k p T'
  ·simp only[Y,if_false,T',if_true]at p q;exact Lg p<|hj a j q Y
  ·simp only[Y,if_false,T']at p q;exact O.dj j k a p q
 ·by_cases Y:j=i
  ·simp only[Y,if_true]at p;exact hd a p
  ·simp only[Y,if_false]at p;exact O.dm j a p
def Gg.putD (O:Gg B σ ls J P) {i:Q} {m:MV} (hl:ls' i=R m) (hn:∀j,j≠i→ls' j=ls j):Gg B σ ls' (st J i<|.d m) λj a=>j≠i∧P j a:=by
 have:=O.put (N':=λH=>False) hl hn (t:=.d m) C (λH h=>h.elim) λH H h=>h.elim
 refine⟨λj t e=>?_,λi j a p q=>O.dj i j a p.2 q.2,λj a p=>O.dm j a p.2⟩
 refine E7 (this.at_ j t e) λm' a b=>?_
 exact⟨m',a,b.cong (λH H=>C) λa p=>by
  by_cases h:j=i
  ·simp[h]at p
  ·simp[h]at p;exact⟨h,p⟩⟩
def Gg.none {P:Q→Fp} (dj:∀i j a,P i a→P j a→i=j) (dm:∀i a,P i a→(σ a).isSome=f'):Gg B σ ls [] P:=⟨λi t e=>by simp[gt]at e,dj,dm⟩
abbrev wB (N':Fp) (P:Q→Fp):Prop:=∀a i,N' a→¬P i a
abbrev res (σ:MH) (N':Fp):MH:=λa=>open Classical in if N' a then σ a else Cq
abbrev jn (σ τ:MH):MH:=λa=>(τ a).or<|σ a
def jF {a:w_} (h:N' a):res σ N' a=σ a:=by simp[res,h]
def qM {a:w_} (h:¬N' a):res σ N' a=Cq:=by simp[res,h]
def jG (σ:MH) (N':Fp):Le (res σ N') σ:=λa x e=>by
 by_cases h:N' a
 ·rwa [jF h]at e
 ·rw[qM h]at e;exact nO e
variable {s s':q7} {σ₂:MH}
def St.some {G:Gl} (S:St G σ s) {a:w_} {x:MO} (h:σ a=Lc.some x):∃o,s.heap.get? a=Lc.some o:=(S.own a x h).some
structure zsy (G:Gl) (σ σ₂ σ₃:MH) (N':Fp) (s s':q7):Prop where
 st:St G σ₃ s'
 step:FB σ σ₃ s.heap s'.heap
 old:∀a,¬N' a→(σ a).isSome=f'→σ₃ a=σ a
 new:∀a,(σ₂ a).isSome=f'→σ₃ a=σ₂ a
 frs:∀a,¬N' a→(σ a).isSome=f'→σ₂ a=Cq
def Vy {G:Gl} (S:St G σ s) (S2:St G σ₂ s') (P2:FB (res σ N') σ₂ s.heap s'.heap):zsy G σ σ₂ (jn (res σ λa=>¬N' a) σ₂) N' s s':=by
 have frs:∀a,¬N' a→(σ a).isSome=f'→σ₂ a=Cq:=λa hq hs=>by
  refine Fg (V3.mp hs) λx e=>?_
  refine Fg (S.some e) λo ho=>?_
  exact P2.dom a o ho<|qM hq
 have old:∀a,¬N' a→(σ a).isSome=f'→jn (res σ λa=>¬N' a) σ₂ a=σ a:=λa hq hs=>by
  simp only[jn,frs a hq hs,Cp];exact jF hq
 have new:∀a,(σ₂ a).isSome=f'→jn (res σ λa=>¬N' a) σ₂ a=σ₂ a:=λa hs=>by
  refine Fg (V3.mp hs) λx e=>?_
  simp[jn,e]
 refine⟨⟨S2.keep,λa x e=>?_,λa x e=>?_,S2.gens,S2.os⟩,⟨λa o e n=>?_,λa o e n=>?_⟩,old,new,frs⟩
 ·induction q:σ₂ a with
  |R y=>simp only[jn,q,Lc.some_or]at e;cases e;exact S2.own a x q
  |Z=>
   simp only[jn,q,Cp]at e
   by_cases hq:N' a
   ·rw[qM (N':=λa=>¬N' a) λh=>h hq]at e;exact nO e
   ·rw[jF (N':=λa=>¬N' a) hq]at e
    exact(S.own a x e).ext ((S.le<|jG σ N').tupExt P2) λo ho=>P2.un a o ho<|qM hq
 ·induction q:σ₂ a with
  |R y=>exact S2.new a y q
  |Z=>
   simp only[jn,q,Cp]at e
   by_cases hq:N' a
   ·rw[qM (N':=λa=>¬N' a) λh=>h hq]at e;exact nO e
   ·rw[jF (N':=λa=>¬N' a) hq]at e;exact S.new a x e
 ·exact P2.un a o e<|(EF<|N' a).elim (λhq=>by refine rq (jF hq) ?_;exact n) qM
 ·have Y:σ₂ a=Cq:=P2.dom a o e<|(EF<|N' a).elim (λhq=>by refine rq (jF hq) ?_;exact n) qM
  simp only[jn,Y,Cp]
  by_cases hq:N' a
  ·exact qM (N':=λa=>¬N' a) λh=>h hq
  ·refine rq (jF (N':=λa=>¬N' a) hq) ?_;exact n
end
end
mutual namespace A
structure Fs (Lo:Env) (sc:w7) (Ln:D Lf):Prop where
 es:Lo.scope=sc
 gl:Lo.globals=x_
 bi:Lo.builtins=B9
 kd:sc.kind=.function
 lo:∀x∈Ln,sc.names.lookup x=R .local
structure zN (B:Gu):Prop where
 X:B.G.K.In B.G.h0
 g:∃mg,B.G.h0.Ns x_ mg
 b:∃mb,B.G.h0.Ns B9 mb∧∀x:Lf,x≠s!"__name__"→mb x=BY x
 lim:B.G.h0.NoLimit
 cf:∀c,CF B.G (B.ca<|c+1)
 af:∀c k,k∈FS (c+1)→AF B.G (B.ca<|c+1) (E5 k)
structure Fm (h:y9) (σ:MH) (L:w_) (Ln:D Lf) (ls:Q→Lc MV):Prop where
 ns:∃mm,h.Ns L mm∧∀i m,ls i=R m→∃x v,Ln[i]?=R x∧mm x=R v∧FP h v m
 no:σ L=Z
def Fm.step {h h':y9} {σ σ':MH} {L:w_} {Ln:D Lf} {ls:Q→Lc MV} (F:Fm h σ L Ln ls) (P:FB σ σ' h h') (te:zQ h h'):Fm h' σ' L Ln ls:=by
 obtain⟨mm,⟨o,es,ep,ho,r⟩,hl⟩:=F.ns
 exact⟨⟨mm,⟨o,es,ep,P.un _ _ ho F.no,r⟩,λi m e=>let ⟨x,v,a,b,c⟩:=hl i m e;⟨x,v,a,b,c.ext te⟩⟩,P.dom _ _ ho F.no⟩
structure SO (B:Gu) (σ:MH) (h:y9) (ls:Q→Lc MV) (pu:Ld) (ρ':Ev) (s':q7) (σ':MH) (P':Q→Fp):Prop where
 st:St B.G σ' s'
 step:FB σ σ' h s'.heap
 own:Gg B σ' ls ρ' P'
 te:zQ h s'.heap
 pu:pu=f'→σ'=σ
structure PEx (B:Gu) (σ:MH) (h:y9) (ls:Q→Lc MV) (pu:Ld) (t:Th) (ρ':Ev) (v:q4) (s':q7) (m:MV) (σ':MH) (P':Q→Fp) (N':Fp):Prop where
 so:SO B σ h ls pu ρ' s' σ' P'
 rep:FP s'.heap v m
 at_:I3 B σ' N' m t
 dm:∀a,N' a→(σ' a).isSome=f'
 ap:wB N' P'
abbrev PE (B:Gu) (σ:MH) (h:y9) (ls:Q→Lc MV) (pu:Ld) (t:Th) (ρ':Ev) (v:q4) (s':q7):Prop:=∃m σ' P' N',PEx B σ h ls pu t ρ' v s' m σ' P' N'
abbrev PD (B:Gu) (σ:MH) (h:y9) (ls:Q→Lc MV) (pu:Ld) (m:MV) (ρ':Ev) (v:q4) (s':q7):Prop:=FP s'.heap v m∧∃σ' P',SO B σ h ls pu ρ' s' σ' P'
abbrev PO (B:Gu) (σ:MH) (h:y9) (ls:Q→Lc MV) (pu:Ld) (x:Vw) (ρ':Ev) (v:q4) (s':q7):Prop:=∃m σ' P',FP s'.heap v m∧ZK σ' m x∧SO B σ h ls pu ρ' s' σ' P'
abbrev PT (B:Gu) (σ:MH) (h:y9) (ls:Q→Lc MV) (b:Ld) (ρ':Ev) (b':Ld) (s':q7):Prop:=b'=b∧∃σ' P',SO B σ h ls La ρ' s' σ' P'
abbrev PL (B:Gu) (σ:MH) (h:y9) (ls:Q→Lc MV) (ms:D MV) (ρ':Ev) (vs:D q4) (s':q7):Prop:=FJ s'.heap vs ms∧∃σ' P',SO B σ h ls La ρ' s' σ' P'
end
section
mutual namespace A
variable {B:Gu} {n:Q} {σ σ' σ'':MH} {h h':y9} {ls:Q→Lc MV} {pu pu':Ld} {t:Th} {m:MV} {J ρ' ρ'':Ev} {v:q4} {s s' s'':q7} {P P' P'':Q→Fp} {A:Z6}
def zg {h h' h'':y9} (a:zQ h h') (b:zQ h' h''):zQ h h'':=λx y z=>b x y<|a x y z
def SO.trans (a:SO B σ h ls pu ρ' s' σ' P') (b:SO B σ' s'.heap ls pu' ρ'' s'' σ'' P''):SO B σ h ls (pu&&pu') ρ'' s'' σ'' P'':=
 ⟨b.st,a.step.trans b.step,b.own,zg a.te b.te,λe=>by rw[V1]at e;(refine rq (b.pu e.2) ?_;exact rq (a.pu e.1) C)⟩
def SO.weak (a:SO B σ h ls pu ρ' s' σ' P'):SO B σ h ls La ρ' s' σ' P':=⟨a.st,a.step,a.own,a.te,λe=>nB e⟩
def SO.refl (S:St B.G σ s) (O:Gg B σ ls J P):SO B σ s.heap ls pu J s σ P:=⟨S,FB.refl _ _,O,λH H x=>x,λH=>C⟩
def SO.fm {L:w_} {Ln:D Lf} (a:SO B σ h ls pu ρ' s' σ' P') (F:Fm h σ L Ln ls):Fm s'.heap σ' L Ln ls:=F.step a.step a.te
def SO.more (a:SO B σ h ls pu ρ' s' σ' P') (S:St B.G σ' s'') (T:FB σ' σ' s'.heap s''.heap):SO B σ h ls pu ρ' s'' σ' P':=
 ⟨S,a.step.trans T,a.own,zg a.te<|a.st.tupExt T,a.pu⟩
def PE.dat (p:PE B σ h ls pu t ρ' v s') (e:t.dat=R m):PD B σ h ls pu m ρ' v s':=by
 refine N8 p λm' σ' P' N' x=>?_
 clear p;induction t with
 |d m2=>cases e;have:=x.at_;exact⟨(x.at_:m'=m)▸x.rep,σ',P',x.so⟩
 |l _=>exact nO e
 |o _ _=>exact nO e
def PD.pe (p:PD B σ h ls pu m ρ' v s'):PE B σ h ls pu (.d m) ρ' v s':=
 let ⟨r,σ',P',x⟩:=p;⟨m,σ',P',λH=>False,x,r,C,λH h=>h.elim,λH H h=>h.elim⟩
def qH {t:Th} {b:Ld} (e:HY t=R b):t=.d (.bool b):=by
 cases t with
 |d m=>cases m<;>(first|exact nO e|cases e);rfl
 |l _=>exact nO e
 |o _ _=>exact nO e
def Xm {t:Th} {m:MV} (e:t.dat=R m):t=.d m:=by induction t<;>(first|exact nO e|cases e);rfl
def Vz {v:q4} {z:MV} (a:SO B σ h ls pu ρ' s' σ' P') (p:Fh B.G σ' s' (λm τ=>m=z∧τ=σ') v s''):PD B σ h ls pu z ρ' v s'':=by
 refine RO p λm τ r S T e5 e6=>?_
 clear p;subst e5
 subst e6
 exact⟨r,τ,P',a.more S T⟩
structure Fj (B:Gu) (n:Q) (sc:w7) (Ln:D Lf) (x:X) (e:Lb):Prop where
 h:∀{Lo:Env} {A:Z6} {s:q7} {σ:MH} {ls:Q→Lc MV} {P:Q→Fp} {J ρ':Ev} {t:Th},E0 B.P (EZ B.P B.W n) x J=R (t,ρ')→Fs Lo sc Ln→Nl A n→St B.G σ s→
  Fm s.heap σ Lo.locals Ln ls→Gg B σ ls J P→q9 B.G.M A (V8 e Lo) (PE B σ s.heap ls (ON x) t ρ') Er s
structure Go (B:Gu) (n:Q) (sc:w7) (Ln:D Lf) (x:X) (e:Lb):Prop where
 h:∀{Lo:Env} {A:Z6} {s:q7} {σ:MH} {ls:Q→Lc MV} {P:Q→Fp} {J ρ':Ev} {b:Ld},E0 B.P (EZ B.P B.W n) x J=R (.d<|.bool b,ρ')→Fs Lo sc Ln→Nl A n→St B.G σ s→
  Fm s.heap σ Lo.locals Ln ls→Gg B σ ls J P→q9 B.G.M A (DF e Lo<|V8 e Lo) (PT B σ s.heap ls b ρ') Er s
structure HT (B:Gu) (n:Q) (sc:w7) (Ln:D Lf) (x:X) (e:Lb):Prop where
 h:∀{Lo:Env} {A:Z6} {s:q7} {σ:MH} {ls:Q→Lc MV} {P:Q→Fp} {J ρ':Ev} {w:Vw},opn x (E0 B.P (EZ B.P B.W n) x) J=R (w,ρ')→Fs Lo sc Ln→Nl A n→St B.G σ s→
  Fm s.heap σ Lo.locals Ln ls→Gg B σ ls J P→q9 B.G.M A (V8 e Lo) (PO B σ s.heap ls (Hw x||ON x) w ρ') Er s
structure No (B:Gu) (n:Q) (sc:w7) (Ln:D Lf) (x:X) (es:D Lb):Prop where
 h:∀{Lo:Env} {A:Z6} {s:q7} {σ:MH} {ls:Q→Lc MV} {P:Q→Fp} {J ρ':Ev} {ms:D MV} {pos:Pos},Oi B.P (EZ B.P B.W n) x J=R (ms,ρ')→Fs Lo sc Ln→Nl A n→St B.G σ s→
  Fm s.heap σ Lo.locals Ln ls→Gg B σ ls J P→q9 B.G.M A (BW<|BH pos<|W9 es Lo) (PL B σ s.heap ls ms ρ') Er s
variable {sc:w7} {Ln:D Lf}
def Xn {L:w_} {i:Q} {x:Lf} (F:Fm h σ L Ln ls) (hv:Ln[i]?=R x) {m:MV} (e:ls i=R m):∃mm v,h.Ns L mm∧mm x=R v∧FP h v m:=by
 refine E7 F.ns λmm hn hl=>?_
 refine Fv (hl i m e) λx' v a b c=>?_
 rw[hv]at a;replace a:=z' a;clear hv;subst a
 exact⟨mm,v,hn,b,c⟩
def Fs.local {Lo:Env} (O:Fs Lo sc Ln) {i:Q} {x:Lf} (hv:Ln[i]?=R x):Lo.kindOf x=R .local:=by
 unfold Env.kindOf;refine rq O.es ?_;exact O.lo x<|W3 hv
def Fs.kind {Lo:Env} (O:Fs Lo sc Ln):Lo.scope.kind=.function:=by refine rq O.es ?_;exact O.kd
def zH {Lo:Env} {E:q4→q7→Prop} {i:Q} {x:Lf} {p:Pos} {N':q4→q7→Prop} (O:Fs Lo sc Ln) (F:Fm s.heap σ Lo.locals Ln ls) (hv:Ln[i]?=R x) (hd:(x==(s!"__debug__":Lf))=La)
  (e:ls i=R m) (h:∀v,FP s.heap v m→N' v s):q9 B.G.M A (V8 (.Name x p) Lo) N' E s:=by
 refine Fv (Xn F hv e) λmm v hn hx r=>?_
 exact CB (BM O.kind (O.local hv) hn hx<|h v r) hd
structure Cx (B:Gu) (n:Q) (sc:w7) (Ln:D Lf) (Lo:Env) (A:Z6) (s:q7) (σ:MH) (ls:Q→Lc MV) (P:Q→Fp) (J:Ev):Prop where
 O:Fs Lo sc Ln
 aa:Nl A n
 S:St B.G σ s
 F:Fm s.heap σ Lo.locals Ln ls
 W:Gg B σ ls J P
end
mutual section
variable {Lo:Env}
def Cx.next {ρ1:Ev} (c:Cx B n sc Ln Lo A s σ ls P J) (x:SO B σ s.heap ls pu ρ1 s' σ' P'):Cx B n sc Ln Lo A s' σ' ls P' ρ1:=⟨c.O,c.aa,x.st,x.fm c.F,x.own⟩
def Fj.mk1 {x:X} {e:Lb} (h:∀(Lo:Env) (A:Z6) (s:q7) (σ:MH) (ls:Q→Lc MV) (P:Q→Fp) (J:Ev) (r:Th×Ev) (N':q4→q7→Prop),Cx B n sc Ln Lo A s σ ls P J→E0 B.P (EZ B.P B.W n) x J=R r→
  (∀v s',PE B σ s.heap ls (ON x) r.1 r.2 v s'→N' v s')→q9 B.G.M A (V8 e Lo) N' Er s):Fj B n sc Ln x e:=
 ⟨λe1 O aa S F W=>h _ _ _ _ _ _ _ _ _ ⟨O,aa,S,F,W⟩ e1 λH H x=>x⟩
def Go.mk1 {x:X} {e:Lb} (h:∀(Lo:Env) (A:Z6) (s:q7) (σ:MH) (ls:Q→Lc MV) (P:Q→Fp) (J:Ev) (r:Th×Ev) (b:Ld) (N':Ld→q7→Prop),Cx B n sc Ln Lo A s σ ls P J→E0 B.P (EZ B.P B.W n) x J=R r→r.1=.d (.bool b)→
  (∀s' σ' P',SO B σ s.heap ls La r.2 s' σ' P'→N' b s')→q9 B.G.M A (DF e Lo<|V8 e Lo) N' Er s):Go B n sc Ln x e:=
 ⟨λe1 O aa S F W=>h _ _ _ _ _ _ _ _ _ _ ⟨O,aa,S,F,W⟩ e1 C λH H H x=>⟨C,_,_,x⟩⟩
def Fj.d {x:X} {e:Lb} (z_:Fj B n sc Ln x e) {t:Th} {m:MV} {ρ1:Ev} {N':q4→q7→Prop} (c:Cx B n sc Ln Lo A s σ ls P J) (e1:E0 B.P (EZ B.P B.W n) x J=R (t,ρ1)) (ed:t.dat=R m)
  (k:∀v s1 σ1 P1,FP s1.heap v m→SO B σ s.heap ls (ON x) ρ1 s1 σ1 P1→Cx B n sc Ln Lo A s1 σ1 ls P1 ρ1→N' v s1):q9 B.G.M A (V8 e Lo) N' Er s:=
 q5 (z_.h e1 c.O c.aa c.S c.F c.W) (λv s1 Y=>k v s1 _ _ (Y.dat ed).1 (Y.dat ed).2.choose_spec.choose_spec<|c.next (Y.dat ed).2.choose_spec.choose_spec) λH H x=>x
def HT.o {x:X} {e:Lb} (z_:HT B n sc Ln x e) {w:Vw} {ρ1:Ev} {N':q4→q7→Prop} (c:Cx B n sc Ln Lo A s σ ls P J) (e1:opn x (E0 B.P (EZ B.P B.W n) x) J=R (w,ρ1))
  (k:∀v m s1 σ1 P1,FP s1.heap v m→ZK σ1 m w→SO B σ s.heap ls (Hw x||ON x) ρ1 s1 σ1 P1→Cx B n sc Ln Lo A s1 σ1 ls P1 ρ1→N' v s1):q9 B.G.M A (V8 e Lo) N' Er s:=
 q5 (z_.h e1 c.O c.aa c.S c.F c.W) (λv s1 h=>Gm h λm σ1 P1 r w x=>k v m s1 _ _ r w x<|c.next x) λH H x=>x
def Go.tt {x:X} {e:Lb} (z_:Go B n sc Ln x e) {b:Ld} {ρ1:Ev} {N':Ld→q7→Prop} (c:Cx B n sc Ln Lo A s σ ls P J) (e1:E0 B.P (EZ B.P B.W n) x J=R (.d<|.bool b,ρ1))
  (k:∀s1 σ1 P1,SO B σ s.heap ls La ρ1 s1 σ1 P1→Cx B n sc Ln Lo A s1 σ1 ls P1 ρ1→N' b s1):q9 B.G.M A (DF e Lo<|V8 e Lo) N' Er s:=
 q5 (z_.h e1 c.O c.aa c.S c.F c.W) (λv s1 h=>rq h.1<|Ib h.2 λH H x=>k s1 _ _ x (c.next x)) λH H x=>x
def No.r {x:X} {es:D Lb} (z_:No B n sc Ln x es) {ms:D MV} {ρ1:Ev} {pos:Pos} {N':D q4→q7→Prop} (c:Cx B n sc Ln Lo A s σ ls P J) (e1:Oi B.P (EZ B.P B.W n) x J=R (ms,ρ1))
  (k:∀vs s1 σ1 P1,FJ s1.heap vs ms→SO B σ s.heap ls La ρ1 s1 σ1 P1→Cx B n sc Ln Lo A s1 σ1 ls P1 ρ1→N' vs s1):q9 B.G.M A (BW<|BH pos<|W9 es Lo) N' Er s:=
 q5 (z_.h e1 c.O c.aa c.S c.F c.W) (λvs s1 h=>Ib h.2 λH H x=>k vs s1 _ _ h.1 x<|c.next x) λH H x=>x
def jZ {I':Sem q4} {z:MV} {N':q4→q7→Prop} (a:SO B σ h ls pu ρ' s' σ' P') (w:q9 B.G.M A I' (Fh B.G σ' s' λm τ=>m=z∧τ=σ') Er s') (k:∀v s'',PE B σ h ls pu (.d z) ρ' v s''→N' v s''):q9 B.G.M A I' N' Er s':=
 q5 w (λH H h=>k _ _ (Vz a h).pe) λH H x=>x
end
mutual namespace A
def zpv {P:Pg} {cl:HM} {i:Q} {r:Th×Ev} (e:E0 P cl (.var i) J=R r) {G:Prop} (k:∀m,gt J i=R (.d m)→(.d m,J)=r→G):G:=by
 replace e:(match gt J i with|R (.d m)=>R (Th.d m,J)|_=>Z)=R r:=e
 induction h:gt J i with
 |Z=>rw[h]at e;exact nO e
 |R t=>
  rw[h]at e
  induction t with
  |d m=>exact k m h<|z' e
  |l _=>exact nO e
  |o _ _=>exact nO e
def zsz {P:Pg} {cl:HM} {i:Q} {r:Th×Ev} (e:E0 P cl (.mv i) J=R r) {G:Prop} (k:∀l,gt J i=R (.l l)→(.l l,J.set i Z)=r→G):G:=by
 replace e:(match gt J i with|R (.l l)=>R (Th.l l,J.set i Z)|_=>Z)=R r:=e
 induction h:gt J i with
 |Z=>rw[h]at e;exact nO e
 |R t=>
  rw[h]at e
  induction t with
  |d m=>exact nO e
  |l _=>exact k _ h<|z' e
  |o _ _=>exact nO e
def PD.e {pu:Ld} {v:q4} {z:MV} {N':q4→q7→Prop} (r:FP s'.heap v z) (x:SO B σ h ls pu ρ' s' σ' P') (k:∀v s',PE B σ h ls pu (.d z) ρ' v s'→N' v s'):N' v s':=k _ _<|PD.pe ⟨r,_,_,x⟩
def KV {i:Q} {x:Lf} {p:Pos} (hv:Ln[i]?=R x) (hd:(x==(s!"__debug__":Lf))=La):Fj B n sc Ln (.var i)<|.Name x p:=.mk1 λLo A s σ ls P J w N' c e k=>zpv e λm hm e=>by
 subst e
 refine E7 (c.W.at_ _ _ hm) λm' hl ht=>?_
 replace ht:m'=m:=ht
 clear hm;subst ht
 exact zH c.O c.F hv hd hl λv r=>PD.e r (SO.refl c.S c.W) k
def Qx {i:Q} {x:Lf} {p:Pos} (hv:Ln[i]?=R x) (hd:(x==(s!"__debug__":Lf))=La):HT B n sc Ln (.var i)<|.Name x p:=⟨by
 intro Lo A s σ ls P J ρ' w e O a S F W
 refine qa (o:=gD (.var i) J) e λw' e1 e2=>zB (o:=gt J i) e1 λt ht hw=>?_
 clear e e1;cases e2
 exact E7 (W.at_ _ _ ht) λm' hl ha=>zH O F hv hd hl λv r=>⟨m',σ,P,r,ha.vw hw,SO.refl S W⟩⟩
def zik {i:Q} {x:Lf} {p:Pos} (hv:Ln[i]?=R x) (hd:(x==(s!"__debug__":Lf))=La):Fj B n sc Ln (.mv i)<|.Name x p:=.mk1 λLo A s σ ls P J w N' c e k=>zsz e λl hm e=>by
 subst e
 exact E7 (c.W.at_ _ _ hm) λm' hl ht=>zH c.O c.F hv hd hl λv r=>k _ _ ⟨m',σ,_,P i,⟨c.S,FB.refl _ _,c.W.drop i,λH H x=>x,λe=>nB e⟩,r,ht,c.W.dm i,λa j q p=>p.1<|c.W.dj j i a p.2 q⟩
def oW {P:Pg} {cl:HM} {x:X} {w:Vw} {ρ1:Ev} (hp:Hw x=La) (e:opn x (E0 P cl x) J=R (w,ρ1)) {G:Prop} (k:∀t,E0 P cl x J=R (t,ρ1)→t.vw=R w→G):G:=by
 replace e:(if Hw x then(gD x J).map λv=>(v,J)else(E0 P cl x J).bind λ(x,J)=>x.vw.map λv=>(v,J))=R (w,ρ1):=e
 rw[hp,Lj<|by decide]at e
 refine zh e λt ρ2 e1 e=>qa e λw' hw e=>?_
 cases e
 exact k t e1 hw
def Xo {x:X} {e:Lb} (hp:Hw x=La) (z_:Fj B n sc Ln x e):HT B n sc Ln x e:=⟨λe1 O a S F W=>oW hp e1 λt e1 hw=>q5 (z_.h e1 O a S F W) (λv s' h=>N8 h λm σ' P' N' x=>⟨m,σ',P',x.rep,x.at_.vw hw,by refine rq hp ?_;exact x.so⟩) λH H x=>x⟩
def yM {x:X} {e:Lb} (z_:Fj B n sc Ln x e) (he:∀Lo whole,DF e Lo whole=(do let v ←whole;Cg e.pos;Dp [v] (truthy v))):Go B n sc Ln x e:=.mk1 λLo A s σ ls P J w b N' c e1 eb k=>
 wpAny_isTrue_value (z_.d (t:=w.1) (ρ1:=w.2) (m:=.bool b) c e1 (by refine rq eb ?_;rfl) λv s1 σ1 P1 r x c1=>by
  refine rq r.bool_i ?_;exact Bx<|k _ _ _ x.weak) (he _ _)
def ZL {k p}:Fj B n sc Ln (.lit .none)<|.Constant .none k p:=.mk1 λLo A s σ ls P J w N' c e k=>by
 replace e:=z' e;subst e
 exact wpAny_Constant_none<|PD.e .none (SO.refl c.S c.W) k
def ZM {b:Ld} {k p}:Fj B n sc Ln (.lit<|.bool b)<|.Constant (.bool b) k p:=.mk1 λLo A s σ ls P J w N' c e k=>by
 replace e:=z' e;subst e
 exact wpAny_Constant_bool<|PD.e (.bool _) (SO.refl c.S c.W) k
def Qy {i:g'} {k p}:Fj B n sc Ln (.lit<|.int i)<|.Constant (.int i) k p:=.mk1 λLo A s σ ls P J w N' c e k=>by
 replace e:=z' e;subst e
 exact Y9<|PD.e (.int _ _) ((SO.refl c.S c.W).more (c.S.toks _)<|FB.refl _ _) k
def yg {l:D Q} {x:Lf} {k p} (hx:x=E5 l):Fj B n sc Ln (.lit<|.str l)<|.Constant (.str x) k p:=.mk1 λLo A s σ ls P J w N' c e k=>by
 replace e:=z' e;subst e
 subst hx
 exact V2<|PD.e (.str _ _) ((SO.refl c.S c.W).more (c.S.toks _)<|FB.refl _ _) k
def St.tup0 {G:Gl} (S:St G σ s):zQ G.h0 s.heap:=λa H ⟨n,e⟩=>⟨n,S.keep _ _ e⟩
def Fs.glob {Lo:Env} (O:Fs Lo sc Ln) {x:Lf} (hx:sc.names.lookup x=R .globalImplicit):Lo.kindOf x=R .globalImplicit:=by unfold Env.kindOf;refine rq O.es ?_;exact hx
def ji {Lo:Env} {E:q4→q7→Prop} {x:Lf} {p:Pos} {N':q4→q7→Prop} (z9:zN B) (O:Fs Lo sc Ln) (S:St B.G σ s) (hx:sc.names.lookup x=R .globalImplicit) (hd:(x==(s!"__debug__":Lf))=La)
  (hk:CC B.G.K x_ x=R (R v)) (q:N' v s):q9 B.G.M A (V8 (.Name x p) Lo) N' E s:=by
 refine Fg z9.g λmg hg=>?_
 exact Dx O.kind (O.glob hx) (Calls.loadGlobal_global (by refine rq O.gl ?_;exact hg.keeps S.keep:s.heap.Ns Lo.globals mg) (mg_of z9.X hg hk) q) hd
def qS {Lo:Env} {E:q4→q7→Prop} {x:Lf} {p:Pos} {N':q4→q7→Prop} (z9:zN B) (O:Fs Lo sc Ln) (S:St B.G σ s) (hx:sc.names.lookup x=R .globalImplicit) (hd:(x==(s!"__debug__":Lf))=La)
  (hk:CC B.G.K x_ x=R Z) (hb:BY x=R v) (hn:x≠s!"__name__") (q:N' v s):q9 B.G.M A (V8 (.Name x p) Lo) N' E s:=by
 refine Fg z9.g λmg hg=>?_
 refine E7 z9.b λmb hbn hbb=>?_
 exact Dx O.kind (O.glob hx) (Calls.loadGlobal_builtin (by refine rq O.gl ?_;exact hg.keeps S.keep:s.heap.Ns Lo.globals mg) (mg_none_of z9.X hg hk) (by refine rq O.bi ?_;exact hbn.keeps S.keep:s.heap.Ns Lo.builtins mb) ((hbb x hn).trans hb) q) hd
def zdq {x:Lf} {p:Pos} {m:MV} (z9:zN B) (hx:sc.names.lookup x=R .globalImplicit) (hd:(x==(s!"__debug__":Lf))=La) (hk:∃v,CC B.G.K x_ x=R (R v)∧FP B.G.h0 v m):
  Fj B n sc Ln (.glb m) (.Name x p):=.mk1 λLo A s σ ls P J w N' c e k=>by
 replace e:=z' e;subst e
 exact E7 hk λv Y T'=>ji z9 c.O c.S hx hd Y<|PD.e (T'.ext c.S.tup0) (SO.refl c.S c.W) k
inductive MK:Ph→Y2→Prop where
 |add:MK .add .Add
 |sub:MK .sub .Sub
 |mul:MK .mul .Mult
 |mod:MK .mod .Mod
def yN {f:g'→g'→Lc MV} {x y z:MV} (e:Vx f x y=R z) {G:Prop} (k:∀a b,x=.int a→y=.int b→f a b=R z→G):G:=by
 cases x<;>try ((first|exact nO e|cases e);done)
 cases y<;>try ((first|exact nO e|cases e);done)
 exact k _ _ C C e
def jt {α:Type} {c:Prop} [Decidable c] {x:α} {z:α} (e:(if c then R x else Z)=R z) {G:Prop} (k:c→x=z→G):G:=by
 by_cases h:c
 ·rw[Lh h]at e;exact k h<|z' e
 ·rw[Lj h]at e;exact nO e
def zil {x y z:MV} (e:gy x y=R z) {G:Prop} (ki:∀a b,x=.int a→y=.int b→.int (a+b)=z→G) (ks:∀a b,x=.str a→y=.str b→a.length+b.length≤k7→.str (a++b)=z→G) (kt:∀a b,x=.tup a→y=.tup b→a.length+b.length≤k7→.tup (a++b)=z→G):G:=by
 cases x<;>try ((first|exact nO e|cases e);done)
 ·cases y<;>try ((first|exact nO e|cases e);done)
  exact ki _ _ C C<|z' e
 ·clear ki;cases y<;>try ((first|exact nO e|cases e);done)
  exact jt e λY T'=>ks _ _ C C Y T'
 ·clear ks ki;cases y<;>try ((first|exact nO e|cases e);done)
  exact jt e λY T'=>kt _ _ C C Y T'
set_option tactic.hygienic true in
def Xq (i:g') (hi:i.natAbs<2^60):DD i≤64:=by
 unfold DD
 split
 ·exact Q4 _
 ·rename_i h0
  have:=(Q.log2_lt (λe=>h0 (by rw[beq_iff_eq];exact zpf e):i.natAbs≠0)).mpr<|v_ hi<|Ee (by decide) (by decide:60≤63)
  exact gf this
def zpw {o:Ph} {po:Y2} {x y z:MV} {v w:q4} (ho:MK o po) (S:St B.G σ s) (r1:FP s.heap v x) (r2:FP s.heap w y) (e:Pi o x y=R z):
  q9 B.G.M A (Dq po v w) (Fh B.G σ s λm τ=>m=z∧τ=σ) Er s:=by
 induction ho with
 |add=>
  refine zil e (λa b e1 e2 e3=>?_) (λa b e1 e2 h e3=>?_) λa b e1 e2 h e3=>?_
  ·subst e1 e2 e3;refine r1.int_i λt e1=>r2.int_i λu e2=>?_;subst e1 e2;exact Vc S ⟨C,C⟩
  ·subst e1 e2 e3;refine r1.str_i λt e1=>r2.str_i λu e2=>?_;subst e1 e2;exact Vg S h ⟨C,C⟩
  ·subst e1 e2 e3;exact Vj S r1 r2 h ⟨C,C⟩
 |sub=>
  refine yN e λa b e1 e2 e3=>?_
  subst e1 e2;have e3:=z' e3;subst e3;refine r1.int_i λt e1=>r2.int_i λu e2=>?_;subst e1 e2;exact Vd S ⟨C,C⟩
 |mul=>
  refine yN e λa b e1 e2 e3=>jt e3 λhz e3=>?_
  subst e1 e2 e3;refine r1.int_i λt e1=>r2.int_i λu e2=>?_;subst e1 e2
  exact Ve S (hz.elim (λh=>.of_left<|Xq _ h) λh=>.of_right<|Xq _ h) ⟨C,C⟩
 |mod=>
  refine yN e λa b e1 e2 e3=>?_
  by_cases hz:b=0
  ·rw[Lh hz]at e3;exact nO e3
  ·rw[Lj hz]at e3
   clear e;subst e1 e2;have e3:=z' e3;subst e3;refine r1.int_i λt e1=>r2.int_i λu e2=>?_;clear r1 r2 e3;subst e1 e2
   exact mod_int' hz<|Fh.same S (.int ..) ⟨C,C⟩
def zdr {o:Ph} {po:Y2} {a b:X} {l r:Lb} {p:Pos} (ho:MK o po) (Ha:Fj B n sc Ln a l) (Hb:Fj B n sc Ln b r):Fj B n sc Ln (.bin o a b)<|.BinOp l po r p:=.mk1 λLo A s σ ls P J w N' c e k=>by
 refine zh e λt1 ρ1 e1 e=>zB e λx ex e=>zh e λt2 ρ2 e2 e=>zB e λy ey e=>qa e λz ez e=>?_
 subst e
 exact wpAny_BinOp<|Ha.d c e1 ex λv s1 σ1 P1 r1 x1 c1=>Hb.d c1 e2 ey λw s2 σ2 P2 r2 x2 c2=>jZ (x1.trans x2) (zpw ho x2.st (r1.ext x2.te) r2 ez) k
end
end
mutual namespace A
mutual
def RT:∀{a b:MV},MV.eqb a b=f'→a=b
 | .none,.none,_=>rfl
 | .bool a,.bool b,h=>Li MV.bool<|eq_of_beq h
 | .int a,.int b,h=>Li MV.int<|Lm h
 | .str a,.str b,h=>Li MV.str<|Lm h
 | .tup a,.tup b,h=>Li MV.tup<|Oj h
 | .ref a,.ref b,h=>Li MV.ref<|eq_of_beq h
 | .none,.bool _,h| .none,.int _,h| .none,.str _,h| .none,.tup _,h| .none,.ref _,h=>by exact nB h
 | .bool _,.none,h| .bool _,.int _,h| .bool _,.str _,h| .bool _,.tup _,h| .bool _,.ref _,h=>by exact nB h
 | .int _,.none,h| .int _,.bool _,h| .int _,.str _,h| .int _,.tup _,h| .int _,.ref _,h=>by exact nB h
 | .str _,.none,h| .str _,.bool _,h| .str _,.int _,h| .str _,.tup _,h| .str _,.ref _,h=>by exact nB h
 | .tup _,.none,h| .tup _,.bool _,h| .tup _,.int _,h| .tup _,.str _,h| .tup _,.ref _,h=>by exact nB h
 | .ref _,.none,h| .ref _,.bool _,h| .ref _,.int _,h| .ref _,.str _,h| .ref _,.tup _,h=>by exact nB h
def Oj:∀{a b:D MV},MV.eqbL a b=f'→a=b
 |[],[],_=>rfl
 |a::l,b::m,h=>by
  replace h:=w8.mp (h:(MV.eqb a b&&MV.eqbL l m)=f')
  (refine rq (RT h.1) ?_;exact rq (Oj h.2) C)
 |[],_::_,h=>by exact nB h
 |_::_,[],h=>by exact nB h
end
end
mutual section
variable {B:Gu} {n:Q} {σ σ' σ'':MH} {h h':y9} {ls:Q→Lc MV} {pu pu':Ld} {t:Th} {m:MV} {J ρ' ρ'':Ev} {v:q4} {s s' s'':q7} {P P' P'':Q→Fp} {A:Z6}
variable {sc:w7} {Ln:D Lf}
inductive Iy:Oh→Dw→Prop where
 |eq:Iy .eq .Eq
 |ne:Iy .ne .NotEq
 |lt:Iy .lt .Lt
 |le:Iy .le .LtE
 |gt:Iy .gt .Gt
 |ge:Iy .ge .GtE
 |isin:Iy .isin .In
 |notin:Iy .notin .NotIn
def zim {o:Oh} {x y:MV} {z:Ld} (e:jE o x y=R z) {G:Prop} (ki:∀a b,x=.int a→y=.int b→gz o a b=R z→G) (ks:∀a b,x=.str a→y=.str b→gA o a b=R z→G)
  (kst:∀a b,x=.str a→y=.tup b→TD o a b=R z→G) (kt:∀a b,x=.tup a→y=.tup b→gC o a b=R z→G):G:=by
 cases x with
 |int a=>cases y<;>first|exact ki _ _ C C e|exact nO e
 |str a=>clear ki;cases y<;>first|exact ks _ _ C C e|exact kst _ _ C C e|exact nO e
 |tup a=>clear ks kst ki;cases y<;>first|exact kt _ _ C C e|exact nO e
 |_=>exact nO e
def Kc {a b:D MV} {c z:Ld} (e:(if MV.eqbL a b&&MV.flatL a&&decide (MV.depL a≤100)then R c else Z)=R z) {G:Prop} (k:a=b→MV.flatL a=f'→MV.depL a≤100→c=z→G):G:=
 jt e λY T'=>by
  simp only[V1,decide_eq_true_eq]at Y
  exact k (Oj Y.1.1) Y.1.2 Y.2 T'
def zpx {o:Oh} {po:Dw} {x y:MV} {z:Ld} {v w:q4} (ho:Iy o po) (ha:Nl A n) (S:St B.G σ s) (r1:FP s.heap v x) (r2:FP s.heap w y) (e:jE o x y=R z):
  q9 B.G.M A (K3 po v w) (Fh B.G σ s λm τ=>m=.bool z∧τ=σ) Er s:=by
 have hu:=ha.un
 refine zim e (λa b e1 e2 e=>?_) (λa b e1 e2 e=>?_) (λa b e1 e2 e=>?_) λa b e1 e2 e=>?_
 ·subst e1 e2
  refine r1.int_i λt e1=>r2.int_i λu e2=>?_
  subst e1 e2
  induction ho with
  |eq=>replace e:=z' e;subst e;exact YS S ⟨C,C⟩
  |ne=>replace e:=z' e;subst e;exact YT S ⟨C,C⟩
  |lt=>replace e:=z' e;subst e;exact YU S ⟨C,C⟩
  |le=>replace e:=z' e;subst e;exact YV S ⟨C,C⟩
  |gt=>replace e:=z' e;subst e;exact YW S ⟨C,C⟩
  |ge=>replace e:=z' e;subst e;exact YX S ⟨C,C⟩
  |isin=>exact nO e
  |notin=>exact nO e
 ·subst e1 e2
  refine r1.str_i λt e1=>r2.str_i λu e2=>?_
  subst e1 e2
  induction ho with
  |eq=>replace e:=z' e;subst e;exact YY S ⟨C,C⟩
  |ne=>replace e:=z' e;subst e;exact YZ S ⟨C,C⟩
  |isin=>
   induction a with
   |nil=>exact nO e
   |cons c r=>clear tail_ih;induction r with
    |nil=>replace e:=z' e;subst e;exact Xd S ⟨C,C⟩
    |cons _ _=>exact nO e
  |_=>exact nO e
 ·subst e1 e2
  refine r1.str_i λt e1=>?_
  subst e1
  induction ho with
  |isin=>exact Vi S r2 e ⟨C,C⟩
  |notin=>exact qa (o:=jD a b) e λb e1 e=>by subst e;exact ZD S r2 e1 ⟨C,C⟩
  |_=>exact nO e
 ·subst e1 e2
  induction ho with
  |eq=>exact Kc e λe1 e2 e3 e4=>by subst e1 e4;exact Xb S r1 r2 e2 (Rz hu e3) ⟨C,C⟩
  |ne=>exact Kc e λe1 e2 e3 e4=>by subst e1 e4;exact Xc S r1 r2 e2 (Rz hu e3) ⟨C,C⟩
  |_=>exact nO e
def KW {α:Type} {J:Ev} {j:Q} {f:D MV→Lc α} {r:α} (e:(match gt J j with|R (.l y)=>f y|_=>Z)=R r) {G:Prop} (k:∀y,gt J j=R (.l y)→f y=R r→G):G:=by
 induction h:gt J j with
 |Z=>rw[h]at e;exact nO e
 |R t=>
  rw[h]at e
  induction t with
  |l y=>exact k y h e
  |d _=>exact nO e
  |o _ _=>exact nO e
def zpy {P:Pg} {cl:HM} {o:Oh} {a b:X} {r:Th×Ev} (e:E0 P cl (.cmp o a b) J=R r) {G:Prop}
  (kd:∀x ρ1 t2 ρ2 y z,opn a (E0 P cl a) J=R (.d x,ρ1)→E0 P cl b ρ1=R (t2,ρ2)→t2.dat=R y→jE o x y=R z→(.d<|.bool z,ρ2)=r→G)
  (kl:∀x ρ1 j y z,opn a (E0 P cl a) J=R (.l x,ρ1)→b=.var j→gt ρ1 j=R (.l y)→Nn o x y=R z→(.d<|.bool z,ρ1)=r→G):G:=by
 refine zh (o:=opn a (E0 P cl a) J) e ?_;clear e;intro x ρ1 e1 e
 induction x with
 |d x=>exact zh e λt2 ρ2 e2 e=>zB e λy ey e=>qa e λz ez e=>kd _ _ _ _ _ _ e1 e2 ey ez e
 |l x=>
  clear kd;induction b<;>try ((first|exact nO e|cases e);done)
  exact KW e λy hy e=>qa e λz ez e=>kl _ _ _ _ _ e1 C hy ez e
def Qz {o:Oh} {po:Dw} {a b:X} {l r:Lb} (ho:Iy o po) (Ha:HT B n sc Ln a l) (Hb:Fj B n sc Ln b r) (Hbo:Hw b=f'→HT B n sc Ln b r)
  {Lo:Env} {N':q4→q7→Prop} {w:Th×Ev} (c:Cx B n sc Ln Lo A s σ ls P J) (e:E0 B.P (EZ B.P B.W n) (.cmp o a b) J=R w)
  (q:∀z ρ2 v s',(.d<|.bool z,ρ2)=w→PD B σ s.heap ls La (.bool z) ρ2 v s'→N' v s'):
  q9 B.G.M A (V8 l Lo) (λv s₁=>q9 B.G.M A (V8 r Lo) (λw s₂=>q9 B.G.M A (K3 po v w) N' Er s₂) Er s₁) Er s:=by
 refine zpy e (λx ρ1 t2 ρ2 y z e1 e2 ey ez e=>?_) λx ρ1 j y z e1 e2 hy ez e=>?_
 ·exact Ha.o c e1 λv m s1 σ1 P1 r1 w1 x1 c1=>Hb.d c1 e2 ey λw s2 σ2 P2 r2 x2 c2=>q5 (zpx ho c.aa x2.st ((w1:m=x)▸r1.ext x2.te) r2 ez) (λH H h3=>q _ _ _ _ e<|Vz (x1.trans x2).weak h3) λH H x=>x
 ·clear Hb;subst e2
  refine Ha.o c e1 λv m s1 σ1 P1 r1 w1 x1 c1=>(Hbo C).o c1 (w:=.l y) (ρ1:=ρ1) (by refine(?_:(((gt ρ1 j).bind Th.vw).map λv=>(v,ρ1))=_);refine rq hy ?_;rfl) λw m2 s2 σ2 P2 r2 w2 x2 c2=>?_
  refine E7 w1 λp e1 U'=>E7 w2 λd e2 hd=>?_
  clear w1 w2;subst e1 e2
  (refine rq r1.ref_i ?_;refine rq r2.ref_i ?_)
  have hσ:=x2.pu C
  clear c1 c2;subst hσ
  cases o with
  |eq=>
   cases ho
   refine Kc (c:=f') ez λY T' h3 h4=>?_
   clear e1 hy;subst Y h4
   refine E7 (x2.st.own _ _ U') λvs Y q1=>E7 (x2.st.own _ _ hd) λws h2' q2=>?_
   exact q5 (Vh x2.st Y h2' q1 q2 T' (by have:=c.aa.un;exact Rz this h3) ⟨C,C⟩) (λH H h3=>q _ _ _ _ e<|Vz (x1.trans x2).weak h3) λH H x=>x
  |_=>exact nO ez
def zds {o:Oh} {po:Dw} {a b:X} {l r:Lb} {p:Pos} (ho:Iy o po) (hm:C8 po r=La) (Ha:HT B n sc Ln a l) (Hb:Fj B n sc Ln b r) (Hbo:Hw b=f'→HT B n sc Ln b r):
  Fj B n sc Ln (.cmp o a b) (.Compare l [po] [r] p):=.mk1 λLo A s σ ls P J w N' c e k=>wpAny_Compare1 (Qz ho Ha Hb Hbo c e λz ρ2 v s' e h=>by subst e;exact k _ _ h.pe) hm
def yO {Lo:Env} {r:Th×Ev} {z b:Ld} {ρ2:Ev} {v:q4} {N':Ld→q7→Prop} (e:(Th.d<|.bool z,ρ2)=r) (eb:r.1=.d (.bool b)) (hp:PD B σ h ls La (.bool z) ρ2 v s') (k:∀s' σ' P',SO B σ h ls La r.2 s' σ' P'→N' b s'):q9 B.G.M A (truthy v) N' Er s':=by
 subst e
 cases eb
 refine qk hp λr hp=>Ib hp λσ' P' x=>?_
 refine rq r.bool_i ?_
 exact Bx<|k _ _ _ x
def Xr {o:Oh} {po:Dw} {a b:X} {l r:Lb} {p:Pos} (ho:Iy o po) (hm:C8 po r=La) (Ha:HT B n sc Ln a l) (Hb:Fj B n sc Ln b r) (Hbo:Hw b=f'→HT B n sc Ln b r):
  Go B n sc Ln (.cmp o a b) (.Compare l [po] [r] p):=.mk1 λLo A s σ ls P J w b N' c e eb k=>BF (Qz ho Ha Hb Hbo c e λz ρ2 v s' e h=>yO (Lo:=Lo) e eb h k) hm
def Xs {a:X} {l:Lb} {k q:_} (Ha:Fj B n sc Ln a l) {Lo:Env} {N':q4→q7→Prop} {w:Th×Ev} (c:Cx B n sc Ln Lo A s σ ls P J) (e:E0 B.P (EZ B.P B.W n) (.isN a) J=R w)
  (hq:∀z ρ2 v s',(.d<|.bool z,ρ2)=w→PD B σ s.heap ls La (.bool z) ρ2 v s'→N' v s'):
  q9 B.G.M A (V8 l Lo) (λv s₁=>q9 B.G.M A (V8 (.Constant .none k q) Lo) (λw s₂=>q9 B.G.M A (K3 .Is v w) N' Er s₂) Er s₁) Er s:=
 zh e λx ρ1 e1 e=>qa e λy ey e=>Ha.d c e1 ey λv s1 σ1 P1 r1 x1 c1=>wpAny_Constant_none (is_none (hq _ _ _ _ e ⟨by
  have:(v==Value.none)=(match(generalizing:=false) y with| .none=>f'|_=>La):=r1.cs (P:=λv y=>(v==Value.none)=(match(generalizing:=false) y with| .none=>f'|_=>La)) C (λH=>C) (λH H=>C) (λH H=>C) (λH H H H H=>C) λH=>C
  refine rq this ?_;exact .bool _,σ1,P1,x1.weak⟩))
def Xt {a:X} {l:Lb} {k q p:_} (Ha:Fj B n sc Ln a l):Go B n sc Ln (.isN a)<|.Compare l [.Is] [.Constant .none k q] p:=.mk1 λLo A s σ ls P J w b N' c e eb k=>BF (Xs Ha c e λz ρ2 v s' e h=>yO (Lo:=Lo) e eb h k) C
set_option tactic.hygienic true in
def zdt {a:X} {l:Lb} {p:Pos} (Ha:Fj B n sc Ln a l):Fj B n sc Ln (.neg a)<|.UnaryOp .USub l p:=.mk1 λLo A s σ ls P J w N' c e k=>by
 refine zh (o:=E0 B.P (EZ B.P B.W n) a J) e ?_;clear e;intro x ρ1 e1 e
 cases x<;>try ((first|exact nO e|cases e);done)
 rename_i m
 cases m<;>(first|exact nO e|cases e)
 rename_i i
 exact wpAny_UnaryOp<|Ha.d (m:=.int i) c e1 C λv s1 σ1 P1 r1 x1 c1=>r1.int_i λt e=>by clear e1 r1;subst e;exact jZ x1 (Vf x1.st ⟨C,C⟩) k
def Xu {a:X} {l:Lb} {p:Pos} (Ha:Go B n sc Ln a l):Go B n sc Ln (.not a)<|.UnaryOp .Not l p:=.mk1 λLo A s σ ls P J w b N' c e eb k=>
 zh e λx ρ1 e1 e2=>qa e2 λd ec e3=>by
  clear e2;cases qH ec
  clear e ec;subst e3
  cases eb
  exact wpAny_isTrue_Not<|Ha.tt c e1 λs1 σ1 P1 x1 c1=>k _ _ _ x1
def PE.pre {pu:Ld} {t:Th} {v:q4} (x1:SO B σ h ls pu ρ' s' σ' P') (p:PE B σ' s'.heap ls pu' t ρ'' v s''):PE B σ h ls La t ρ'' v s'':=
 N8 p λm σ2 P2 N' x2=>⟨m,σ2,P2,N',(x1.trans x2.so).weak,x2.rep,x2.at_,x2.dm,x2.ap⟩
def zdu {t a b:X} {te l r:Lb} {p:Pos} (Ht:Go B n sc Ln t te) (Ha:Fj B n sc Ln a l) (Hb:Fj B n sc Ln b r):Fj B n sc Ln (.ite t a b)<|.IfExp te l r p:=.mk1 λLo A s σ ls P J w N' c e k=>
 zh e λx ρ1 e1 e=>zB e λd ec e=>by
  cases qH ec
  refine wpAny_IfExp<|Ht.tt c e1 λs1 σ1 P1 x1 c1=>?_
  clear e1 ec;induction d with
  |f'=>exact q5 (Ha.h (t:=w.1) (ρ':=w.2) e c1.O c1.aa c1.S c1.F c1.W) (λH H h=>k _ _<|h.pre x1) λH H x=>x
  |La=>exact q5 (Hb.h (t:=w.1) (ρ':=w.2) e c1.O c1.aa c1.S c1.F c1.W) (λH H h=>k _ _<|h.pre x1) λH H x=>x
structure Gx (B:Gu) (n:Q) (sc:w7) (Ln:D Lf) (op:BoolOp) (x:X) (es:D Lb):Prop where
 h:∀{Lo:Env} {A:Z6} {s:q7} {σ:MH} {ls:Q→Lc MV} {P:Q→Fp} {J ρ':Ev} {b:Ld} {pos:Pos},E0 B.P (EZ B.P B.W n) x J=R (.d<|.bool b,ρ')→Fs Lo sc Ln→Nl A n→St B.G σ s→
  Fm s.heap σ Lo.locals Ln ls→Gg B σ ls J P→q9 B.G.M A (D5 pos op<|EO es Lo) (PD B σ s.heap ls La (.bool b) ρ') Er s
 t:∀{Lo:Env} {A:Z6} {s:q7} {σ:MH} {ls:Q→Lc MV} {P:Q→Fp} {J ρ':Ev} {b:Ld},E0 B.P (EZ B.P B.W n) x J=R (.d<|.bool b,ρ')→Fs Lo sc Ln→Nl A n→St B.G σ s→
  Fm s.heap σ Lo.locals Ln ls→Gg B σ ls J P→q9 B.G.M A (allTrue op es Lo) (PT B σ s.heap ls b ρ') Er s
def PD.after {x:X} (x1:SO B σ h ls pu ρ' s' σ' P') (p:PD B σ' s'.heap ls pu' m ρ'' v s''):PD B σ h ls (pu&&pu') m ρ'' v s'':=
 let ⟨r,σ2,P2,x2⟩:=p;⟨r,σ2,P2,x1.trans x2⟩
def PD.weak (p:PD B σ h ls pu m ρ' v s'):PD B σ h ls La m ρ' v s':=let ⟨r,σ2,P2,x2⟩:=p;⟨r,σ2,P2,x2.weak⟩
def PT.after {b b':Ld} (x1:SO B σ h ls pu ρ' s' σ' P') (p:PT B σ' s'.heap ls b ρ'' b' s''):PT B σ h ls b ρ'' b' s'':=
 let ⟨r,σ2,P2,x2⟩:=p;⟨r,σ2,P2,(x1.trans x2).weak⟩
def Kd {x:X} {e:Lb} (He:Fj B n sc Ln x e) (Ht:Go B n sc Ln x e):Gx B n sc Ln .And x [e]:=
 ⟨λe O aa S F W=>q5 (He.h e O aa S F W) (λv s1 Y=>(Y.dat C).weak) λH H x=>x,
 λe O aa S F W=>CA (q5 (Ht.h e O aa S F W) (λb s1 Y=>by
  induction b with
  |f'=>exact wpAny_allTrue_And_nil Y
  |La=>exact Y) λH H x=>x)⟩
def VA {x:X} {e:Lb} (He:Fj B n sc Ln x e) (Ht:Go B n sc Ln x e):Gx B n sc Ln .Or x [e]:=
 ⟨λe O aa S F W=>q5 (He.h e O aa S F W) (λv s1 Y=>(Y.dat C).weak) λH H x=>x,
 λe O aa S F W=>CL (q5 (Ht.h e O aa S F W) (λb s1 Y=>by
  induction b with
  |f'=>exact Y
  |La=>exact wpAny_allTrue_Or_nil Y) λH H x=>x)⟩
def QB {pos:Pos} {op:BoolOp} {x y:Sem q4} {l:D<|Sem q4}:D5 pos op (x::y::l)=(do
  let v ←x
  Cg pos
  let t ←Dp [v] (truthy v)
  match op,t with
  | .And,La| .Or,f'=>pure v
  |_,_=>D5 pos op<|y::l):=C
def Xv {P:Pg} {cl:HM} {a b:X} {r:Th×Ev} (e:E0 P cl (.and a b) J=R r) {G:Prop} (kf:∀ρ1,E0 P cl a J=R (.d<|.bool La,ρ1)→(.d<|.bool La,ρ1)=r→G)
  (kt:∀ρ1 d ρ2,E0 P cl a J=R (.d<|.bool f',ρ1)→E0 P cl b ρ1=R (.d<|.bool d,ρ2)→(.d<|.bool d,ρ2)=r→G):G:=
 zh e λx ρ1 e1 e=>zB e λc ec e=>by
  cases qH ec
  clear ec;induction c with
  |La=>exact kf ρ1 e1<|z' e
  |f'=>exact zh e λy ρ2 e2 e=>qa e λd ed e3=>by clear e;cases qH ed;exact kt ρ1 d ρ2 e1 e2 e3
def lZ {P:Pg} {cl:HM} {a b:X} {r:Th×Ev} (e:E0 P cl (.or a b) J=R r) {G:Prop} (kf:∀ρ1,E0 P cl a J=R (.d<|.bool f',ρ1)→(.d<|.bool f',ρ1)=r→G)
  (kt:∀ρ1 d ρ2,E0 P cl a J=R (.d<|.bool La,ρ1)→E0 P cl b ρ1=R (.d<|.bool d,ρ2)→(.d<|.bool d,ρ2)=r→G):G:=
 zh e λx ρ1 e1 e=>zB e λc ec e=>by
  cases qH ec
  clear ec;induction c with
  |f'=>exact kf ρ1 e1<|z' e
  |La=>exact zh e λy ρ2 e2 e=>qa e λd ed e3=>by clear e;cases qH ed;exact kt ρ1 d ρ2 e1 e2 e3
def KY {pos:Pos} {op:BoolOp} {x:X} {e e2:Lb} {es:D Lb} {Lo:Env} {c:Ld} {ρ1:Ev} {N':q4→q7→Prop} (He:Fj B n sc Ln x e) (G':Cx B n sc Ln Lo A s σ ls P J) (e1:E0 B.P (EZ B.P B.W n) x J=R (.d<|.bool c,ρ1))
  (k:∀s1 σ1 P1,SO B σ s.heap ls (ON x) ρ1 s1 σ1 P1→Cx B n sc Ln Lo A s1 σ1 ls P1 ρ1→q9 B.G.M A (match op,c with
   | .And,La| .Or,f'=>pure<|.bool c
   |_,_=>D5 pos op<|EO (e2::es) Lo) N' Er s1):q9 B.G.M A (D5 pos op<|EO (e::e2::es) Lo) N' Er s:=by
 refine(?_:q9 _ _ (D5 pos op<|_::_::_) _ _ _)
 refine rq QB ?_
 refine q6<|He.d G' e1 C λv s1 σ1 P1 r x c=>?_
 refine rq r.bool_i ?_
 exact q6<|J_<|q6<|Bj<|Bx<|k _ _ _ x c
def Gx.hh {op:BoolOp} {x:X} {es:D Lb} {pos:Pos} {Lo:Env} {b:Ld} {h0:y9} {σ0:MH} (z_:Gx B n sc Ln op x es) (x1:SO B σ0 h0 ls pu J s σ P) (c:Cx B n sc Ln Lo A s σ ls P J) (e:E0 B.P (EZ B.P B.W n) x J=R (.d<|.bool b,ρ')):
  q9 B.G.M A (D5 pos op<|EO es Lo) (PD B σ0 h0 ls La (.bool b) ρ') Er s:=q5 (z_.h e c.O c.aa c.S c.F c.W) (λv s2 T'=>(T'.after (x:=x) x1).weak) λH H x=>x
def Gx.tt {op:BoolOp} {x:X} {es:D Lb} {Lo:Env} {b:Ld} {h0:y9} {σ0:MH} (z_:Gx B n sc Ln op x es) (x1:SO B σ0 h0 ls pu J s σ P) (c:Cx B n sc Ln Lo A s σ ls P J) (e:E0 B.P (EZ B.P B.W n) x J=R (.d<|.bool b,ρ')):
  q9 B.G.M A (allTrue op es Lo) (PT B σ0 h0 ls b ρ') Er s:=q5 (z_.t e c.O c.aa c.S c.F c.W) (λv s2 T'=>T'.after x1) λH H x=>x
def QC {a b:X} {e e2:Lb} {es:D Lb} (He:Fj B n sc Ln a e) (Ht:Go B n sc Ln a e) (z_:Gx B n sc Ln .And b<|e2::es):Gx B n sc Ln .And (.and a b)<|e::e2::es:=
 ⟨λe O aa S F W=>Xv e (λρ1 e1 e=>by cases e;exact KY He ⟨O,aa,S,F,W⟩ e1 λs1 σ1 P1 x c=>j4 ⟨.bool _,σ1,P1,x.weak⟩)
  (λρ1 d ρ2 e1 e2 e=>by cases e;exact KY He ⟨O,aa,S,F,W⟩ e1 λs1 σ1 P1 x c=>z_.hh x c e2),
 λe O aa S F W=>Xv e (λρ1 e1 e=>by cases e;exact CA<|Ht.tt ⟨O,aa,S,F,W⟩ e1 λs1 σ1 P1 x c=>⟨C,σ1,P1,x⟩)
  (λρ1 d ρ2 e1 e2 e=>by cases e;exact CA<|Ht.tt ⟨O,aa,S,F,W⟩ e1 λs1 σ1 P1 x c=>z_.tt x c e2)⟩
def Ke {a b:X} {e e2:Lb} {es:D Lb} (He:Fj B n sc Ln a e) (Ht:Go B n sc Ln a e) (z_:Gx B n sc Ln .Or b<|e2::es):Gx B n sc Ln .Or (.or a b)<|e::e2::es:=
 ⟨λe O aa S F W=>lZ e (λρ1 e1 e=>by cases e;exact KY He ⟨O,aa,S,F,W⟩ e1 λs1 σ1 P1 x c=>j4 ⟨.bool _,σ1,P1,x.weak⟩)
  (λρ1 d ρ2 e1 e2 e=>by cases e;exact KY He ⟨O,aa,S,F,W⟩ e1 λs1 σ1 P1 x c=>z_.hh x c e2),
 λe O aa S F W=>lZ e (λρ1 e1 e=>by cases e;exact CL<|Ht.tt ⟨O,aa,S,F,W⟩ e1 λs1 σ1 P1 x c=>⟨C,σ1,P1,x⟩)
  (λρ1 d ρ2 e1 e2 e=>by cases e;exact CL<|Ht.tt ⟨O,aa,S,F,W⟩ e1 λs1 σ1 P1 x c=>z_.tt x c e2)⟩
def Xw {P:Pg} {cl:HM} {a b:X} {r:Th×Ev} (e:E0 P cl (.and a b) J=R r):∃z,r.1=.d (.bool z):=Xv e (λH H e=>⟨_,Li Dz e.symm⟩) λH H H H H e=>⟨_,Li Dz e.symm⟩
def zdv {P:Pg} {cl:HM} {a b:X} {r:Th×Ev} (e:E0 P cl (.or a b) J=R r):∃z,r.1=.d (.bool z):=lZ e (λH H e=>⟨_,Li Dz e.symm⟩) λH H H H H e=>⟨_,Li Dz e.symm⟩
def Xx {op:BoolOp} {x:X} {es:D Lb} {p:Pos} (hb:∀(J:Ev) (r:Th×Ev),E0 B.P (EZ B.P B.W n) x J=R r→∃z,r.1=.d (.bool z)) (hx:ON x=La) (z_:Gx B n sc Ln op x es):Fj B n sc Ln x<|.BoolOp op es p:=⟨λ{Lo A s σ ls P J ρ' t} e O aa S F W=>by
 refine Fg (hb _ _ e) λz ez=>?_
 subst ez
 (rewrite [arm_eval_BoolOp];refine rq hx ?_)
 exact q5 (z_.h e O aa S F W) (λv s1 Y=>Y.pe) λH H x=>x⟩
def zdw {a b:X} {es:D Lb} {p:Pos} (z_:Gx B n sc Ln .And (.and a b) es):Fj B n sc Ln (.and a b)<|.BoolOp .And es p:=Xx (λH H=>Xw) C z_
def zio {a b:X} {es:D Lb} {p:Pos} (z_:Gx B n sc Ln .Or (.or a b) es):Fj B n sc Ln (.or a b)<|.BoolOp .Or es p:=Xx (λH H=>zdv) C z_
def Xy {a b:X} {es:D Lb} {p:Pos} (z_:Gx B n sc Ln .And (.and a b) es):Go B n sc Ln (.and a b)<|.BoolOp .And es p:=
 ⟨λe O aa S F W=>wpAny_isTrue_BoolOp<|z_.t e O aa S F W⟩
def zdx {a b:X} {es:D Lb} {p:Pos} (z_:Gx B n sc Ln .Or (.or a b) es):Go B n sc Ln (.or a b)<|.BoolOp .Or es p:=
 ⟨λe O aa S F W=>wpAny_isTrue_BoolOp<|z_.t e O aa S F W⟩
def NM:No B n sc Ln .nil []:=⟨by
 intro Lo A s σ ls P J ρ' ms pos e O aa S F W
 refine qK e λeq1 eq2=>?_;clear e;subst eq1 eq2
 exact Z7 ⟨.nil,σ,P,SO.refl S W⟩⟩
def vM {a b:X} {e:Lb} {es:D Lb} (hs:∀Lo,W9 (e::es) Lo=(La,V8 e Lo)::W9 es Lo) (Ha:Fj B n sc Ln a e) (Hb:No B n sc Ln b es):No B n sc Ln (.cons a b)<|e::es:=⟨λ{Lo _ _ _ _ _ _ _ _ _} e O aa S F W=>
 zh e λt1 ρ1 e1 e=>zB e λx ex e=>wH e λl ρ2 e2 e=>by
  cases e
  exact w4 (Ha.d ⟨O,aa,S,F,W⟩ e1 ex λv s1 σ1 P1 r1 x1 c1=>Hb.r c1 e2 λvs s2 σ2 P2 r2 x2 c2=>⟨.cons (r1.ext x2.te) r2,σ2,P2,(x1.trans x2).weak⟩)<|hs Lo⟩
def yP {xs:X} {es:D Lb} {k:Q} {p:Pos} (z_:No B n sc Ln xs es):Fj B n sc Ln (.tupD xs)<|.Tuple es k p:=.mk1 λLo A s σ ls P J w N' c e kk=>
 zh e λms ρ1 e1 e=>jt e λhz e=>by
  subst e
  exact wpAny_Tuple<|z_.r c e1 λvs s1 σ1 P1 r x c1=>⟨r.length▸hz,PD.e (.tup _ vs ms ⟨0,Heap.get?_push_size _ C⟩<|r.ext<|zj _ _) (x.more (x.st.push _)<|FB.push _ _ _) kk⟩
def Xz {xs:X} {es:D Lb} {p:Pos} (z_:No B n sc Ln xs es):Fj B n sc Ln (.lstD xs)<|.List es p:=.mk1 λLo A s σ ls P J w N' c e kk=>
 zh e λms ρ1 e1 e=>jt e λhz e=>by
  subst e
  refine wpAny_List<|z_.r c e1 λvs s1 σ1 P1 r x c1=>⟨r.length▸hz,kk _ _ ?_⟩
  have nw:∀{i a},P1 i a→a≠s1.heap.objs.size:=λ{i a} q e=>by have:=x.own.dm i a q;rw[e,x.st.fresh]at this;exact nB this
  exact⟨.ref _,upd σ1 s1.heap.objs.size<|.list ms,P1,λa=>a=s1.heap.objs.size,⟨x.st.alloc (x:=.list ms) ⟨vs,⟨0,Heap.get?_push_size _ C⟩,r.ext<|zj _ _⟩,x.step.trans<|FB.alloc _ _ _ _,x.own.cong λi a q=>zE _ _<|nw q,zg x.te<|zj _ _,λe=>nB e⟩,.ref _,⟨_,C,zJ _ _ _,C⟩,λa e=>by(refine rq e ?_;rw[zJ]);rfl,λa i e q=>nw q e⟩
def jC {value slice:Lb} {o i:q4} {T id:String} {N':q4→q7→Prop} {E:q4→q7→Prop} (hT:s.TypeIs o T) (hl:typeLookup (.type T) s!"__getitem__"=pure (R<|.builtin id))
  (hs:DK slice La o i=operate [o,i] (BX o i)∨DK slice La o i=operate [i,o] (BX o i)) (h:q9 B.G.M A (BX o i) N' E s):q9 B.G.M A (C7 value slice o i) N' E s:=by
 unfold C7
 refine q6 ?_
 refine rq (getitemInPython_of_ne hT.not_modules) ?_
 refine q6<|wpAny_specialOf hT hl ?_
 have fin:q9 B.G.M A (DK slice La o i) (λr s₃=>q9 B.G.M A (letTemporaryGo value o r>>=λH=>pure r) N' E s₃) E s:=by
  rcases hs with hs|hs<;>refine rq hs ?_<;>
  exact wpAny_operating<|q5 h (λr s₃ h₃=>q6<|wpAny_letTemporaryGo<|j4 h₃) λH H x=>x
 first
  |exact j4 (q6 fin)
  |exact q6 (j4<|q6 fin)
  |exact q6 fin
abbrev vg (slice:Lb):Prop:=∀o i,DK slice La o i=operate [o,i] (BX o i)
def XA {l:D MV} {y z:MV} (e:vf l y=R z) {G:Prop} (k:∀i j,y=.int i→l.length<2^62→BG i l.length=R j→l[j]?=R z→G):G:=by
 cases y with
 |int i=>
  replace e:(if l.length≤k7 then(BG i l.length).bind (l[·]?)else Z)=R z:=e
  by_cases hz:l.length≤k7
  ·rw[Lh hz]at e
   exact zB e λj Y T'=>k i j C (Z9 hz<|by refine rq W_ ?_;decide) Y T'
  ·rw[Lj hz]at e;exact nO e
 |_=>exact nO e
def Kf {l:Q} (h:l≤k7):l<2^62:=Z9 h<|by refine rq W_ ?_;decide
def KZ {value slice:Lb} {v w:q4} {l:D MV} {y z:MV} {N':q4→q7→Prop} (hs:vg slice) (x1:SO B σ h ls pu ρ' s' σ' P') (r1:FP s'.heap v<|.tup l) (r2:FP s'.heap w y) (e:vf l y=R z) (k:∀v s'',PE B σ h ls pu (.d z) ρ' v s''→N' v s''):
  q9 B.G.M A (C7 value slice v w) N' Er s':=
 XA e λi j ey hz Y T'=>by
  subst ey
  refine r2.int_i λt e=>?_
  clear r2;subst e
  refine r1.tup_i λa vs e ha ra=>?_
  subst e
  exact jC ha.isTuple.typeIs De.lookup (.inl<|hs _ _)<|jZ x1 (Vk x1.st r1 hz Y T' ⟨C,C⟩) k
def Wa {value slice:Lb} {a:w_} {w:q4} {l:D MV} {y z:MV} {N':q4→q7→Prop} (hs:vg slice) (x1:SO B σ h ls pu ρ' s' σ' P') (r1:σ' a=R (.list l)) (r2:FP s'.heap w y) (e:vf l y=R z) (k:∀v s'',PE B σ h ls pu (.d z) ρ' v s''→N' v s''):
  q9 B.G.M A (C7 value slice (.ref a) w) N' Er s':=
 XA e λi j ey hz Y T'=>by
  subst ey
  refine r2.int_i λt e=>?_
  clear r2;subst e
  exact E7 (x1.st.own _ _ r1) λvs hv H=>jC hv.isList.typeIs Dm.lookup (.inl<|hs _ _)<|jZ x1 (JW x1.st r1 hz Y T' ⟨C,C⟩) k
def XB {N':Fp} {m1:MV} {t1:Th} {s1 s2:q7} {σ1:MH} {P1:Q→Fp} {ρ1 ρ2:Ev} (x1:SO B σ h ls pu ρ1 s1 σ1 P1) (T:I3 B σ1 N' m1 t1) (dm:∀a,N' a→(σ1 a).isSome=f') {σ2:MH} {P2:Q→Fp}
  (x2:SO B (res σ1 λa=>¬N' a) s1.heap ls pu' ρ2 s2 σ2 P2):∃σ3,SO B σ h ls La ρ2 s2 σ3 P2∧I3 B σ3 N' m1 t1∧(∀a,N' a→(σ3 a).isSome=f')∧wB N' P2∧(∀a,(σ2 a).isSome=f'→σ3 a=σ2 a)∧(∀a,N' a→σ2 a=Z):=by
 have z_:=Vy x1.st x2.st x2.step
 have o:∀a,N' a→_=σ1 a:=λa q=>z_.old a (λn=>n q)<|dm a q
 have fr:∀a,N' a→σ2 a=Z:=λa q=>z_.frs a (λn=>n q)<|dm a q
 refine⟨_,⟨z_.st,x1.step.trans z_.step,x2.own.cong λi a p=>z_.new a<|x2.own.dm i a p,zg x1.te x2.te,λe=>nB e⟩,T.cong o λH q=>q,λa q=>by refine rq (o a q) ?_;exact dm a q,λa i q p=>?_,z_.new,fr⟩
 have:=x2.own.dm i a p
 rw[fr a q]at this;exact nB this
def Gg.res {N':Fp} (O:Gg B σ ls J P) (ap:wB N' P):Gg B (res σ λa=>¬N' a) ls J P:=O.cong λi a p=>jF (N':=λa=>¬N' a) λq=>ap a i q p
def Fm.res {N':Fp} {L:w_} (F:Fm h σ L Ln ls):Fm h (res σ N') L Ln ls:=⟨F.ns,by unfold Mine.Internal.res;split;exact F.no;rfl⟩
def XC {a i:X} {x:Vw} {l:D MV} (e:(match x with
   | .d (.tup l)=>R l
   | .l l=>if Hw a&&!ON i then Z else R l
   |_=>Z)=R l) {G:Prop} (kd:x=.d (.tup l)→G) (kl:x=.l l→(Hw a=f'→ON i=f')→G):G:=by
 cases x with
 |d m=>
  cases m with
  |tup l'=>exact kd<|rq (z' e) C
  |_=>exact nO e
 |l l'=>
  replace e:(if Hw a&&!ON i then Z else R l')=R l:=e
  by_cases U':(Hw a&&!ON i)=f'
  ·rw[Lh U']at e;exact nO e
  ·rw[Lj U']at e;replace e:=z' e;clear kd;subst e
   refine kl C λhp=>?_
   rw[hp,Y8,W8,Ld.not_eq_false]at U'
   exact U'
def zdy {a i:X} {value slice:Lb} {p:Pos} (hs:vg slice) (Hp:Hw a=f'→HT B n sc Ln a value) (Ha:Hw a=La→Fj B n sc Ln a value) (Hi:Fj B n sc Ln i slice):
  Fj B n sc Ln (.idx a i) (.Subscript value slice p):=.mk1 λLo A s σ ls P J w N' c e k=>
 zh (o:=opn a (E0 B.P (EZ B.P B.W n) a) J) e λx ρ1 e1 e=>zB e λl el e=>zh e λt2 ρ2 e2 e=>zB e λy ey e=>qa e λz ez e=>B_ (by
  subst e
  induction hp:Hw a with
  |f'=>
   refine(Hp hp).o c e1 λv m1 s1 σ1 P1 r1 w1 x1 c1=>Hi.d c1 e2 ey λw s2 σ2 P2 r2 x2 c2=>XC el (λex=>?_) λex hq=>?_
   ·clear e;subst ex
    exact KZ hs (x1.trans x2).weak ((w1:m1=.tup l)▸r1.ext x2.te) r2 ez k
   ·clear e;subst ex
    refine E7 w1 λc e1 U'=>?_
    clear w1;subst e1
    refine rq r1.ref_i ?_
    exact Wa hs (x1.trans x2).weak ((x2.pu<|hq hp).symm▸U') r2 ez k
  |La=>
   refine oW hp e1 λt1 e0 hw=>XC el (λex=>?_) λex H=>?_
   ·have ht:t1.dat=R (.tup l):=by induction t1<;>(first|exact nO hw|cases hw)<;>(first|contradiction|cases ex);rfl
    exact(Ha hp).d c e0 ht λv s1 σ1 P1 r1 x1 c1=>Hi.d c1 e2 ey λw s2 σ2 P2 r2 x2 c2=>KZ hs (x1.trans x2).weak (r1.ext x2.te) r2 ez k
   ·clear el e;subst ex
    have ht:t1=.l l:=by induction t1<;>(first|exact nO hw|cases hw);rfl
    clear hw e;subst ht
    refine q5 ((Ha hp).h e0 c.O c.aa c.S c.F c.W) (λv s1 ⟨m1,σ1,P1,Q1,x1⟩=>?_) λH H x=>x
    refine(Hi.d ⟨c.O,c.aa,x1.so.st.le<|jG _ _,(x1.so.fm c.F).res,x1.so.own.res x1.ap⟩ e2 ey λw s2 σ2 P2 r2 x2 c2=>?_)
    refine Fg (XB x1.so x1.at_ x1.dm x2) λσ3 h3=>E7 h3.2.1 λd e1 hd=>?_
    have hv:v=.ref d:=FP.ref_i<|e1▸x1.rep
    clear x1 e1;subst hv
    exact Wa hs h3.1 hd.1 r2 ez k)
def qT (c:Q):FS (M1 c)=FS c:=by
 match c with
 |0=>rfl
 |1=>rfl
 |_+2=>rfl
def ZN {k j i:Q} {f:Fl} (e:jP J k j i=R f) {G:Prop} (q:∀c fs,gt J j=R (.o c fs)→M1 c=k→fs[i]?=R f→G):G:=by
 have e:(match gt J j with
  |R (.o c fs)=>if M1 c=k then fs[i]? else Z
  |_=>Z)=R f:=e
 induction h:gt J j with
 |Z=>replace e:=h▸e;exact nO e
 |R t=>
  replace e:=h▸e
  induction t with
  |o c fs=>
   by_cases U':M1 c=k
   ·exact q c fs h U'<|(Lh U').symm.trans e
   ·clear q h;cases (Lj U').symm.trans e
  |_=>exact nO e
def zpz {P:Pg} {cl:HM} {k j i:Q} {r:Th×Ev} (e:E0 P cl (.fld k j i) J=R r) {G:Prop} (q:∀m,jP J k j i=R (.d m)→(.d m,J)=r→G):G:=by
 replace e:(match jP J k j i with|R (.d m)=>R (Th.d m,J)|_=>Z)=R r:=e
 induction h:jP J k j i with
 |Z=>replace e:=h▸e;exact nO e
 |R f=>
  replace e:=h▸e
  induction f with
  |d m=>exact q m h<|z' e
  |_=>exact nO e
abbrev N9 (B:Gu) (n:Q) (sc:w7) (Ln:D Lf) (k j i:Q) (e:Lb):Prop:=∀{Lo:Env} {A:Z6} {s:q7} {σ:MH} {ls:Q→Lc MV} {P:Q→Fp} {J:Ev} {f:Fl} {N':q4→q7→Prop},Cx B n sc Ln Lo A s σ ls P J→jP J k j i=R f→
 (∀v s' m,FP s'.heap v m→ZK σ m f.vw→SO B σ s.heap ls f' J s' σ P→N' v s')→q9 B.G.M A (V8 e Lo) N' Er s
def N9.e {k j i:Q} {e:Lb} (z_:N9 B n sc Ln k j i e):Fj B n sc Ln (.fld k j i) e:=.mk1 λLo A s σ ls P J w N' c e kk=>zpz e λm hm e=>by
 subst e
 exact z_ c hm λv s' m' r w so=>PD.e ((w:m'=m)▸r) so kk
def N9.o {k j i:Q} {e:Lb} (z_:N9 B n sc Ln k j i e):HT B n sc Ln (.fld k j i) e:=⟨λ{Lo A s σ ls P J ρ' w} e O aa S F W=>
 qa (o:=gD (.fld k j i) J) e λw' e1 e2=>qa (o:=jP J k j i) e1 λf hf hw=>by
  clear e e1;cases e2
  subst hw
  exact z_ ⟨O,aa,S,F,W⟩ hf λv s' m' r w so=>⟨m',σ,P,r,w,so⟩⟩
def oX {I':Sem q4} {m':MV} {f:Fl} {N':q4→q7→Prop} (x:SO B σ h ls f' J s' σ P) (g:ZK σ m' f.vw) (w:q9 B.G.M A I' (Fh B.G σ s' λm τ=>m=m'∧τ=σ) Er s') (q:∀v s' m,FP s'.heap v m→ZK σ m f.vw→SO B σ h ls f' J s' σ P→N' v s'):q9 B.G.M A I' N' Er s':=
 q5 w (λv s1 Y=>YR Y λr S1 T1=>q _ _ _ r g<|x.more S1 T1) λH H x=>x
def xY {k j i:Q} {x attr:Lf} {xp pos:Pos} {nm:D Q} (z9:zN B) (hv:Ln[j]?=R x) (hd:(x==(s!"__debug__":Lf))=La) (hk:k≠0) (hn:(FS k)[i]?=R nm) (ha:attr=E5 nm):N9 B n sc Ln k j i<|.Attribute (.Name x xp) attr pos:=
 λ{Lo A s σ ls P J f N'} c e q=>ZN e λc' fs hg U' hf=>E7 (c.W.at_ _ _ hg) λm hl ht=>Attribute_Name_ (zH c.O c.F hv hd hl λv r=>by
  clear hg;induction c' with
  |zero=>exact Lg U'.symm hk
  |succ c'=>
  refine M0 ht λa d es e1 Y T' H H hfs=>Fv (hfs.get (qv _) hf) λk' m' g1 g2 g3=>?_
  (rw[←qT]at g1;replace g1:=U'▸g1;replace g1:=hn▸g1)
  have g1:=z' g1;subst g1
  clear hl ht g1;subst ha e1
  refine rq r.ref_i ?_
  exact oX (SO.refl c.S c.W) g3.vw (xV c.S z9.X (z9.cf c') (z9.af c' _<|by(rewrite [←qT];refine rq U' ?_);exact W3 hn) Y T' g2 ⟨C,C⟩) q)
def XD {k j i:Q} {x attr:Lf} {xp pos:Pos} {nm:D Q} (z9:zN B) (hv:Ln[j]?=R x) (hd:(x==(s!"__debug__":Lf))=La) (hk:k≠0) (hn:(FS k)[i]?=R nm) (ha:attr=E5 nm):
  Fj B n sc Ln (.fld k j i) (.Attribute (.Name x xp) attr pos):=N9.e<|xY z9 hv hd hk hn ha
def VB {k j i:Q} {x attr:Lf} {xp pos:Pos} {nm:D Q} (z9:zN B) (hv:Ln[j]?=R x) (hd:(x==(s!"__debug__":Lf))=La) (hk:k≠0) (hn:(FS k)[i]?=R nm) (ha:attr=E5 nm):
  HT B n sc Ln (.fld k j i) (.Attribute (.Name x xp) attr pos):=N9.o<|xY z9 hv hd hk hn ha
def XE {c:Q} (h:M1 c=0):c=0:=match c,h with|0,_=>rfl|1,h=>nomatch h|_+2,h=>nomatch h
def xZ {j i:Q} {x key:Lf} {xp kp pos:Pos} {kk:Q} {nm:D Q} (hv:Ln[j]?=R x) (hd:(x==(s!"__debug__":Lf))=La) (hn:(FS 0)[i]?=R nm) (ha:key=E5 nm):N9 B n sc Ln 0 j i<|.Subscript (.Name x xp) (.Constant (.str key) kk kp) pos:=
 λ{Lo A s σ ls P J f N'} c e q=>ZN e λc' fs hg U' hf=>E7 (c.W.at_ _ _ hg) λm hl ht=>B_ (zH c.O c.F hv hd hl λv r=>V2 (by
  clear hg;cases XE U'
  refine Og ht λa es e1 Y H hfs=>Fv (hfs.get (qv _) hf) λk' m' g1 g2 g3=>?_
  replace g1:=hn▸g1
  have g1:=z' g1;clear hn;subst g1
  clear hl ht g1;subst ha e1
  refine rq r.ref_i ?_
  have S':=c.S.toks<|s.toks+1
  exact F4 (c.S.own _ _ Y) λes' n' hd' H=>jC (s:={s with toks:=s.toks+1}) (T:=s!"dict") ⟨_,hd',C⟩ slot_dict_getitem.lookup (.inl C)<|oX ((SO.refl c.S c.W).more S'<|FB.refl _ _) g3.vw (Vu S' Y (hfs.nodup<|qv _) g2 ⟨C,C⟩) q))
def XF {j i:Q} {x key:Lf} {xp kp pos:Pos} {kk:Q} {nm:D Q} (hv:Ln[j]?=R x) (hd:(x==(s!"__debug__":Lf))=La) (hn:(FS 0)[i]?=R nm) (ha:key=E5 nm):
  Fj B n sc Ln (.fld 0 j i) (.Subscript (.Name x xp) (.Constant (.str key) kk kp) pos):=N9.e<|xZ hv hd hn ha
def VC {j i:Q} {x key:Lf} {xp kp pos:Pos} {kk:Q} {nm:D Q} (hv:Ln[j]?=R x) (hd:(x==(s!"__debug__":Lf))=La) (hn:(FS 0)[i]?=R nm) (ha:key=E5 nm):
  HT B n sc Ln (.fld 0 j i) (.Subscript (.Name x xp) (.Constant (.str key) kk kp) pos):=N9.o<|xZ hv hd hn ha
structure NN (B:Gu) (n:Q) (sc:w7) (Ln:D Lf) (x:X) (e:Lc Lb):Prop where
 h:∀{Lo:Env} {A:Z6} {s:q7} {σ:MH} {ls:Q→Lc MV} {P:Q→Fp} {J ρ':Ev} {m:MV},E0 B.P (EZ B.P B.W n) x J=R (.d m,ρ')→Fs Lo sc Ln→Nl A n→St B.G σ s→
  Fm s.heap σ Lo.locals Ln ls→Gg B σ ls J P→q9 B.G.M A (evalPart e Lo) (PD B σ s.heap ls La m ρ') Er s
def Pm:NN B n sc Ln (.lit .none) Z:=⟨λ{_ _ _ σ _ P _ _ _} e O aa S F W=>by
 refine qK e λeq1 eq2=>?_;clear e;subst eq2;cases eq1
 exact j4 ⟨.none,σ,P,SO.refl S W⟩⟩
def Kg {x:X} {e:Lb} (z_:Fj B n sc Ln x e):NN B n sc Ln x<|R e:=
 ⟨λe O aa S F W=>q5 (z_.h e O aa S F W) (λv s1 Y=>(Y.dat C).weak) λH H x=>x⟩
def NN.d {x:X} {e:Lc Lb} (z_:NN B n sc Ln x e) {Lo:Env} {t:Th} {m:MV} {ρ1:Ev} {N':q4→q7→Prop} (c:Cx B n sc Ln Lo A s σ ls P J) (e1:E0 B.P (EZ B.P B.W n) x J=R (t,ρ1)) (ed:t.dat=R m)
  (k:∀v s1 σ1 P1,FP s1.heap v m→SO B σ s.heap ls La ρ1 s1 σ1 P1→Cx B n sc Ln Lo A s1 σ1 ls P1 ρ1→N' v s1):q9 B.G.M A (evalPart e Lo) N' Er s:=by
 cases Xm ed
 exact q5 (z_.h e1 c.O c.aa c.S c.F c.W) (λv s1 ⟨r,_,_,x⟩=>k v s1 _ _ r x<|c.next x) λH H x=>x
def Wb {i:g'} {t:Tok} (h:0≤i):Ct i t=Ct (i.toNat:g') t:=Li (Ct · t) (Be h).symm
def ke {v:q4} {m:MV} {p:Lc Q} (r:FP h v m) (e:HZ m=R p):Gz v p:=by
 cases m with
 |Z=>replace e:=z' e;subst e;refine rq r.none_i ?_;exact .none
 |int i=>
  refine jt e λhz e=>r.int_i λt ev=>?_
  clear r;subst ev e
  refine rq (Wb hz.1) ?_;exact .int _ _
 |_=>exact nO e
def ziq {v lo hi z:MV} (e:ZJ v lo hi=R z) {G:Prop} (ks:∀x l u,HZ lo=R l→HZ hi=R u→v=.str x→x.length≤k7→.str (Hn x l u)=z→G) (kt:∀x l u,HZ lo=R l→HZ hi=R u→v=.tup x→x.length≤k7→.tup (Hn x l u)=z→G):G:=by
 have e:(match(generalizing:=false) HZ lo,HZ hi,v with
 |R lo,R hi,.str x=>if x.length≤k7 then R (MV.str<|Hn x lo hi)else Z
 |R lo,R hi,.tup x=>if x.length≤k7 then R (.tup<|Hn x lo hi)else Z
 |_,_,_=>Z)=R z:=e
 cases Y:HZ lo with
 |Z=>replace e:=Y▸e;exact nO e
 |R l=>
  replace e:=Y▸e
  cases T':HZ hi with
  |Z=>replace e:=T'▸e;exact nO e
  |R u=>
   replace e:=T'▸e
   cases v with
   |str x=>exact jt e λhz e=>ks x l u Y T' C hz e
   |tup x=>exact jt e λhz e=>kt x l u Y T' C hz e
   |_=>exact nO e
def zdz {a lo hi:X} {value:Lb} {l u:Lc Lb} {p pos:Pos} (Ha:Fj B n sc Ln a value) (Hl:NN B n sc Ln lo l) (Hu:NN B n sc Ln hi u):
  Fj B n sc Ln (.slc a lo hi) (.Subscript value (.Slice l u Z p) pos):=.mk1 λLo A s σ ls P J w N' c e k=>
 zh e λt1 ρ1 e1 e=>zB e λx ex e=>zh e λt2 ρ2 e2 e=>zB e λy ey e=>zh e λt3 ρ3 e3 e=>zB e λw ew e=>qa e λz ez e=>by
  subst e
  refine B_<|Ha.d c e1 ex λv s1 σ1 P1 r1 x1 c1=>wpAny_Slice (Hl.d c1 e2 ey λvl s2 σ2 P2 r2 x2 c2=>Hu.d c2 e3 ew λvu s3 σ3 P3 r3 x3 c3=>j4 ?_)
  have x4:=((x1.trans x2).trans x3).weak.more (x3.st.push {cls:=.type s!"slice",data:=.fields<|D.toArray [vl,vu,.none]})<|FB.push _ _ _
  have r4:=((r1.ext x2.te).ext x3.te).ext (zj s3.heap {cls:=.type s!"slice",data:=.fields<|D.toArray [vl,vu,.none]})
  have hs:(s3.heap.push {cls:=.type s!"slice",data:=.fields<|D.toArray [vl,vu,.none]}).get? s3.heap.objs.size=R {cls:=.type s!"slice",data:=.fields<|D.toArray [vl,vu,.none]}:=Heap.get?_push_size _ C
  refine ziq ez (λx' l u e1 e2 e3 hz e4=>?_) λx' l u e1 e2 e3 hz e4=>?_
  ·clear ex ez r1;subst e3 e4
   refine r4.str_i λt e=>?_
   subst e
   exact jC (T:=s!"str") C slot_str_getitem.lookup (.inr C)<|jZ x4 (Qr x4.st hs (ke r2 e1) (ke r3 e2) hz ⟨C,C⟩) k
  ·clear ex ez r1;subst e3 e4
   refine r4.tup_i λa vs e ha ra=>?_
   subst e
   exact jC (T:=s!"tuple") ha.isTuple.typeIs De.lookup (.inr C)<|jZ x4 (Qs x4.st r4 hs (ke r2 e1) (ke r3 e2) hz ⟨C,C⟩) k
def kP {f:q4} {trees:D<|Ld×Sem q4} {N':Args→q7→Prop} {E:q4→q7→Prop} (hp:trees.any (·.1)=La) (h:q9 B.G.M A (BW trees) (λvs s'=>N' ⟨vs,[]⟩ s') E s):q9 B.G.M A (evalArgs f f' trees []) N' E s:=by
 match trees,hp,h with
 |[],_,h=>
  unfold evalArgs
  refine(?_:q9 B.G.M A (BW []>>=_) N' E s)
  refine q6<|q5 h (λvs s' h'=>?_) λH H x=>x
  refine Bj ?_
  exact q6<|j4<|q6<|j4<|j4 h'
 |(f',x)::r,hp,_=>simp at hp
 |(La,x)::r,_,h=>exact Calls.evalArgs_plain h
structure wC (B:Gu) (sc:w7) (x:Lf) (v:q4):Prop where
 hx:sc.names.lookup x=R .globalImplicit
 hd:(x==(s!"__debug__":Lf))=La
 hk:CC B.G.K x_ x=R Z
 hb:BY x=R v
 hn:x≠s!"__name__"
structure vh (B:Gu) (sc:w7) (x:Lf) (v:q4):Prop where
 hx:sc.names.lookup x=R .globalImplicit
 hd:(x==(s!"__debug__":Lf))=La
 hk:CC B.G.K x_ x=R (R v)
abbrev qw (e:Lb) (es:D Lb):Prop:=∀Lo,W9 (e::es) Lo=(La,V8 e Lo)::W9 es Lo
def zK {e:Lb} {es:D Lb} {pos:Pos} {Lo:Env} (hs:qw e es) (h:(BH pos<|W9 es Lo).any (·.1)=La):(BH pos<|W9 (e::es) Lo).any (·.1)=La:=by
 refine rq (hs Lo) ?_;refine(?_:((La:Ld)||_)=La);exact h
def ko {pos:Pos} {T:String} {trees:D<|Ld×Sem q4} {N':q4→q7→Prop} (hp:trees.any (·.1)=La) (h:q9 B.G.M A (BW trees) (λvs s₁=>q9 B.G.M A (call (.type T) vs) N' Er s₁) Er s):
  q9 B.G.M A (D4 pos (.type T) [] trees []) N' Er s:=PySem.callWith_type hp<|kP hp h
def qd {pos:Pos} {id:String} {first:D q4} {trees:D<|Ld×Sem q4} {N':q4→q7→Prop} (hp:trees.any (·.1)=La) (h:q9 B.G.M A (BW trees) (λvs s₁=>q9 B.G.M A (call (.builtin id)<|first++vs) N' Er s₁) Er s):
  q9 B.G.M A (D4 pos (.builtin id) first trees []) N' Er s:=Calls.callWith_builtin hp<|kP hp h
abbrev PN:B1→q4
 | .str=>.type s!"str"
 | .int=>.type s!"int"
 | .tuple=>.type s!"tuple"
 | .len=>.builtin s!"len"
 | .isTup=>.none
def Kh {l:D Q} {v:g'} (e:xW l=R v):0≤v∧v<10^10∧l=zW v:=jt (c:=0≤yw l∧yw l<10^10∧l=zW (yw l)) e λY T'=>T'▸Y
def zd0 {o:B1} {w:Vw} {z m:MV} {v:q4} (ho:o≠.isTup) (S:St B.G σ s) (r:FP s.heap v m) (vw:ZK σ m w) (e:aH o w=R z):q9 B.G.M A (call (PN o) [v]) (Fh B.G σ s λm τ=>m=z∧τ=σ) Er s:=by
 cases w with
 |d m'=>
  have hm:m=m':=vw
  subst hm
  cases o with
  |isTup=>exact Lg C ho
  |str=>
   cases m with
   |str l=>have e:=z' e;subst e;refine r.str_i λt ev=>?_;subst ev;exact Vn S ⟨C,C⟩
   |int i=>refine jt e λhz e=>r.int_i λt ev=>?_;subst ev e;exact Vo S (v_ hz<|Ee (by decide) (by decide:60≤1000)) ⟨C,C⟩
   |_=>exact nO e
  |int=>
   cases m with
   |str l=>refine qa (o:=xW l) e λi hi e=>yG (Kh hi) λa b c=>r.str_i λt ev=>?_;clear hi;subst ev e;exact Vp S a b c ⟨C,C⟩
   |_=>exact nO e
  |tuple=>exact nO e
  |len=>
   cases m with
   |str l=>refine jt e λhz e=>r.str_i λt ev=>?_;subst ev e;exact Vm S (Kf hz) ⟨C,C⟩
   |tup l=>refine jt e λhz e=>?_;subst e;exact Vl S r (Kf hz) ⟨C,C⟩
   |_=>exact nO e
 |l l=>
  refine E7 vw λa em ha=>?_
  clear vw;subst em
  refine rq r.ref_i ?_
  clear ho;cases o with
  |tuple=>refine jt e λhz e=>?_;subst e;exact ZF S ha hz ⟨C,C⟩
  |len=>refine jt e λhz e=>?_;subst e;exact JX S ha (Kf hz) ⟨C,C⟩
  |_=>exact nO e
def zir {o:B1} {a:X} {e:Lb} {x:Lf} {xp pos:Pos} (z9:zN B) (ho:o≠.isTup) (hb:wC B sc x<|PN o) (hs:qw e []) (Ha:HT B n sc Ln a e):Fj B n sc Ln (.b1 o a)<|.Call (.Name x xp) [e] [] pos:=.mk1 λLo A s σ ls P J w N' c e k=>
 zh (o:=opn a (E0 B.P (EZ B.P B.W n) a) J) e λw ρ1 e1 e=>qa e λz ez e=>by
  subst e
  refine W4<|qS z9 c.O c.S hb.hx hb.hd hb.hk hb.hb hb.hn ?_
  have fin:q9 B.G.M A (BW<|BH pos<|W9 [_] Lo) (λvs s₁=>q9 B.G.M A (call (PN o) vs) N' Er s₁) Er s:=
   w4 (Ha.o c e1 λv m1 s1 σ1 P1 r1 w1 x1 c1=>Z7<|jZ x1.weak (zd0 ho x1.st r1 w1 ez) k) (hs Lo)
  have hp:=zK (pos:=pos) (Lo:=Lo) hs C
  clear hb ez k e;induction o with
  |isTup=>exact Lg C ho
  |len=>exact qd (first:=[]) hp fin
  |_=>exact ko hp fin
def VD {m:MV} {b:Ld} (e:isTup m (λH=>Z)=R b) (σ:MH):isTup m σ=R b:=by cases m<;>exact e
def Za {a:X} {e:Lb} {x y:Lf} {xp yp pos:Pos} (z9:zN B) (hb:wC B sc x<|.builtin s!"isinstance") (hy:wC B sc y<|.type s!"tuple") (hs:qw e [.Name y yp]) (Ha:HT B n sc Ln a e):
  Fj B n sc Ln (.b1 .isTup a) (.Call (.Name x xp) [e,.Name y yp] [] pos):=.mk1 λLo A s σ ls P J w N' c e k=>
 zh (o:=opn a (E0 B.P (EZ B.P B.W n) a) J) e λw ρ1 e1 e=>qa e λz ez e=>W4 (qS z9 c.O c.S hb.hx hb.hd hb.hk hb.hb hb.hn
  (qd (first:=[]) (zK hs C) (w4 (Ha.o c e1 λv m1 s1 σ1 P1 r1 w1 x1 c1=>w4 (qS z9 c.O x1.st hy.hx hy.hd hy.hk hy.hb hy.hn (Z7 (by
   clear e1 c1;subst e
   induction w with
   |l l=>exact nO ez
   |d m'=>
    refine qa (o:=isTup m' λH=>Z) ez λb hb e=>?_
    clear ez;subst e
    exact jZ x1.weak (Vq x1.st ((w1:m1=m')▸r1) (VD hb σ1) ⟨C,C⟩) k))) C)<|hs Lo)))
def zis {α:Type} {f:g'→g'→Lc α} {x y:MV} {r:α} (e:(match x,y with| .int x,.int y=>f x y|_,_=>Z)=R r) {G:Prop} (k:∀a b,x=.int a→y=.int b→f a b=R r→G):G:=by
 cases x with
 |int a=>
  cases y with
  |int b=>exact k a b C C e
  |_=>exact nO e
 |_=>exact nO e
def zit {α:Type} {f:D Q→D Q→Lc α} {x y:MV} {r:α} (e:(match x,y with| .str x,.str y=>f x y|_,_=>Z)=R r) {G:Prop} (k:∀a b,x=.str a→y=.str b→f a b=R r→G):G:=by
 cases x with
 |str a=>
  cases y with
  |str b=>exact k a b C C e
  |_=>exact nO e
 |_=>exact nO e
def ziu {α:Type} {f:D Q→D Q→g'→Lc α} {x y z:MV} {r:α} (e:(match x,y,z with| .str x,.str y,.int z=>f x y z|_,_,_=>Z)=R r) {G:Prop} (k:∀a b c,x=.str a→y=.str b→z=.int c→f a b c=R r→G):G:=by
 cases x with
 |str a=>
  cases y with
  |str b=>
   cases z with
   |int c=>exact k a b c C C C e
   |_=>exact nO e
  |_=>exact nO e
 |_=>exact nO e
def XG {a b:X} {e f:Lb} {x:Lf} {xp pos:Pos} (z9:zN B) (hb:wC B sc x<|.builtin s!"min") (hs:qw e [f]) (hs2:qw f []) (Ha:Fj B n sc Ln a e) (Hb:Fj B n sc Ln b f):
  Fj B n sc Ln (.min2 a b) (.Call (.Name x xp) [e,f] [] pos):=.mk1 λLo A s σ ls P J w N' c e k=>
 zh e λt1 ρ1 e1 e=>zB e λy ey e=>zh e λt2 ρ2 e2 e=>zB e λz ez e=>zis e λi j ei ej e9=>W4 (qS z9 c.O c.S hb.hx hb.hd hb.hk hb.hb hb.hn
  (qd (first:=[]) (zK hs<|zK hs2 C) (w4 (Ha.d c e1 ey λv s1 σ1 P1 r1 x1 c1=>w4 (Hb.d c1 e2 ez λv2 s2 σ2 P2 r2 x2 c2=>Z7 (by
   clear ey ez e;subst ei ej
   have e9:=z' e9;clear c2 e;subst e9
   refine(r1.ext x2.te).int_i λt e1=>r2.int_i λu e2=>?_
   clear r1 r2 e9 e;subst e1 e2
   exact jZ (x1.trans x2).weak (zpr x2.st c.aa.hd ⟨C,C⟩) k))<|hs2 Lo)<|hs Lo)))
abbrev qs (o:Lb) (name:Lf) (apos:Pos) (args:D Lb) (pos:Pos):Prop:=∀Lo,∃pl,V8 (.Call (.Attribute o name apos) args [] pos) Lo=
 (V8 o Lo>>=λov=>Cg apos.atName>>=λH=>Dp [ov] (Eo ov name pl)>>=λfx=>D4 pos fx.1 fx.2 (BH pos<|W9 args Lo) [])
def qy {o:Lb} {name:Lf} {apos pos:Pos} {args:D Lb} {Lo:Env} {N':q4→q7→Prop} (hm:qs o name apos args pos)
  (h:q9 B.G.M A (V8 o Lo) (λov s₁=>∀pl,q9 B.G.M A (Eo ov name pl) (λfx s₂=>q9 B.G.M A (D4 pos fx.1 fx.2 (BH pos<|W9 args Lo) []) N' Er s₂) Er s₁) Er s):
  q9 B.G.M A (V8 (.Call (.Attribute o name apos) args [] pos) Lo) N' Er s:=by
 obtain⟨pl,e⟩:=hm Lo
 refine rq e ?_
 exact q6<|q5 h (λov s₁ h₁=>q6<|J_<|q6<|Bj<|q5 (h₁ pl) (λfx s₂ h₂=>h₂) λH H x=>x) λH H x=>x
def Ki {sep:D Q} {t:Tok} {v:q4} {ms:D MV} {xs:D<|D Q} {k:MV→MH→Prop} (S:St B.G σ s) (r:FP s.heap v<|.tup ms) (e:Il ms=R xs) (hz:(xs.map λp=>p.length+sep.length).sum≤k7)
  (h:k (.str<|jz sep xs) σ):q9 B.G.M A (call (.builtin s!"str.join") [.str (E5 sep) t,v]) (Fh B.G σ s k) Er s:=by
 refine r.tup_i λa vs eT ha ra=>?_
 clear r;subst eT
 obtain⟨l,C,e2⟩:=yb ra e
 obtain⟨n,ha⟩:=ha
 have hok:JoinOk (E5 sep) (xs.map E5)=f':=by
  unfold JoinOk DC
  rw[Eh,vJ]
  simp only[DV,W8,decide_eq_false_iff_not,Y3,gt_iff_lt]
  have:(CS ((λp=>Lf.length p+(E5 sep).length)∘E5) xs)=xs.map λp=>p.length+sep.length:=by
   apply Eg;intro x _;simp[vd]
  refine rq this ?_;exact Td hz
  ·rfl
 rw[←e2]at hok
 unfold JoinOk at hok
 rw[W8]at hok
 refine D3 PySem.F.slot_str_join (typeIs_str _ _ _) PySem.F.entry_str_join (PySem.F.args_str_join_2 _ _) (meets_str_join_tuple (E5 sep) t a l hok) ⟨⟨_,_,ha,C,C⟩,post_join l ⟨joinFit_length hok,λt' k=>?_⟩⟩
 (refine rq e2 ?_;rw[KT]);exact Fh.same S (.str ..) h
def zd1 {y:MV} {ms:D MV} {z:MV} (e:xX y ms=R z) {G:Prop} (k:∀sep xs,y=.str sep→Il ms=R xs→(xs.map λp=>p.length+sep.length).sum≤k7→.str (jz sep xs)=z→G):G:=by
 cases y with
 |str sep=>exact zB (o:=Il ms) e λxs ex e=>jt e λhz e=>k sep xs C ex hz e
 |_=>exact nO e
def zd2 {y:Vw} {ms:D MV} (e:y.items=R ms) {G:Prop} (kd:y=.d (.tup ms)→G) (kl:y=.l ms→G):G:=by
 cases y with
 |d m=>
  cases m with
  |tup l=>exact kd<|rq (z' e) C
  |_=>exact nO e
 |l l=>exact kl<|rq (z' e) C
def XH {a b:X} {o e:Lb} {apos pos:Pos} {name:Lf} (hm:qs o name apos [e] pos) (hs:qw e []) (hn:name=(s!"join":Lf)) (Ha:Fj B n sc Ln a o) (Hb:HT B n sc Ln b e):
  Fj B n sc Ln (.join a b) (.Call (.Attribute o name apos) [e] [] pos):=.mk1 λLo A s σ ls P J w N' c e k=>
 zh e λt1 ρ1 e1 e=>zB e λy ey e=>zh (o:=opn b (E0 B.P (EZ B.P B.W n) b) ρ1) e λw ρ2 e2 e=>zB e λms em e=>qa e λz ez e=>zd1 ez λsep xs ey' ex hz ez2=>by
  clear ez;subst e hn ey' ez2
  refine qy hm<|Ha.d c e1 ey λv s1 σ1 P1 r1 x1 c1 pl=>r1.str_i λtk ev=>?_
  clear ey e r1;subst ev
  with_reducible refine GM.join ?_
  refine qd (first:=[_]) (zK hs C)<|w4 (Hb.o c1 e2 λv m2 s2 σ2 P2 r2 w2 x2 c2=>Z7 ?_)<|hs Lo
  refine zd2 em (λew=>?_) λew=>?_
  ·clear e2 e;subst ew
   exact jZ (x1.trans x2).weak (Ki x2.st ((w2:m2=.tup ms)▸r2) ex hz ⟨C,C⟩) k
  ·clear e2 e;subst ew
   refine E7 w2 λa em ha=>?_
   clear w2;subst em
   refine rq r2.ref_i ?_
   exact jZ (x1.trans x2).weak (zih x2.st ha ex hz ⟨C,C⟩) k
def zd3 {a b:X} {o e:Lb} {apos pos:Pos} {name:Lf} (hm:qs o name apos [e] pos) (hs:qw e []) (hn:name=(s!"startswith":Lf)) (Ha:Fj B n sc Ln a o) (Hb:Fj B n sc Ln b e):
  Fj B n sc Ln (.stw a b) (.Call (.Attribute o name apos) [e] [] pos):=.mk1 λLo A s σ ls P J w N' c e k=>
 zh e λt1 ρ1 e1 e=>zB e λy ey e=>zh e λt2 ρ2 e2 e=>zB e λz ez e=>zit e λi j ei ej e9=>by
  clear e;subst hn ei ej
  have e9:=z' e9;clear e;subst e9
  refine qy hm<|Ha.d c e1 ey λv s1 σ1 P1 r1 x1 c1 pl=>r1.str_i λtk ev=>?_
  clear ey e9 r1 e;subst ev
  with_reducible refine GM.startswith ?_
  refine qd (first:=[_]) (zK hs C)<|w4 (Hb.d c1 e2 ez λv s2 σ2 P2 r2 x2 c2=>Z7<|r2.str_i λtk ev=>?_)<|hs Lo
  clear ez r2 e;subst ev
  exact jZ (x1.trans x2).weak (ZG x2.st ⟨C,C⟩) k
def XI {a b c:X} {o e f:Lb} {apos pos:Pos} {name:Lf} (hm:qs o name apos [e,f] pos) (hs:qw e [f]) (hs2:qw f []) (hn:name=(s!"startswith":Lf)) (Ha:Fj B n sc Ln a o) (Hb:Fj B n sc Ln b e) (Hc:Fj B n sc Ln c f):
  Fj B n sc Ln (.stw3 a b c) (.Call (.Attribute o name apos) [e,f] [] pos):=.mk1 λLo A s σ ls P J w N' c e k=>
 zh e λt1 ρ1 e1 e=>zB e λy ey e=>zh e λt2 ρ2 e2 e=>zB e λz ez e=>zh e λt3 ρ3 e3 e=>zB e λu eu e=>ziu e λi j l ei ej el e=>by
  subst hn ei ej el
  refine jt e λhi e9=>?_
  clear e;subst e9
  refine qy hm<|Ha.d c e1 ey λv s1 σ1 P1 r1 x1 c1 pl=>r1.str_i λtk ev=>?_
  clear ey r1 e;subst ev
  with_reducible refine GM.startswith ?_
  refine qd (first:=[_]) (zK hs<|zK hs2 C)<|w4 (Hb.d c1 e2 ez λv s2 σ2 P2 r2 x2 c2=>w4 (Hc.d c2 e3 eu λv3 s3 σ3 P3 r3 x3 c3=>Z7<|r2.str_i λtk ev=>r3.int_i λtt ev2=>?_)<|hs2 Lo)<|hs Lo
  clear ez eu r2 r3 e;subst ev ev2
  refine rq (Wb hi.1) ?_
  exact jZ ((x1.trans x2).trans x3).weak (xO x3.st hi.2 ⟨C,C⟩) k
def Gg.addr (O:Gg B σ ls J P) {j:Q} {l:D MV} (hg:gt J j=R (.l l)):∃a,ls j=R (.ref a)∧σ a=R (.list l)∧P j a:=by
 refine cps λGG kk=>?_
 obtain⟨m,Y,a,C,T',h3⟩:=O.at_ _ _ hg
 refine kk ?_
 exact⟨a,Y,T',h3⟩
def Gg.updL (O:Gg B σ ls J P) {j:Q} {l':D MV} {a:w_} (Y:ls j=R (.ref a)) (h3:P j a):Gg B (upd σ a<|.list l') ls (st J j<|.l l') P:=by
 refine⟨λi t e=>?_,O.dj,λi b p=>?_⟩
 ·by_cases hi:i=j
  ·subst hi
   have hlt:=Xl e;unfold st at hlt;rw[D.length_set]at hlt
   unfold st at e;rw[yf hlt]at e;replace e:=z' e;subst e
   exact⟨_,Y,a,C,zJ _ _ _,h3⟩
  ·unfold st at e;rw[vL hi]at e
   obtain⟨m,a1,a2⟩:=O.at_ _ _ e
   exact⟨m,a1,a2.cong (λb p=>zE _ _ λe=>hi<|O.dj _ _ _ (e▸p) h3) λH q=>q⟩
 ·by_cases hb:b=a
  ·clear Y h3;subst hb;rw[zJ];rfl
  ·refine rq (zE _ _ hb) ?_;exact O.dm i b p
def XJ {G:Gl} (S:St G σ s) {a:w_} {l:D MV} (h:σ a=R (.list l)):∃vs n,s.heap.get? a=R (vc vs n):=let ⟨vs,⟨n,e⟩,_⟩:=S.own _ _ h;⟨vs,n,e⟩
def zp1 {P:Pg} {cl:HM} {j:Q} {r:Th×Ev} (e:E0 P cl (.pop j) J=R r) {G:Prop} (k:∀l m,gt J j=R (.l l)→l=l.dropLast++[m]→l.dropLast.length<k7→(.d m,st J j<|.l l.dropLast)=r→G):G:=by
 have e:(match(generalizing:=false) gt J j with
  |R (.l l)=>(match(generalizing:=false) l.getLast? with
   |R m=>if l.length≤k7 then R (Th.d m,st J j<|.l l.dropLast)else Z
   |Z=>Z)
  |_=>Z)=R r:=e
 induction h:gt J j with
 |Z=>rw[h]at e;exact nO e
 |R t=>
  rw[h]at e
  induction t with
  |l l=>
   have e:(match(generalizing:=false) l.getLast? with
   |R m=>if l.length≤k7 then R (Th.d m,st J j<|.l l.dropLast)else Z
   |Z=>Z)=R r:=e
   induction hl:l.getLast? with
   |Z=>rw[hl]at e;exact nO e
   |R m=>
    rw[hl]at e
    refine jt e λhz e=>Fg (D.getLast?_eq_some_iff.mp hl) λys e2=>?_
    clear hl;subst e2
    rw[q8]at hz
    exact k _ m h (rq Cz C) (by refine rq Cz ?_;exact hz) e
  |_=>exact nO e
def zd4 {j:Q} {x:Lf} {xp apos pos:Pos} {name:Lf} (hm:qs (.Name x xp) name apos [] pos) (hv:Ln[j]?=R x) (hd:(x==(s!"__debug__":Lf))=La) (hn:name=(s!"pop":Lf)):
  Fj B n sc Ln (.pop j) (.Call (.Attribute (.Name x xp) name apos) [] [] pos):=.mk1 λLo A s σ ls P J w N' c e k=>zp1 e λl m hg hl hz e=>by
 subst hn e
 refine Hs (c.W.addr hg) λa Y T' h3=>qy hm<|zH c.O c.F hv hd Y λv r pl=>?_
 refine rq r.ref_i ?_
 refine Ib (XJ c.S T') λvs nn ho=>?_
 have hT:s.TypeIs (.ref a) s!"list":=⟨_,ho,C⟩
 with_reducible refine By (T:=s!"list") hT BZ PySem.F.slot_list_pop PySem.F.type_list_pop (λa e=>?_) ?_
 ·clear hT;cases e;exact⟨_,ho,C⟩
 refine qd (first:=[_]) C<|Ex ?_
 rw[hl]at T'
 exact q5 (zpu (k:=λz τ=>z=m∧τ=upd σ a (.list l.dropLast)) c.S T' hz ⟨C,C⟩) (λv s1 h1'=>YR h1' λr S1 T1=>k _ _<|PD.pe ⟨r,_,P,S1,T1,c.W.updL Y h3,c.S.tupExt T1,λe=>nB e⟩) λH H x=>x
structure HH (B:Gu) (M':Q) (a:w_):Prop where
 lk:∃es nn,B.G.K.lookup a=R ⟨.type s!"dict",Z,.dict es nn,(D.toArray [])⟩∧Gy B.G.w.params B.G.h0 es.toList (B.P.ds M')
 lo:(a==Dd)=La
abbrev l_ (h:y9) (f:Lf→Lc q4) (o:Lc MV) (k:D Q):Prop:=match o with|R m=>∃v,f (E5 k)=R v∧FP h v m|Z=>f (E5 k)=Z
def VE (k:Lf):(λd:J7=>CH k d.key)=λd=>d.key.isStr k:=funext λd=>(isStr_of k d.key).symm
def zd5 {h:y9} {G:Gl} {a:w_} {es:Array J7} {nn:Q} {l:D<|D Q×MV} (ho:h.get? a=R ⟨.type s!"dict",Z,.dict es nn,(D.toArray [])⟩) (q:Gy G.w.params h es.toList l):
  ∃f,h.MapOf (strKind G.prog G.w) a f∧∀k,l_ h f (zA k l) k:=
 Hs (q.dr G.prog) λkvs d p kk=>⟨λk=>findBy CH es k,⟨_,es,nn,ho,⟨C,C,C⟩,C,λe he=>kk e<|Array.mem_toList_iff.mpr he,λH=>C⟩,λk=>by
  have hq:findBy CH es (E5 k)=(es.toList.find? λd=>d.key.isStr<|E5 k).map (·.val):=by
   unfold findBy;(refine rp (Array.find?_toList) ?_;rw[VE])
  clear d;induction hm:zA k l with
  |R m=>exact E7 (q.find hm) λe he r=>⟨e.val,hq.trans<|Li _ he,r⟩
  |Z=>exact hq.trans<|Li _<|q.find_none hm⟩
def HH.map {M':Q} {a:w_} (z9:zN B) (d:HH B M' a) (S:St B.G σ s):∃f,s.heap.MapOf (strKind B.G.prog B.G.w) a f∧∀k,l_ s.heap f (zA k<|B.P.ds M') k:=
 F4 d.lk λes nn hl q=>zd5 (S.keep _ _<|z9.X _ _ hl)<|q.ext S.tup0
def MapOf.obj {h:y9} {a:w_} {f:Lf→Lc q4} {G:Gl} (M:h.MapOf (strKind G.prog G.w) a f):∃o,h.get? a=R o∧o.cls=.type s!"dict"∧o.dict=Z:=by obtain⟨o,H,H,Y,⟨T',h3,H⟩,H⟩:=M;exact⟨o,Y,T',h3⟩
def Kj {α:Type} {f:D Q→Lc α} {x:MV} {r:α} (e:(match x with| .str x=>f x|_=>Z)=R r) {G:Prop} (k:∀a,x=.str a→f a=R r→G):G:=by
 cases x with
 |str a=>exact k a C e
 |_=>exact nO e
def QD {M':Q} {a:w_} {k:X} {x:Lf} {xp:Pos} {l:Lb} (z9:zN B) (hg:vh B sc x<|.ref a) (d:HH B M' a) (Ha:Fj B n sc Ln k l) {Lo:Env} {N':q4→q7→Prop} {w:Th×Ev} (c:Cx B n sc Ln Lo A s σ ls P J) (e:E0 B.P (EZ B.P B.W n) (.din M' k) J=R w)
  (q:∀z ρ2 v s',(.d<|.bool z,ρ2)=w→PD B σ s.heap ls La (.bool z) ρ2 v s'→N' v s'):
  q9 B.G.M A (V8 l Lo) (λv s₁=>q9 B.G.M A (V8 (.Name x xp) Lo) (λw s₂=>q9 B.G.M A (K3 .In v w) N' Er s₂) Er s₁) Er s:=
 zh e λt1 ρ1 e1 e=>zB e λy ey e=>Kj e λkk ek e=>Ha.d c e1 ey λv s1 σ1 P1 r1 x1 c1=>by
  clear ey;subst ek
  refine r1.str_i λtk ev=>?_
  clear r1;subst ev
  refine ji z9 c.O x1.st hg.hx hg.hd hg.hk<|E7 (d.map z9 x1.st) λf M hf=>wpAny_in_of (B7 _ _ _ _) d.lo M (q _ _ _ _ (z' e) ?_)
  have:(f<|E5 kk).isSome=(zA kk<|B.P.ds M').isSome:=by
   have h:=hf kk
   clear d e hf;induction hl:zA kk (B.P.ds M')with
   |R m=>rw[hl]at h;exact E7 h λv Y H=>by refine rq Y ?_;rfl
   |Z=>rw[hl]at h;refine rq (h:f (E5 kk)=Z) ?_;rfl
  refine rq this ?_
  exact⟨.bool _,σ1,P1,x1.weak.more (x1.st.toks _)<|FB.refl _ _⟩
def zd6 {M':Q} {a:w_} {k:X} {x:Lf} {xp pos:Pos} {l:Lb} (z9:zN B) (hg:vh B sc x<|.ref a) (d:HH B M' a) (Ha:Fj B n sc Ln k l):Fj B n sc Ln (.din M' k) (.Compare l [.In] [.Name x xp] pos)∧Go B n sc Ln (.din M' k) (.Compare l [.In] [.Name x xp] pos):=
 ⟨.mk1 λLo A s σ ls P J w N' c e k=>wpAny_Compare1 (QD z9 hg d Ha c e λz ρ2 v s' e h=>by subst e;exact k _ _ h.pe) C,
 .mk1 λLo A s σ ls P J w b N' c e eb k=>BF (QD z9 hg d Ha c e λz ρ2 v s' e h=>yO (Lo:=Lo) e eb h k) C⟩
def XK {M':Q} {a:w_} {k:X} {x:Lf} {xp pos:Pos} {l:Lb} (z9:zN B) (hs:vg l) (hg:vh B sc x<|.ref a) (d:HH B M' a) (Ha:Fj B n sc Ln k l):Fj B n sc Ln (.didx M' k)<|.Subscript (.Name x xp) l pos:=.mk1 λLo A s σ ls P J w N' c e k=>
 zh e λt1 ρ1 e1 e=>zB e λy ey e=>Kj e λkk ek e9=>B_ (ji z9 c.O c.S hg.hx hg.hd hg.hk (Ha.d c e1 ey λv s1 σ1 P1 r1 x1 c1=>by
  clear ey;subst ek
  refine r1.str_i λtk ev=>qa e9 λm hm e9=>?_
  clear e1 c1 r1;subst ev e9
  refine E7 (d.map z9 x1.st) λf M hf=>?_
  have h:=hf kk
  rw[hm]at h
  exact E7 h λv hv r=>jC M.typeIs slot_dict_getitem.lookup (.inl<|hs _ _)<|wpAny_getItem_of (B7 _ _ _ _) M hv<|PD.e r (x1.weak.more (x1.st.toks _)<|FB.refl _ _) k))
def QF {f:Lf→Lc q4} {l:D<|D Q×MV} {a:w_} {kk:D Q} {tk:Tok} {w:q4} {y:MV} {σ1:MH} {s1:q7} {P1:Q→Fp} (x1:SO B σ h ls pu ρ' s1 σ1 P1) (lo:(a==Dd)=La) (M:s1.heap.MapOf (strKind B.G.prog B.G.w) a f)
  (hf:l_ s1.heap f (zA kk l) kk) (r:FP s1.heap w y):
  q9 B.G.M A (call (.builtin s!"dict.get") [.ref a,.str (E5 kk) tk,w]) (PE B σ h ls La (.d<|(zA kk l).getD y) ρ') Er s1:=by
 refine call_meetsIn Cd M.typeIs PySem.F.entry_dict_get (PySem.F.args_dict_get_3 _ _ _) (meets_dict_get_default (strKind B.G.prog B.G.w) a (B7 _ _ _ _) lo w) ⟨_,M,PD.pe ⟨?_,σ1,P1,x1.weak.more (x1.st.toks _)<|FB.refl _ _⟩⟩
 refine(?_:FP s1.heap _ _)
 induction hl:zA kk l with
 |R m=>rw[hl]at hf;exact E7 hf λv Y r'=>by refine rq Y ?_;exact r'
 |Z=>rw[hl]at hf;refine rq (hf:f (E5 kk)=Z) ?_;exact r
def XL {M':Q} {a:w_} {k d:X} {x:Lf} {xp apos pos:Pos} {name:Lf} {l r:Lb} (z9:zN B) (hm:qs (.Name x xp) name apos [l,r] pos) (hs:qw l [r]) (hs2:qw r []) (hn:name=(s!"get":Lf)) (hg:vh B sc x<|.ref a) (dd:HH B M' a)
  (Ha:Fj B n sc Ln k l) (Hb:Fj B n sc Ln d r):Fj B n sc Ln (.dget M' k d)<|.Call (.Attribute (.Name x xp) name apos) [l,r] [] pos:=.mk1 λLo A s σ ls P J w N' c e kq=>
 zh e λt1 ρ1 e1 e=>zB e λy ey e=>zh e λt2 ρ2 e2 e=>zB e λz ez e=>Kj e λkk ek e9=>by
  subst hn ek
  have e9:=z' e9;subst e9
  refine qy hm<|ji z9 c.O c.S hg.hx hg.hd hg.hk λpl=>E7 (dd.map z9 c.S) λf M hf=>Hs (MapOf.obj M) λob ho U' hdn=>?_
  have hT:s.TypeIs (.ref a) s!"dict":=⟨_,ho,U'⟩
  with_reducible refine By (T:=s!"dict") hT Dy Cd DN (λa e=>?_) ?_
  ·clear hg hT;cases e;exact⟨_,ho,hdn⟩
  refine qd (first:=[_]) (zK hs<|zK hs2 C)<|w4 (Ha.d c e1 ey λv2 s1 σ1 P1 r1 x1 c1=>w4 (Hb.d c1 e2 ez λv3 s2 σ2 P2 r2 x2 c2=>Z7<|r1.str_i λtk ev=>?_)<|hs2 Lo)<|hs Lo
  clear ey e9 e r1;subst ev
  exact E7 (dd.map z9 x2.st) λf M hf=>q5 (QF (x1.trans x2) dd.lo M (hf kk) r2) (λH H h=>kq _ _ h) λH H x=>x
end
mutual namespace A
structure VF (A:Z6) (n:Q):Prop where
 hd:A.handled=Z
 dp:A.depth+2*n<DZ
 un:A.units+8*n+196<DL
def Nl.c {A:Z6} {n:Q} (h:Nl A n):VF A n:=⟨h.hd,by have:=h.dp;exact b9 this,by have:=h.un;exact gh this⟩
structure kQ (B:Gu) (mn:Q→D Q):Prop where
 fnk:∀f F,B.P.fn f=R F→DE B.G.K (.ref<|B.fa f)=f'
 mt:∀c m f,B.P.mt (c+1) m=R f→B8 B.G.K (.ref<|B.ca<|c+1) (E5<|mn m)=R (R<|.ref<|B.fa f)∧typeIn B.G.K (.ref<|B.fa f)=R (.type s!"function")∧mn m∉FS (c+1)∧DE B.G.K (.ref<|B.fa f)=f'
 mt0:∀m,B.P.mt 0 m=Z
 gn:∀c,B8 B.G.K (.ref<|B.ca<|c+1) s!"__getattr__"=R Z
 made:∀c,makesIn B.G.K (B.ca<|c+1)=f'∧DE B.G.K (.ref<|B.ca<|c+1)=f'
 it:∀c f,B.P.init (c+1)=R f→B8 B.G.K (.ref<|B.ca<|c+1) s!"__init__"=R (R<|.ref<|B.fa f)∧typeIn B.G.K (.ref<|B.fa f)=R (.type s!"function")
 it0:B.P.init 0=Z
structure yq (B:Gu) (n:Q):Prop where
 h:∀{f:Q} {args args':Ev} {r:Th} {A:Z6} {s:q7} {σ:MH} {ms:D MV} {vs:D q4} {P:Q→Fp},EZ B.P B.W n f args=R (r,args')→VF A n→St B.G σ s→FJ s.heap vs ms→args.length=ms.length→
  Gg B σ (λi=>ms[i]?) args P→Y_ B.G.M A (.call (.ref<|B.fa f) ⟨vs,[]⟩) (λr' s'=>match r' with| .ok (.ret v)=>PE B σ s.heap (λi=>ms[i]?) La r args' v s'|_=>False) s
end
mutual section
variable {B:Gu} {n:Q} {σ σ' σ'':MH} {h h':y9} {ls:Q→Lc MV} {pu pu':Ld} {t:Th} {m:MV} {J ρ' ρ'' ρ1 ρ2:Ev} {v:q4} {s s' s'':q7} {P P' P'' P1 P2:Q→Fp} {A:Z6}
variable {sc:w7} {Ln:D Lf} {N':Fp} {as:D Ar} {ms:D MV} {U ts':Ev}
inductive Np (B:Gu) (σ:MH) (ls:Q→Lc MV) (N':Fp):D Ar→D MV→Prop where
 |nil:Np B σ ls N' [] []
 |dat {m:MV} {as:D Ar} {ms:D MV}:Np B σ ls N' as ms→Np B σ ls N' (.v (.d m)::as) (m::ms)
 |slot {j:Q} {m:MV} {as:D Ar} {ms:D MV}:ls j=R m→Np B σ ls N' as ms→Np B σ ls N' (.s j::as) (m::ms)
 |own {m:MV} {t:Th}:I3 B σ N' m t→Np B σ ls N' [.v t] [m]
abbrev PA (B:Gu) (σ:MH) (h:y9) (ls:Q→Lc MV) (as:D Ar) (ρ':Ev) (vs:D q4) (s':q7):Prop:=
 ∃ms σ' P' N',FJ s'.heap vs ms∧SO B σ h ls La ρ' s' σ' P'∧Np B σ' ls N' as ms∧(∀a,N' a→(σ' a).isSome=f')∧wB N' P'
structure Ok (B:Gu) (n:Q) (sc:w7) (Ln:D Lf) (x:X) (es:D Lb):Prop where
 h:∀{Lo:Env} {A:Z6} {s:q7} {σ:MH} {ls:Q→Lc MV} {P:Q→Fp} {J ρ':Ev} {as:D Ar} {pos:Pos},Pl B.P (EZ B.P B.W n) x J=R (as,ρ')→Fs Lo sc Ln→Nl A n→St B.G σ s→
  Fm s.heap σ Lo.locals Ln ls→Gg B σ ls J P→q9 B.G.M A (BW<|BH pos<|W9 es Lo) (PA B σ s.heap ls as ρ') Er s
 p:∀{Lo:Env} {pos:Pos},(BH pos<|W9 es Lo).any (·.1)=La
def Ok.a {x:X} {es:D Lb} (z_:Ok B n sc Ln x es) {Lo:Env} {pos:Pos} {I':D q4→q7→Prop} (c:Cx B n sc Ln Lo A s σ ls P J) (e1:Pl B.P (EZ B.P B.W n) x J=R (as,ρ1))
  (k:∀vs ms s1 σ1 P1 N',FJ s1.heap vs ms→SO B σ s.heap ls La ρ1 s1 σ1 P1→Np B σ1 ls N' as ms→(∀a,N' a→(σ1 a).isSome=f')→wB N' P1→I' vs s1):q9 B.G.M A (BW<|BH pos<|W9 es Lo) I' Er s:=
 q5 (z_.h e1 c.O c.aa c.S c.F c.W) (λvs s1 h=>U_ h λms σ1 P1 N' r x ar dm ap=>k vs ms s1 σ1 P1 N' r x ar dm ap) λH H x=>x
def RU:Ok B n sc Ln .nil []:=⟨λ{_ _ _ σ _ P _ _ _ _} e O aa S F W=>by
 refine qK e λeq1 eq2=>?_;clear e;subst eq1 eq2
 exact Z7 ⟨[],σ,P,λH=>False,.nil,SO.refl S W,.nil,λH h=>h.elim,λH H h=>h.elim⟩,C⟩
def zd7 {a:X} {ev:Ev→Lc (Th×Ev)} {l:Ld} (h:∀i,a≠.var i):kM a ev l J=(ev J).bind λ(x,J)=>match x with
 | .d m=>R (.v<|.d m,J)
 |x=>if l then R (.v x,J)else Z:=by
 induction a<;>first|rfl|exact Lg C (h _)
def Wc {b:X} (h:Oc b=f'):b=.nil:=by induction b<;>first|rfl|exact nB h
def ziw {P:Pg} {cl:HM} {i:Q} {l:Ld} {r:Ar×Ev} (e:kM (.var i) (E0 P cl<|.var i) l J=R r) {G:Prop} (ks:∀t,gt J i=R t→(.s i,J)=r→G) (kd:∀m,E0 P cl (.var i) J=R (.d m,J)→(.v<|.d m,J)=r→G):G:=by
 have e:(match gt J i with
  |R (.d m)=>R (Ar.v<|.d m,J)
  |R _=>R (.s i,J)
  |Z=>Z)=R r:=e
 have f:E0 P cl (.var i) J=(match gt J i with|R (.d m)=>R (Th.d m,J)|_=>Z):=C
 induction h:gt J i with
 |Z=>rw[h]at e;exact nO e
 |R t=>
  rw[h]at e f
  induction t with
  |d m=>exact kd m f<|z' e
  |_=>exact ks _ h<|z' e
def zix {P:Pg} {cl:HM} {a:X} {l:Ld} {ar:Ar} (e:kM a (E0 P cl a) l J=R (ar,ρ1)) {G:Prop} (ks:∀i t,a=.var i→gt J i=R t→.s i=ar→J=ρ1→G) (kd:∀m,E0 P cl a J=R (.d m,ρ1)→.v (.d m)=ar→G)
  (kl:∀t,E0 P cl a J=R (t,ρ1)→.v t=ar→l=f'→G):G:=by
 by_cases h:∃i,a=.var i
 ·refine Fg h λi hi=>?_
  subst hi
  exact ziw e (λt ht e=>ks i t C ht (Li Dz e)<|Li Prod.snd e) λm hm e=>by clear ks;cases e;exact kd m hm C
 ·rw[zd7 λi e=>h ⟨i,e⟩]at e
  refine zh e ?_;clear e;intro t ρ2 e1 e
  induction l with
  |f'=>induction t<;>(refine qK e λeq1 eq2=>?_;subst eq1 eq2;exact kl _ e1 C C)
  |La=>
   induction t with
   |d m=>refine qK e λeq1 eq2=>?_;clear kl ks;subst eq1 eq2;exact kd m e1 C
   |_=>exact nO e
def Np.nil_i (h:Np B σ ls N' [] ms):ms=[]:=match h with| .nil=>rfl
def VG {a b:X} {ex:Lb} {es:D Lb} (hs:qw ex es) (Hv:∀i,a=.var i→∃x p,ex=.Name x p∧Ln[i]?=R x∧(x==(s!"__debug__":Lf))=La) (Ha:Fj B n sc Ln a ex) (Hb:Ok B n sc Ln b es):Ok B n sc Ln (.cons a b)<|ex::es:=
 ⟨λ{Lo A s σ ls P J ρ' as pos} e O aa S F W=>zh (o:=kM a (E0 B.P (EZ B.P B.W n) a) (Oc b) J) e λar ρ1 e1 e=>wH e λas1 ρ2 e2 e=>by
  cases e
  have c:Cx B n sc Ln Lo A s σ ls P J:=⟨O,aa,S,F,W⟩
  refine zix e1 (λi t ea hg er eρ=>?_) (λm he er=>?_) λt he er hl=>?_
  ·clear e1;subst er eρ
   refine Fv (Hv i ea) λx p ex' hv hd=>E7 (W.at_ _ _ hg) λm hl H=>?_
   clear Hv;subst ex'
   exact w4 (zH O F hv hd hl λv r=>Hb.a c e2 λvs ms s2 σ2 P2 N' r2 x2 ar dm ap=>⟨m::ms,σ2,P2,N',.cons (r.ext x2.te) r2,x2,.slot hl ar,dm,ap⟩)<|hs Lo
  ·clear e e1;subst er
   exact w4 (Ha.d c he C λv s1 σ1 P1 r1 x1 c1=>Hb.a c1 e2 λvs ms s2 σ2 P2 N' r2 x2 ar dm ap=>⟨m::ms,σ2,P2,N',.cons (r1.ext x2.te) r2,(x1.trans x2).weak,.dat ar,dm,ap⟩)<|hs Lo
  ·clear e1 e;subst er
   have hb:=Wc hl
   clear hl e;subst hb
   refine qK e2 λeq1 eq2=>?_;clear e2;subst eq1 eq2
   exact w4 (q5 (Ha.h he O aa S F W) (λv s1 ⟨m,σ1,P1,N',x1⟩=>Hb.a ⟨O,aa,x1.so.st.le<|jG _ _,(x1.so.fm F).res,x1.so.own.res x1.ap⟩ (C:Pl B.P (EZ B.P B.W n) .nil _=R ([],_)) λvs ms s2 σ2 P2 Q2 r2 x2 ar dm ap=>by
    cases ar.nil_i
    refine rq r2.nil_i ?_
    exact Fg (XB x1.so x1.at_ x1.dm x2) λσ3 h3=>JS h3 λx3 T3 dm3 h4=>⟨[m],σ3,P2,N',#[x1.rep.ext x2.te],x3,.own T3,dm3,h4.1⟩) λH H x=>x)<|hs Lo,zK hs Hb.p⟩
abbrev yQ (N':Fp) (P:Q→Fp):Q→Fp:=λi=>match i with|0=>N'|i+1=>P i
def qI {G':w_→Prop} (h0:∀a,N' a→G' a) (Y:∀i a,P i a→G' a):∀i a,yQ N' P i a→G' a:=λi a p=>match i,p with|0,p=>h0 a p|i+1,p=>Y i a p
def Gg.cons {t:Th} (T:I3 B σ N' m t) (dm:∀a,N' a→(σ a).isSome=f') (O:Gg B σ (λi=>ms[i]?) U P) (sep:∀i a,P i a→¬N' a):Gg B σ (λi=>(m::ms)[i]?) (R t::U)<|yQ N' P:=
 ⟨λi u e=>match i,e with
  |0,e=>⟨m,C,(z' e:t=u)▸T⟩
  |i+1,e=>O.at_ i u e,
 λi j a p q=>match i,j,p,q with
  |0,0,_,_=>rfl
  |0,j+1,p,q=>Lg p<|sep j a q
  |i+1,0,p,q=>Lg q<|sep i a p
  |i+1,j+1,p,q=>Li _<|O.dj _ _ _ p q,
 qI dm O.dm⟩
def Gg.tail {t:Lc Th} (O:Gg B σ (λi=>(m::ms)[i]?) (t::U) P):Gg B σ (λi=>ms[i]?) U λi=>P (i+1):=⟨λi t e=>O.at_ (i+1) t e,λi j a p q=>B3<|O.dj _ _ _ p q,λi a p=>O.dm _ _ p⟩
def zd8 {j:Q} {r:Ev×Ev} (e:GK (.s j::as) J=R r) {G:Prop} (k:∀t U ρ2,gt J j=R t→GK as (J.set j Z)=R (U,ρ2)→(R t::U,ρ2)=r→G):G:=by
 have e:(match(generalizing:=false) gt J j with
  |R t=>(GK as<|J.set j Z).map λ(U,J)=>(R t::U,J)
  |Z=>Z)=R r:=e
 induction h:gt J j with
 |Z=>rw[h]at e;exact nO e
 |R t=>rw[h]at e;exact wH e λU ρ2 e1 e2=>k t U ρ2 h e1 e2
def Zb (ar:Np B σ ls N' as ms) (dm:∀a,N' a→(σ a).isSome=f'):∀{J:Ev} {P:Q→Fp} {U ρ2:Ev},Gg B σ ls J P→wB N' P→GK as J=R (U,ρ2)→
  ∃PA P2,Gg B σ (λi=>ms[i]?) U PA∧Gg B σ ls ρ2 P2∧(∀i a,PA i a→∀j,¬P2 j a)∧U.length=ms.length∧(∀j a,P2 j a→P j a)∧∀i a,PA i a→N' a∨∃j,P j a:=by
 induction ar with
 |nil=>
  intro J P U ρ2 O ap e
  refine qK e λeq1 eq2=>?_;subst eq1 eq2
  exact⟨λH H=>False,P,Gg.none (λH H H h=>h.elim) λH H h=>h.elim,O,λH H h=>h.elim,C,λH H h=>h,λH H h=>h.elim⟩
 |@dat m as ms ar ih=>
  intro J P U ρ2 O ap e
  refine wH (o:=GK as J) e λU ρ2 e1 e=>RP (ih O ap e1) λPA P2 O1 O2 d l q1 q2=>?_
  cases e
  exact⟨yQ (λH=>False) PA,P2,O1.cons (t:=.d m) C (λH h=>h.elim) λH H H h=>h,O2,qI (λH h=>h.elim) d,Li (· +1) l,q1,qI (λH h=>h.elim) q2⟩
 |@slot j m as ms hj ar ih=>
  intro J P U ρ2 O ap e
  refine zd8 e λt U ρ2 hg e1 e=>E7 (O.at_ _ _ hg) λm' hl ht=>RP (ih (O.drop j) (λa i q p=>ap a i q p.2) e1) λPA P2 O1 O2 d l q1 q2=>?_
  clear hg e1;cases e
  rw[hj]at hl;replace hl:=z' hl;clear hj;subst hl
  exact⟨yQ (P j) PA,P2,O1.cons ht (O.dm j) λi a p pj=>(q2 i a p).elim (λq=>ap a j q pj) λ⟨k,hk,q⟩=>hk (O.dj _ _ _ q pj),O2,qI (λa p k q=>(q1 k a q).1<|O.dj _ _ _ (q1 k a q).2 p) d,Li (· +1) l,λk a p=>(q1 k a p).2,
   qI (λa p=>.inr ⟨j,p⟩) λi a p=>(q2 i a p).imp id λ⟨k,_,q⟩=>⟨k,q⟩⟩
 |@own m t T=>
  intro J P U ρ2 O ap e
  refine qK e λeq1 eq2=>?_;clear e;subst eq1 eq2
  exact⟨yQ N' λH H=>False,P,(Gg.none (ls:=λi=>[][i]?) (λH H H h=>h.elim) λH H h=>h.elim).cons T dm λH H h=>h.elim,O,qI (λa q j=>ap a j q) λH H h=>h.elim,C,λH H h=>h,qI (λH q=>.inl q) λH H h=>h.elim⟩
def Zc (ar:Np B σ' ls N' as ms):∀{J:Ev} {P:Q→Fp} {U:Ev} {PA:Q→Fp},Gg B σ ls J P→Gg B σ (λi=>ms[i]?) U PA→(∀i a,PA i a→∀j,¬P j a)→
  ∃P3,Gg B σ ls (Id as U J) P3∧∀i a,P3 i a→(∃j,P j a)∨∃j,PA j a:=by
 induction ar with
 |nil=>exact λ{J P U PA} O H H=>⟨P,O,λi a p=>.inl ⟨i,p⟩⟩
 |own T=>exact λ{J P U PA} O H H=>⟨P,by induction U<;>exact O,λi a p=>.inl ⟨i,p⟩⟩
 |dat ar ih=>
  intro J P U PA O O1 d
  induction U with
  |nil=>exact⟨P,O,λi a p=>.inl ⟨i,p⟩⟩
  |cons t U=>exact E7 (ih O O1.tail λi a p=>d _ _ p) λP3 O3 q=>⟨P3,O3,λi a p=>(q i a p).imp id λ⟨k,x⟩=>⟨_,x⟩⟩
 |@slot j m as ms hj ar ih=>
  intro J P U PA O O1 d
  induction U with
  |nil=>exact⟨P,O,λi a p=>.inl ⟨i,p⟩⟩
  |cons t U=>
   induction t with
   |Z=>exact E7 (ih (O.drop j) O1.tail λi a p k q=>d _ _ p _ q.2) λP3 O3 q=>⟨P3,O3,λi a p=>(q i a p).imp (λ⟨k,x⟩=>⟨k,x.2⟩) λ⟨k,x⟩=>⟨_,x⟩⟩
   |R t=>
    refine E7 (O1.at_ 0 t C) λm' hm ht=>?_
    replace hm:=z' hm;clear tail_ih;subst hm
    refine E7 (ih (O.put (N':=PA 0) hj (λH H=>C) ht (O1.dm 0) λa k q H=>d _ _ q _) O1.tail λi a p k q=>?_) λP3 O3 q=>⟨P3,O3,λi a p=>(q i a p).elim (λ⟨k,x⟩=>?_) λ⟨k,x⟩=>.inr ⟨_,x⟩⟩
    ·by_cases hk:k=j
     ·rw[Lh hk]at q;clear ht;cases O1.dj _ _ _ p q
     ·rw[Lj hk]at q;exact d _ _ p _ q
    ·by_cases hk:k=j
     ·rw[Lh hk]at x;exact .inr ⟨0,x⟩
     ·rw[Lj hk]at x;exact .inl ⟨k,x⟩
def vN (G':yq B n) {f:Q} {vs:D q4} {σ1:MH} {s1:q7} (x1:SO B σ h ls pu ρ1 s1 σ1 P1) (rl:FJ s1.heap vs ms) (ar:Np B σ1 ls N' as ms) (dm:∀a,N' a→(σ1 a).isSome=f') (ap:wB N' P1)
  (aa:VF A n) (e:Xh (EZ B.P B.W n) f as ρ1=R (t,ρ')):Y_ B.G.M A (.call (.ref<|B.fa f) ⟨vs,[]⟩) (λr' s'=>match r' with| .ok (.ret v)=>PE B σ h ls La t ρ' v s'|_=>False) s1:=by
 refine zh (o:=GK as ρ1) e λU ρ2 e1 e=>zh e λr ts' e2 e=>RP (Zb ar dm x1.own ap e1) λPA P2 OA O2 d l q1 q2=>?_
 refine qK e λeq1 eq2=>?_;clear e1;subst eq1 eq2
 have dj:∀a,(∃i,PA i a)→∀j,¬P2 j a:=λa ⟨i,p⟩ j=>d i a p j
 refine CD (G'.h e2 aa (x1.st.le (jG σ1 λa=>∃i,PA i a)) rl l<|OA.cong λi a p=>jF ⟨i,p⟩) λr' s' hr=>?_
 induction r' with
 |error er=>exact hr.elim
 |ok fl=>induction fl with
 |ret v=>
  refine N8 hr λm σ2 P' Q' x2=>?_
  have z_:=Vy x1.st x2.so.st x2.so.step
  have nP2:∀i a,(σ2 a).isSome=f'→¬P2 i a:=λi a hs p=>by
   rw[z_.frs a (λq=>dj a q i p)<|O2.dm _ _ p]at hs;exact nB hs
  refine E7 (Zc (σ:=jn (res σ1 λa=>¬∃i,PA i a) σ2) ar (O2.cong λi a p=>z_.old a (λq=>dj a q i p)<|O2.dm _ _ p) (x2.so.own.cong λi a p=>z_.new a<|x2.so.own.dm _ _ p) λi a p j=>nP2 j a<|x2.so.own.dm _ _ p) λP3 O3 q3=>?_
  exact⟨m,_,P3,Q',⟨z_.st,x1.step.trans z_.step,O3,zg x1.te x2.so.te,λe=>nB e⟩,x2.rep,x2.at_.cong (λa q=>z_.new a<|x2.dm a q) λH q=>q,λa q=>by refine rq (z_.new a<|x2.dm a q) ?_;exact x2.dm a q,λa i q p=>(q3 i a p).elim (λ⟨j,p⟩=>nP2 j a (x2.dm a q) p) λ⟨j,p⟩=>x2.ap a j q p⟩
 |_=>exact hr.elim
def ku {f:w_} {pos:Pos} {first:D q4} {trees:D<|Ld×Sem q4} {N':q4→q7→Prop} (hk:DE B.G.K (.ref f)=f') (hp:trees.any (·.1)=La)
  (h:q9 B.G.M A (BW trees) (λvs s₁=>B.G.K.In s₁.heap∧q9 B.G.M A (call (.ref f)<|first++vs) N' Er s₁) Er s):q9 B.G.M A (D4 pos (.ref f) first trees []) N' Er s:=
 callWith_of (P:=λh=>B.G.K.In h) (by simpa using hp) (keeps_K hk) (kP hp h)
def vi {f:q4} {vs:D q4} {N':q4→q7→Prop} (h:Y_ B.G.M A (.call f ⟨vs,[]⟩) (λr' s'=>match r' with| .ok (.ret v)=>N' v s'|_=>False) s):q9 B.G.M A (call f vs) N' Er s:=
 wpAny_call (CD h λr s' z=>by rcases r with e|(v|_|_|_)<;>first|exact z|exact z.elim)
def XM {mn:Q→D Q} {f:Q} {F:Fn} {xs:X} {es:D Lb} {x:Lf} {xp pos:Pos} (z9:zN B) (z7:kQ B mn) (G':yq B n) (hF:B.P.fn f=R F) (hg:vh B sc x<|.ref<|B.fa f) (Ha:Ok B n sc Ln xs es):
  Fj B n sc Ln (.call f xs) (.Call (.Name x xp) es [] pos):=.mk1 λLo A s σ ls P J w N' c e k=>
 zh e λas ρ1 e1 e=>W4 (ji z9 c.O c.S hg.hx hg.hd hg.hk (ku (z7.fnk _ _ hF) Ha.p (Ha.a c e1 λvs ms s1 σ1 P1 Q1 rl x1 ar dm ap=>
  ⟨x1.st.K z9.X,q5 (vi<|vN (t:=w.1) (ρ':=w.2) G' x1 rl ar dm ap c.aa.c e) (λH H h=>k _ _ h) λH H x=>x⟩)))
def zd9 {k:D Q} {l:D<|D Q×MV} (h:k∉l.map (·.1)):zA k l=Z:=by
 induction l with
 |nil=>rfl
 |cons p l ih=>exact(Lj λe=>h<|by refine rp e ?_;exact .head _).trans (ih λq=>h<|.tail _ q)
def QG {mn:Q→D Q} {c:Q} {fs:D Fl} {m f:Q} {name:Lf} {pl:Sem Ld} {q:MV} {v:q4} {N':q4×D q4→q7→Prop} {Q0:Fp} (z9:zN B) (z7:kQ B mn) (S:St B.G σ s) (T:I3 B σ Q0 q<|.o c fs) (hm:B.P.mt c m=R f) (hn:name=E5 (mn m)) (r:FP s.heap v q)
  (h:N' (.ref<|B.fa f,[v]) s):q9 B.G.M A (Eo v name pl) N' Er s:=by
 induction c with
 |zero=>rw[z7.mt0]at hm;exact nO hm
 |succ c=>
  refine M0 T λa d es e1 Y T' H H hfs=>JS (z7.mt _ _ _ hm) λk1 k2 k3 H=>F4 (S.own _ _ T') λes' nn hd q=>?_
  clear T hm;subst hn e1
  rw[r.ref_i]at h⊢
  have hl:zA (mn m) es=Z:=zd9 λh=>by rw[GB.keys hfs]at h;exact k3<|Ea h
  refine method_fn (S.K z9.X) (vK (S.own _ _ Y) hd) (z9.cf c).ga (z7.gn c) k1 k2 ?_ h
  have:W.getL (E5<|mn m) es'=R Z:=by
   unfold W.getL
   (refine rq (q.find_none hl) ?_;refine rq q.refKey ?_);rfl
  refine(?_:(W.getL (E5<|mn m) es').map _=_)
  refine rq this ?_;rfl
def ziy {j c:Q} (e:Kb J j=R c) {G:Prop} (k:∀fs,gt J j=R (.o c fs)→G):G:=by
 have e:(match gt J j with
  |R (.o c _)=>R c
  |_=>Z)=R c:=e
 induction h:gt J j with
 |Z=>rw[h]at e;exact nO e
 |R t=>
  rw[h]at e
  induction t with
  |o c' fs=>replace e:=z' e;subst e;exact k fs h
  |_=>exact nO e
def XN {mn:Q→D Q} {j m:Q} {xs:X} {es:D Lb} {x name:Lf} {xp apos pos:Pos} (z9:zN B) (z7:kQ B mn) (G':yq B n) (hm:qs (.Name x xp) name apos es pos) (hv:Ln[j]?=R x) (hd:(x==(s!"__debug__":Lf))=La) (hn:name=E5 (mn m)) (Ha:Ok B n sc Ln xs es):
  Fj B n sc Ln (.meth j m xs) (.Call (.Attribute (.Name x xp) name apos) es [] pos):=.mk1 λLo A s σ ls P J w N' c e k=>
 zB (o:=Kb J j) e λcc ec e=>zB e λf ef e=>zh e λas ρ1 e1 e=>ziy ec λfs hg=>E7 (c.W.at_ _ _ hg) λq hl T=>qy hm (zH c.O c.F hv hd hl λv r pl=>QG z9 z7 c.S T ef hn r (by
  have hk:DE B.G.K (.ref<|B.fa f)=f':=by
   clear ec hg T;induction cc with
   |zero=>rw[z7.mt0]at ef;exact nO ef
   |succ c=>exact(z7.mt _ _ _ ef).2.2.2
  exact ku hk Ha.p<|Ha.a c e1 λvs ms s1 σ1 P1 Q1 rl x1 ar dm ap=>⟨x1.st.K z9.X,q5 (vi<|vN (t:=w.1) (ρ':=w.2) G' x1 (.cons (r.ext x1.te) rl) (.slot hl ar) dm ap c.aa.c e) (λH H h=>k _ _ h) λH H x=>x⟩))
def VH {mn:Q→D Q} {a:X} {m:Q} {o:Lb} {name:Lf} {apos pos:Pos} (z9:zN B) (z7:kQ B mn) (G':yq B n) (hm:qs o name apos [] pos) (hn:name=E5 (mn m)) (Ha:Fj B n sc Ln a o):
  Fj B n sc Ln (.methT a m .nil) (.Call (.Attribute o name apos) [] [] pos):=.mk1 λLo A s σ ls P J w I' c e k=>by
 refine zh (o:=E0 B.P (EZ B.P B.W n) a J) e ?_;clear e;intro x ρ1 e1 e
 induction x with
 |o cc fs=>
  refine zB e λf ef e=>wH e λr ts' e2 e=>qy hm<|q5 (Ha.h e1 c.O c.aa c.S c.F c.W) (λv s1 Y pl=>?_) λH H x=>x
  clear e1;subst e
  refine Fg Y λq Y=>U8 Y λσ1 P1 N' x1=>?_
  have hk:DE B.G.K (.ref<|B.fa f)=f':=by
   clear Y;(try clear e1);clear Y;induction cc with
   |zero=>rw[z7.mt0]at ef;exact nO ef
   |succ c=>exact(z7.mt _ _ _ ef).2.2.2
  refine QG z9 z7 x1.so.st x1.at_ ef hn x1.rep<|ku hk C<|Ex ⟨x1.so.st.K z9.X,q5 (vi<|vN (t:=r) (ρ':=ρ1) G' (as:=[.v<|.o cc fs]) (ms:=[q]) x1.so #[x1.rep] (.own x1.at_) x1.dm x1.ap c.aa.c ?_) (λH H h=>k _ _ h) λH H x=>x⟩
  refine(?_:(EZ B.P B.W n f [R<|.o cc fs]).bind (λ(r,U)=>R (r,Id [.v<|.o cc fs] U ρ1))=_)
  refine rq e2 ?_
  clear e2 k;induction ts'<;>rfl
 |_=>exact nO e
def VI {G':w_} {args:Args} {rest:D q4} (h:args=⟨.ref G'::rest,[]⟩) (aa:Nl A n):VF (A.under<|.builtin s!"type.__call__" args) n:=by
 subst h
 have w1:(CU s!"type.__call__" ⟨.ref G'::rest,[]⟩).weight=1:=by rfl
 have w2:(CU s!"type.__call__" ⟨.ref G'::rest,[]⟩).cUnits=1:=by rfl
 refine⟨?_,?_,?_⟩
 ·exact aa.hd
 ·refine(?_:A.depth+(CU s!"type.__call__" ⟨.ref G'::rest,[]⟩).weight+2*n<_)
  refine rq w1 ?_;have:=aa.dp;exact gx this
 ·refine(?_:A.units+(CU s!"type.__call__" ⟨.ref G'::rest,[]⟩).cUnits+8*n+196<_)
  refine rq w2 ?_;have:=aa.un;exact b_ this
set_option tactic.hygienic true in
def zea {mn:Q→D Q} {c:Q} {xs:X} {es:D Lb} {x:Lf} {xp pos:Pos} (z9:zN B) (z7:kQ B mn) (G':yq B n) (hg:vh B sc x<|.ref<|B.ca<|c+1) (Ha:Ok B n sc Ln xs es):
  Fj B n sc Ln (.new (c+1) xs) (.Call (.Name x xp) es [] pos):=.mk1 λLo A s σ ls P J w I' C0 e kk=>
 zh e λas ρ1 e1 e=>zB e λf ef e=>zh e λU ρ2 e2 e=>zh e λr ts' e3 e=>qk (z7.it _ _ ef) λi1 i2=>qk (z7.made c) λm1 m2=>
 W4 (ji z9 C0.O C0.S hg.hx hg.hd hg.hk (ku m2 Ha.p (Ha.a C0 e1 λvs ms s1 σ1 P1 N' rl x1 ar dm ap=>⟨x1.st.K z9.X,vi (RP (Zb ar dm x1.own ap e2) λPA P2 OA O2 d l q1 q2=>by
 have X:=x1.st.K z9.X
 obtain⟨hh,g,dr,tk,os⟩:=s1
 refine make_core (makes_of X m1) (looks_findIn X i1) (λself=>bind_fn X self i2) (.inl C) ?_
 have S1:=x1.st.alloc (o:=DG) (x:=.dict []) ⟨[],0,Heap.get?_push_size _ C,.nil⟩
 have S2:=S1.alloc (o:=Do (B.ca<|c+1) hh.objs.size) (x:=.inst (B.ca<|c+1) hh.objs.size)<|Heap.get?_push_size _ C
 have T2:=FB.alloc (upd σ1 hh.objs.size<|.dict []) (hh.push DG) (Do (B.ca<|c+1) hh.objs.size)<|.inst (B.ca<|c+1) hh.objs.size
 have hsz:(hh.push DG).objs.size=hh.objs.size+1:=DB ..
 have fr1:σ1 hh.objs.size=Z:=x1.st.fresh
 have f2:=S1.fresh
 dsimp only at S1 S2 f2
 rw[hsz]at S2 T2 f2
 have ne:hh.objs.size+1≠hh.objs.size:=Q.succ_ne_self _
 rw[zE _ _ ne]at f2
 generalize hσ:upd (upd σ1 hh.objs.size<|.dict []) (hh.objs.size+1) (.inst (B.ca<|c+1) hh.objs.size)=σ2 at S2 T2
 have g1:σ2 (hh.objs.size+1)=R (.inst (B.ca<|c+1) hh.objs.size):=by refine rp hσ ?_;exact zJ _ _ _
 have g2:σ2 hh.objs.size=R (.dict []):=by(refine rp hσ ?_;refine rq (zE _ _ ne.symm) ?_);exact zJ _ _ _
 have nw:∀a,(σ1 a).isSome=f'→¬(a=hh.objs.size∨a=hh.objs.size+1):=λa ha e=>e.elim (λe=>by rw[e,fr1]at ha;exact nB ha) λe=>by rw[e,f2]at ha;exact nB ha
 have g3:∀a,(σ1 a).isSome=f'→σ2 a=σ1 a:=λa ha=>by
  (refine rp hσ ?_;refine rq (zE _ _ λe=>nw a ha<|.inr e) ?_;exact rq (zE _ _ λe=>nw a ha<|.inl e) C)
 have O22:=O2.cong (σ':=σ2) λi a p=>g3 a<|O2.dm _ _ p
 have OB:=(OA.cong (σ':=σ2) λi a p=>g3 a<|OA.dm _ _ p).cons (m:=.ref<|hh.objs.size+1) (t:=.o (c+1) []) (N':=λa=>a=hh.objs.size∨a=hh.objs.size+1) ⟨hh.objs.size+1,hh.objs.size,[],C,g1,g2,.inr C,.inl C,.nil⟩
  (λa q=>q.elim (λe=>by(refine rq e ?_;refine rq g2 ?_);rfl) λe=>by(refine rq e ?_;refine rq g1 ?_);rfl) λi a p=>nw a<|OA.dm _ _ p
 generalize hPB:yQ (λa=>a=hh.objs.size∨a=hh.objs.size+1) PA=PB at OB
 have dB:∀a,(∃i,PB i a)→∀j,¬P2 j a:=λa ⟨i,p⟩=>by
  clear OA q2 X S1 hsz fr1 f2 ne g1 g2;subst hPB
  exact qI (G':=λa=>∀j,¬P2 j a) (λa q j p=>nw a (O2.dm _ _ p) q) d i a p
 have te1:zQ hh<|(hh.push DG).push<|Do (B.ca<|c+1) hh.objs.size:=zg (zj _ _)<|zj _ _
 refine CD (G'.h e3 (VI C C0.aa) (S2.le (jG σ2 λa=>∃i,PB i a)) (.cons (.ref _)<|rl.ext te1) (Li (· +1) l)<|OB.cong λi a p=>jF ⟨i,p⟩) λr' s' hr=>?_
 cases r' with
 |error er=>exact hr.elim
 |ok fl=>
  cases fl<;>try exact hr.elim
  rename_i v
  refine N8 hr λq σ3 P' Q' x3=>?_
  have z_:=Vy S2 x3.so.st x3.so.step
  clear e3 hr;cases r with
  |l _=>exact nO e
  |o _ _=>exact nO e
  |d rm=>
  cases rm<;>try (first|exact nO e|cases e)
  cases ts' with
  |nil=>exact nO e
  |cons tt ts'=>
  cases tt with
  |Z=>exact nO e
  |R tt=>
  cases tt<;>try (first|exact nO e|cases e)
  ·rename_i c' fs
   refine jt (c:=c'=c+1) e ?_;clear e;intro U' e
   clear hg e1 ef e2 i1 m1 m2 O2 S2 OB g1;subst e U'
   have rv:=x3.rep
   rw[show q=.none from x3.at_]at rv
   refine⟨rv.none_i,?_⟩
   have OA':=x3.so.own.cong (σ':=jn (res σ2 λa=>¬∃i,PB i a) σ3) λi a p=>z_.new a<|x3.so.own.dm _ _ p
   have nP2:∀i a,(σ3 a).isSome=f'→¬P2 i a:=λi a hs p=>by
    rw[z_.frs a (λq=>dB a q i p)<|O22.dm _ _ p]at hs;exact nB hs
   refine E7 (Zc ar (O22.cong (σ':=jn (res σ2 λa=>¬∃i,PB i a) σ3) λi a p=>z_.old a (λq=>dB a q i p)<|O22.dm _ _ p) OA'.tail λi a p j=>nP2 j a<|x3.so.own.dm _ _ p) λP3 O3 q3=>E7 (OA'.at_ 0 (.o (c+1) fs) C) λmq hmq T=>?_
   replace hmq:=z' hmq;clear rl nw hPB X;clear S1 hsz;clear fr1 f2;clear ne g2;subst hmq
   exact kk _ _ ⟨_,_,P3,P' 0,⟨z_.st,(x1.step.trans<|(FB.alloc σ1 hh DG<|.dict []).trans T2).trans z_.step,O3,zg x1.te<|zg te1 x3.so.te,λe=>nB e⟩,.ref _,T,OA'.dm 0,λa i q p=>(q3 i a p).elim (λ⟨j,p⟩=>nP2 j a (x3.so.own.dm _ _ q) p) λ⟨j,p⟩=>by clear OA' q3 T;cases x3.so.own.dj _ _ _ q p⟩)⟩)))
end
section
mutual namespace A
variable {B:Gu} {n:Q} {σ σ' σ'':MH} {h h':y9} {ls ls':Q→Lc MV} {pu pu':Ld} {t:Th} {m:MV} {J ρ' ρ'' ρ1 ρ2:Ev} {v:q4} {s s' s'':q7} {P P' P'' P1 P2:Q→Fp} {A:Z6}
variable {sc:w7} {Ln:D Lf} {N':Fp}
structure Hx (L:w_) (s s':q7):Prop where
 keep:∀b o,b≠L→s.heap.get? b=R o→s'.heap.get? b=R o
 te:zQ s.heap s'.heap
def Hx.trans {L:w_} (a:Hx L s s') (b:Hx L s' s''):Hx L s s'':=⟨λx o n e=>b.keep x o n<|a.keep x o n e,zg a.te b.te⟩
def Hx.refl {L:w_}:Hx L s s:=⟨λH H H e=>e,λH H x=>x⟩
def St.but {G:Gl} {L:w_} (S:St G σ s) (nL:σ L=Z) (n0:G.h0.get? L=Z) (bt:Hx L s s') (hg:s'.gens=s.gens) (ho:s'.os=s.os):St G σ s':=
 ⟨λa o e=>bt.keep a o (by rintro C;rw[n0]at e;exact nO e)<|S.keep a o e,λa x e=>(S.own a x e).ext bt.te λo ho=>bt.keep a o (by clear n0 bt;rintro C;rw[nL]at e;exact nO e) ho,S.new,hg.trans S.gens,ho.trans S.os⟩
def qY {L:w_} {h':y9} {tk:Q} (hs:BL L s.heap h') (nt:∀vs,¬Ic s.heap L vs):Hx L s {s with heap:=h',toks:=tk}:=
 ⟨λb o n e=>(hs.2 b n).trans e,λa vs T=>let ⟨k,e⟩:=T;⟨k,(hs.2 a<|by clear hs;rintro C;exact nt vs T).trans e⟩⟩
def vj {L:w_} {mm:Lf→Lc q4} (hn:h.Ns L mm):∀vs,¬Ic h L vs:=λvs ⟨k,e⟩=>by
 refine Gm hn λo es ep ho hd H=>?_
 rw[e]at ho;replace ho:=z' ho;subst ho;contradiction
abbrev OP (ls:Q→Lc MV) (i:Q) (m:MV):Q→Lc MV:=λj=>if j=i then R m else ls j
def Gf:OP ls i m i=R m:=by simp[OP]
def jj {i j:Q} (h:j≠i):OP ls i m j=ls j:=by simp[OP,h]
def XO {l:D Lf} (nd:l.Nodup) {i j:Q} {x:Lf} (Y:l[i]?=R x) (T':l[j]?=R x):i=j:=by
 refine Fg (D.getElem?_eq_some_iff.mp Y) λa b=>?_
 refine Fg (D.getElem?_eq_some_iff.mp T') λc d=>?_
 exact(D.getElem_inj nd).mp (b.trans d.symm)
def zX {Lo:Env} {E:q4→q7→Prop} {i:Q} {x:Lf} (O:Fs Lo sc Ln) (F:Fm s.heap σ Lo.locals Ln ls) (n0:B.G.h0.get? Lo.locals=Z) (nd:Ln.Nodup) (hv:Ln[i]?=R x) (r:FP s.heap v m) (S:St B.G σ s) {N':Unit→q7→Prop}
  (q:∀s',St B.G σ s'→Fm s'.heap σ Lo.locals Ln (OP ls i m)→Hx Lo.locals s s'→N' () s'):q9 B.G.M A (storeName Lo x v) N' E s:=by
 refine E7 F.ns λmm hn hl=>?_
 refine wpAny_storeName_local (O.local hv) hn (λh' hn' hs=>?_)<|by refine rq O.kind ?_;rfl
 have bt:=qY (tk:=s.toks+1) hs<|vj hn
 refine q _ (S.but F.no n0 bt C C) ⟨⟨_,hn',λj m' e=>?_⟩,F.no⟩ bt
 by_cases hj:j=i
 ·clear q;subst hj
  rw[Gf]at e;replace e:=z' e;subst e
  exact⟨x,v,hv,by simp,r.ext bt.te⟩
 ·rw[jj hj]at e
  refine Fv (hl j m' e) λx' v' a b c=>?_
  refine⟨x',v',a,?_,c.ext bt.te⟩
  have:x'≠x:=λe=>hj<|XO nd (e▸a) hv
  simp[this,b]
inductive NF (Ln:D Lf):D Lb→D Q→Prop where
 |nil:NF Ln [] []
 |cons {x:Lf} {p:Pos} {i:Q} {es:D Lb} {is:D Q}:Ln[i]?=R x→NF Ln es is→NF Ln (.Name x p::es) (i::is)
abbrev yR (ls:Q→Lc MV):D Q→D MV→Q→Lc MV
 |i::is,m::ms=>yR (OP ls i m) is ms
 |_,_=>ls
def kK {x:Lf} {p:Pos} {es:D Lb} {Lo:Env}:CE (.Name x p::es) Lo=(La,BA (.Name x p) Lo)::CE es Lo:=C
def NF.star {es:D Lb} {is:D Q} (T:NF Ln es is) {Lo:Env}:(CE es Lo).length=is.length∧(CE es Lo).findIdx? (·.1)=Z:=by
 induction T with
 |nil=>exact⟨C,C⟩
 |cons _ _ ih=>refine rq kK ?_;simp[ih.1,ih.2,D.findIdx?_cons]
def yh {Lo:Env} {E:q4→q7→Prop} (O:Fs Lo sc Ln) (n0:B.G.h0.get? Lo.locals=Z) (nd:Ln.Nodup) {es:D Lb} {is:D Q} (T:NF Ln es is):∀{s:q7} {ls:Q→Lc MV} {vs:D q4} {ms:D MV} {N':Unit→q7→Prop},
  Fm s.heap σ Lo.locals Ln ls→St B.G σ s→FJ s.heap vs ms→is.length=ms.length→(∀s',St B.G σ s'→Fm s'.heap σ Lo.locals Ln (yR ls is ms)→Hx Lo.locals s s'→N' () s')→
  q9 B.G.M A (Cj ((CE es Lo).map (·.2)) vs) N' E s:=by
 induction T with
 |nil=>
  intro s ls vs ms N' F S r hl q
  induction ms with
  |nil=>cases r.nil_i;exact j4<|q s S F .refl
  |cons _ _=>contradiction
 |cons hv T ih=>
  intro s ls vs ms N' F S r hl q
  induction ms with
  |nil=>contradiction
  |cons m ms=>
   refine r.cons_i λv ws eC r1 r2=>?_
   clear tail_ih r;subst eC
   (refine rq kK ?_;refine rq w5 ?_)
   refine(?_:q9 _ _ (Dp _ (BA _ Lo _)>>=λH=>Cj _ _) _ _ _)
   refine q6<|Bj<|V7<|zX O F n0 nd hv r1 S λs1 S1 F1 b1=>?_
   exact ih F1 S1 (r2.ext b1.te) (by simpa using hl) λs2 S2 F2 b2=>q s2 S2 F2<|b1.trans b2
def vk {Lo:Env} {es:D Lb} {is:D Q} {l:D MV} {N':Unit→q7→Prop} (O:Fs Lo sc Ln) (n0:B.G.h0.get? Lo.locals=Z) (nd:Ln.Nodup) (T:NF Ln es is) (hh:A.handled=Z) (F:Fm s.heap σ Lo.locals Ln ls) (S:St B.G σ s)
  (r:FP s.heap v<|.tup l) (hl:is.length=l.length) (q:∀s',St B.G σ s'→Fm s'.heap σ Lo.locals Ln (yR ls is l)→Hx Lo.locals s s'→N' () s'):q9 B.G.M A (unpack v<|CE es Lo) N' Er s:=by
 refine r.tup_i λa vs eT ha ra=>?_
 clear r;subst eT
 refine wpAny_unpack_tuple hh ha.isTuple (by(refine rq T.star.1 ?_;refine rq hl ?_;refine rq X3 ?_;exact rq ra.length C)) T.star.2 λh' he=>?_
 have ex:∀b o,s.heap.get? b=R o→h'.get? b=R o:=λb o e=>he b o (Z3<|Z2 e) e
 have S1:St B.G σ {s with heap:=h'}:=S.ext (t:=s.toks) ex
 have te:zQ s.heap h':=λa vs ⟨k,e⟩=>⟨k,ex _ _ e⟩
 refine yh O n0 nd T (s:={s with heap:=h'}) (F.step (FB.ext ex) te) S1 (ra.ext te) hl λs' S' F' b'=>q s' S' F' ⟨λb o n e=>b'.keep b o n<|ex b o e,zg te b'.te⟩
def VJ {it:w_} {o:Obj} {T:String} (ho:h.get? it=R o) (U':o.cls=.type T) (hT:T≠s!"tuple"):∀vs,¬Ic h it vs:=λvs ⟨k,e⟩=>by
 rw[e]at ho;replace ho:=z' ho;clear e;subst ho
 exact hT (by have:Cc s!"tuple"=Cc T:=U';injection this with h;exact h.symm)
def zs0 {it:w_} {o:Obj} {T:String} (ho:h.get? it=R o) (U':o.cls=.type T) (hT:T≠s!"list"):∀vs,¬NL h it vs:=λvs ⟨k,e⟩=>by
 rw[e]at ho;replace ho:=z' ho;clear e;subst ho
 exact hT (by have:Cc s!"list"=Cc T:=U';injection this with h;exact h.symm)
abbrev VK (x:g'):Q→D MV
 |0=>[]
 |k+1=>.int x::VK (x+1) k
inductive HI (h:y9) (it:w_):Lc w_→D MV→Prop where
 |lst {a i:Q} {vs:D q4} {l:D MV}:h.IsListIter it a i→NL h a vs→FJ h vs l→HI h it (R a) (l.drop i)
 |tup {a i:Q} {vs:D q4} {l:D MV}:h.IsTupleIter it a i→Ic h a vs→FJ h vs l→HI h it Z (l.drop i)
 |rng {x:g'} {k:Q}:IsRangeIter h it x (k:g') 1→HI h it Z (VK x k)
def HI.keep {it:w_} {src:Lc w_} {l:D MV} (I:HI h it src l) (hi:∀o,h.get? it=R o→h'.get? it=R o) (hs:∀a,src=R a→∀o,h.get? a=R o→h'.get? a=R o) (te:zQ h h'):HI h' it src l:=by
 induction I with
 |lst a b c=>
  refine E7 a λo ho r=>?_
  refine Fg b λk e=>?_
  exact .lst ⟨o,hi o ho,r⟩ ⟨k,hs _ C _ e⟩<|c.ext te
 |tup a b c=>
  refine E7 a λo ho r=>?_
  exact .tup ⟨o,hi o ho,r⟩ (te _ _ b)<|c.ext te
 |rng a=>exact .rng<|hi _ a
def Zd {α:Type} {l r:D α} {i:Q} {m:α} (h:l.drop i=m::r):l[i]?=R m∧r=l.drop (i+1):=by
 constructor
 ·have:=Li X9 h;rw[D.head?_drop]at this;simpa using this
 ·have:=Li D.tail h;rw[D.tail_drop]at this;simpa using this.symm
def HI.next {it:w_} {src:Lc w_} {l:D MV} (I:HI s.heap it src<|m::l) {N':Lc q4→q7→Prop}
  (q:∀v h' tk,FP h' v m→HI h' it src l→Hx it s {s with heap:=h',toks:=tk}→N' (R v) {s with heap:=h',toks:=tk}):q9 B.G.M A (D0<|.ref it) N' Er s:=by
 generalize hl:m::l=l0 at I
 cases I with
 |@lst a i vs l1 ha b c=>
  obtain⟨e1,C⟩:=Zd hl.symm
  refine E7 (c.get e1) λv hv r=>?_
  refine wpAny_pyNext_list_item ha b.isList (by simpa using hv) λh' i1 sb=>?_
  have bt:Hx it s {s with heap:=h',toks:=s.toks}:=qY (tk:=s.toks) sb (by obtain⟨o,ho,U',_⟩:=ha;exact VJ ho U' (by decide):∀vs,¬Ic s.heap it vs)
  have hne:a≠it:=by
   rintro C
   refine Hs ha λo ho U' H=>?_
   exact zs0 ho U' (by decide) _ b
  refine Fg b λk e=>?_
  exact q v h' s.toks (r.ext bt.te) (.lst i1 ⟨k,bt.keep _ _ hne e⟩<|c.ext bt.te) bt
 |@tup a i vs l1 ha b c=>
  obtain⟨e1,C⟩:=Zd hl.symm
  refine E7 (c.get e1) λv hv r=>?_
  refine wpAny_pyNext_tuple_item ha b.isTuple (by simpa using hv) λh' i1 sb=>?_
  have bt:Hx it s {s with heap:=h',toks:=s.toks}:=qY (tk:=s.toks) sb (by obtain⟨o,ho,U',_⟩:=ha;exact VJ ho U' (by decide):∀vs,¬Ic s.heap it vs)
  exact q v h' s.toks (r.ext bt.te) (.tup i1 (bt.te _ _ b)<|c.ext bt.te) bt
 |@rng x k ha=>
  cases k with
  |zero=>contradiction
  |succ k=>
   simp only[VK]at hl
   cases hl
   refine wpAny_pyNext_range_item ha zo7 λh' i1 sb=>?_
   have hk:((k+1:Q):g') -1=(k:g'):=by exact om90
   rw[hk]at i1
   exact q _ h' (s.toks+1) (.int _ _) (.rng i1)<|qY (tk:=s.toks+1) sb (VJ ha C (by decide):∀vs,¬Ic s.heap it vs)
def HI.stop {it:w_} {src:Lc w_} (I:HI s.heap it src []) (hh:A.handled=Z) {N':Lc q4→q7→Prop} (q:∀h',Hx it s {s with heap:=h'}→N' Z {s with heap:=h'}):q9 B.G.M A (D0<|.ref it) N' Er s:=by
 have bt:∀{h'},Heap.ExtBut it s.heap h'→(∀vs,¬Ic s.heap it vs)→Hx it s {s with heap:=h'}:=λe nt=>
  ⟨λb o n x=>e b o n x,λa vs T=>let ⟨k,x⟩:=T;⟨k,e a _ (by rintro C;exact nt vs T) x⟩⟩
 generalize hl:([]:D MV)=l0 at I
 induction I with
 |@lst a i vs l1 ha b c=>
  have:l1.length≤i:=Cy.mp hl.symm
  refine wpAny_pyNext_list_end hh ha b.isList (by simp[c.length];exact Tc this) λh' e=>q h'<|bt e ?_
  obtain⟨o,ho,U',_⟩:=ha;exact VJ ho U'<|by decide
 |@tup a i vs l1 ha b c=>
  have:l1.length≤i:=Cy.mp hl.symm
  refine wpAny_pyNext_tuple_end hh ha b.isTuple (by simp[c.length];exact Tc this) λh' e=>q h'<|bt e ?_
  obtain⟨o,ho,U',_⟩:=ha;exact VJ ho U'<|by decide
 |@rng x k ha=>
  induction k with
  |succ k=>simp only[VK]at hl;contradiction
  |zero=>
   refine wpAny_pyNext_range_end hh ha gc λh' e=>q h'<|bt e<|VJ ha C<|by decide
def VL {w:Vw} {l:D MV} (S:St B.G σ s) (r:FP s.heap v m) (vw:ZK σ m w) (hi:w.items=R l) {N':q4→q7→Prop}
  (q:∀o src,(∀a,src=R a→(σ a).isSome=f')→HI (s.heap.push o) s.heap.objs.size src l→N' (.ref s.heap.objs.size) {s with heap:=s.heap.push o}):q9 B.G.M A (pyIter v) N' Er s:=by
 cases w with
 |d m'=>
  subst vw
  cases m with
  |tup ms=>
   refine r.tup_i λa vs eT ha ra=>?_
   subst eT
   replace hi:=z' hi;subst hi
   refine Db ha.isTuple<|q _ Z (λH e=>nO e) ?_
   exact .tup (i:=0) ⟨_,Heap.get?_push_size _ C,C,C⟩ (zj _ _ _ _ ha)<|ra.ext<|zj _ _
  |_=>exact nO hi
 |l l'=>
  replace hi:=z' hi;subst hi
  refine E7 vw λa e1 ha=>?_
  clear vw;subst e1
  cases r.ref_i
  refine E7 (S.own _ _ ha) λvs hv rl=>?_
  refine wpAny_pyIter_list hv.isList<|q _ (R a) (λH e=>by replace e:=z' e;clear r;subst e;refine rq ha ?_;rfl) ?_
  refine Fg hv λk e=>?_
  exact .lst (i:=0) ⟨_,Heap.get?_push_size _ C,C,C⟩ ⟨k,Heap.get?_push_of_some _ e⟩<|rl.ext<|zj _ _
def yT {it:w_} {src:Lc w_} {l:D MV} (I:HI s.heap it src l) {E:q4→q7→Prop} {N':q4→q7→Prop} (q:N' (.ref it) s):q9 B.G.M A (pyIter<|.ref it) N' E s:=by
 induction I with
 |lst a b c=>exact wpAny_pyIter_listiter a q
 |tup a b c=>exact wpAny_pyIter_tupleiter a q
 |rng a=>exact wpAny_pyIter_rangeiter a q
def vm {it:w_} {src:Lc w_} {l:D MV} (I:HI h it src l):∃o vs T,h.get? it=R o∧o.cls=.type T∧o.data=.fields vs∧
  [s!"enumerate",s!"zip",s!"dict_itemiterator",s!"dict_reverseitemiterator",s!"odict_iterator",s!"itertools.zip_longest",s!"itertools.pairwise"].contains T=La:=by
 induction I with
 |lst a b c=>obtain⟨o,ho,U',hd⟩:=a;exact⟨o,_,_,ho,U',hd,by decide⟩
 |tup a b c=>obtain⟨o,ho,U',hd⟩:=a;exact⟨o,_,_,ho,U',hd,by decide⟩
 |rng a=>exact⟨_,_,_,a,C,C,by decide⟩
def yU {target:Lb} {it:w_} {src:Lc w_} {l:D MV} {E:q4→q7→Prop} {N':Unit→q7→Prop} (I:HI s.heap it src l) (q:N' () s):q9 B.G.M A (X6 target (.ref it) v) N' E s:=by
 refine HX (vm I) λo vs T ho U' hd hn=>?_
 have go:q9 B.G.M A (X6 (.Tuple [] 0 default) (.ref it) v) N' E s:=by
  cases v with
  |ref a=>
   refine(?_:q9 _ _ (load it>>=_) _ _ _)
   refine q6 (wpAny_load ho ?_)
   (refine rq U' ?_;refine rq hd ?_)
   dsimp only
   refine rq hn ?_
   exact j4 q
  |_=>exact j4 q
 cases target<;>first|exact j4 q|exact go
def kL {α:Type} {t:Sem α} {N':α→q7→Prop} {E:q4→q7→Prop} (h:q9 B.G.M A t N' Er s):q9 B.G.M A t N' E s:=q5 h (λH H x=>x) λH H x=>x.elim
def ZO {elt target iter:Lb} {scope:w7} {pos:Pos} {it acc:q4} {Lo:Env} {I':Result→q7→Prop} (I:Q→q7→Prop)
  (turn:∀n s,I n s→q9 B.G.M A (D0 it) (λr s₁=>match r with
   |Z=>I' (.ok .next) s₁
   |R v=>q9 B.G.M A (X6 target it v) (λH s₁=>q9 B.G.M A (BA target Lo v) (λH s₂=>q9 B.G.M A (V8 elt Lo) (λx s₃=>
     q9 B.G.M A (call (.builtin s!"list.append") [acc,x]) (λH s₄=>∃m,m<n∧I m s₄) Er s₃) Er s₂) Er s₁) Er s₁) Er s)
  (n:Q) (h:I n s):Y_ B.G.M A (.compLoop (.ListComp elt [⟨target,iter,[],0⟩] scope pos) 0 it acc Lo) I' s:=by
 refine Ez C I (λn s hI=>?_) n h
 refine(?_:q9 _ _ ((D1 (.ListComp elt [⟨target,iter,[],0⟩] scope pos) 0 it acc Lo).onRaise λx=>do En x Lo;DQ x) _ _ s)
 refine EM ?_
 rw[compTurn_list1]
 refine kL ?_
 refine q6<|J_<|q6<|q5 (turn n s hI) (λr s₁ h₁=>?_) λH H h'=>h'
 induction r with
 |Z=>exact j4 h₁
 |R v=>
  refine q6<|q5 h₁ (λH s₁ h₁=>?_) λH H h'=>h'
  exact q6 (q5 h₁ (λH s₂ h₂=>q6 (q6 (q5 h₂ (λx s₃ h₃=>q6 (q5 h₃
   (λH s₄ h₄=>j4<|j4 ⟨C,h₄⟩) λH H h'=>h')) λH H h'=>h'))) λH H h'=>h')
inductive TE (Ln:D Lf):Q→Lb→Prop where
 |name {x:Lf} {p:Pos}:Ln[0]?=R x→TE Ln 0 (.Name x p)
 |tup {es:D Lb} {k n:Q} {p:Pos}:NF Ln es (j5<|n+1)→TE Ln (n+1) (.Tuple es k p)
def Kk {l:D MV}:∀{k:Q} {ls:Q→Lc MV} {i:Q} {m:MV},l[i]?=R m→yR ls (Dg k l.length) l (k+i)=R m:=by
 induction l with
 |nil=>intro k ls i m e;simp at e
 |cons a l ih=>
  intro k ls i m e
  (refine rq j1 ?_;refine rq Cb ?_)
  simp only[yR]
  induction i with
  |zero=>
   simp at e;subst e
   have:∀(l:D MV) (k:Q) (ls:Q→Lc MV) (j:Q),j<k→yR ls (Dg k l.length) l j=ls j:=by
    intro l
    induction l with
    |nil=>intros;rfl
    |cons b l ih=>
     intro k ls j hj
     (refine rq j1 ?_;refine rq Cb ?_)
     simp only[yR]
     refine rq (ih (k+1) _ j<|Tv hj) ?_;exact jj<|zo8 hj
   refine rq (this l (k+1) _ _ (@U7 _)) ?_;exact Gf
  |succ i=>
   have:=ih (k:=k+1) (ls:=OP ls k a) (i:=i) (m:=m)<|by simpa using e
   refine rq (by exact(@RN _ _):k+(i+1)=k+1+i) ?_;exact this
set_option tactic.hygienic true in
def Kl {Lo:Env} {np:Q} {target:Lb} {ρc:Ev} {N':Unit→q7→Prop} (T:TE Ln np target) (O:Fs Lo sc Ln) (n0:B.G.h0.get? Lo.locals=Z) (nd:Ln.Nodup) (hh:A.handled=Z) (F:Fm s.heap σ Lo.locals Ln ls) (S:St B.G σ s)
  (r:FP s.heap v m) (e:jh np m=R ρc) (q:∀s' ls',St B.G σ s'→Fm s'.heap σ Lo.locals Ln ls'→(∀τ,Gg B τ ls' ρc λH H=>False)→Hx Lo.locals s s'→N' () s'):q9 B.G.M A (BA target Lo v) N' Er s:=by
 cases T with
 |name hv=>
  simp only[jh,if_true]at e
  replace e:=z' e;subst e
  refine V7<|zX O F n0 nd hv r S λs1 S1 F1 b1=>q s1 _ S1 F1 (λτ=>⟨λi t e=>?_,λH H H h=>h.elim,λH H h=>h.elim⟩) b1
  cases i with
  |zero=>simp[gt]at e;subst e;exact⟨m,Gf,C⟩
  |succ i=>simp[gt]at e
 |tup T=>
  rename_i es k np p
  simp only[jh,Ce,if_false]at e
  cases m with
  |tup l=>
   simp only at e
   split at e
   ·rename_i hl
    replace e:=z' e;subst e
    rw[DH]
    refine q6<|J_<|vk O n0 nd T hh F S r (by simp[hl]) λs1 S1 F1 b1=>q s1 _ S1 F1 (λτ=>⟨λi t e=>?_,λH H H h=>h.elim,λH H h=>h.elim⟩) b1
    have:∃m,l[i]?=R m∧t=.d m:=by
     unfold gt at e
     rw[D.getElem?_map]at e
     clear O n0 nd F S T r S1 F1 b1;cases q:l[i]? with
     |Z=>rw[q]at e;exact nO e
     |R m=>rw[q]at e;replace e:=z' e;clear q;subst e;exact⟨m,C,C⟩
    refine E7 this λm hm e2=>?_
    subst e2
    refine⟨m,?_,C⟩
    (refine rq Cu ?_;refine rp hl ?_)
    have:=Kk (l:=l) (k:=0) (ls:=ls) hm
    rwa [K']at this
   ·exact nO e
  |_=>exact nO e
structure M2 (B:Gu) (σ:MH) (h:y9) (ls:Q→Lc MV) (rs:D MV) (ρ':Ev) (acc L:w_) (s':q7) (σf:MH) (P1:Q→Fp):Prop where
 so:SO B σ h ls La ρ' s' σf P1
 at_:σf acc=R (.list rs)
 ap:∀i,¬P1 i acc
 ns:∃mm,s'.heap.Ns L mm
 nL:σf L=Z
 n0:B.G.h0.get? L=Z
 fr:∀b ob,h.get? b=R ob→σ b=Z→b≠L
def Km {sc2:w7} {Lo:Env} (hfree:∀x∈sc2.names,x.2≠.free):Dn sc2 Lo=sc2:=by
 unfold Dn
 rw[map_eq_self (l:=sc2.names) (λx hx=>by
  obtain⟨n,k⟩:=x
  have:(k==BO)=La:=by simpa using hfree _ hx
  simp[this])]
def zs1 {c:Prop} [Decidable c] {α:Type} {x:Lc α} {y:α} (e:(if c then x else Z)=R y) {G:Prop} (k:c→x=R y→G):G:=by
 by_cases h:c
 ·exact k h<|(Lh h).symm.trans e
 ·exact nO<|(Lj h).symm.trans e
end
mutual section
structure FC (B:Gu) (σ1:MH) (acc it L:w_) (src:Lc w_) (h4:y9):Prop where
 facc:σ1 acc=Z
 fit:σ1 it=Z
 fL:σ1 L=Z
 i0:B.G.h0.get? it=Z
 L0:B.G.h0.get? L=Z
 nia:it≠acc
 niL:it≠L
 naL:acc≠L
 ns:∀a,src=R a→a≠acc∧a≠it∧a≠L
 hit:h4.get? it≠Z
 hL:h4.get? L≠Z
 hacc:h4.get? acc≠Z
 hsrc:∀a,src=R a→h4.get? a≠Z
structure LS (B:Gu) (σ1:MH) (acc it L:w_) (src:Lc w_) (h4:y9) (d todo:D MV) (s:q7):Prop where
 st:St B.G (upd σ1 acc<|.list d) s
 kx:∀b ob,h4.get? b=R ob→b≠it→b≠acc→b≠L→s.heap.get? b=R ob
 I:HI s.heap it src todo
 ns:∃mm,s.heap.Ns L mm
 te:zQ h4 s.heap
variable {σ1:MH} {acc it L:w_} {src:Lc w_} {h4:y9} {d d' todo:D MV}
def LS.mv (c:FC B σ1 acc it L src h4) (l:LS B σ1 acc it L src h4 d todo s) (S':St B.G (upd σ1 acc<|.list d') s') (k:∀b ob,h4.get? b≠Z→b≠acc→b≠L→s.heap.get? b=R ob→s'.heap.get? b=R ob) (te:zQ s.heap s'.heap) (ns:∃mm,s'.heap.Ns L mm):
  LS B σ1 acc it L src h4 d' todo s':=
 ⟨S',λb ob e n1 n2 n3=>k b ob (by refine rq e ?_;exact λh=>by contradiction) n2 n3<|l.kx b ob e n1 n2 n3,
  l.I.keep (λob e=>k it ob c.hit c.nia c.niL e) (λa ha ob e=>k a ob (c.hsrc a ha) (c.ns a ha).1 (c.ns a ha).2.2 e) te,ns,zg l.te te⟩
def wk {L:w_} (h:∃mm,s.heap.Ns L mm) (k:∀ob,s.heap.get? L=R ob→s'.heap.get? L=R ob):∃mm,s'.heap.Ns L mm:=by
 refine U9 h λmm ob es ep ho rr=>?_
 exact⟨mm,ob,es,ep,k ob ho,rr⟩
def LS.but (c:FC B σ1 acc it L src h4) (l:LS B σ1 acc it L src h4 d todo s) {x:w_} (hx:h4.get? x=Z) (fx:σ1 x=Z) (x0:B.G.h0.get? x=Z) (b:Hx x s s') (hg:s'.gens=s.gens) (ho:s'.os=s.os):LS B σ1 acc it L src h4 d todo s':=by
 have hne:∀b,h4.get? b≠Z→b≠x:=λb hb e=>hb<|e▸hx
 refine l.mv c (l.st.but (by refine rq (zE _ _<|Ne.symm<|hne _ c.hacc) ?_;exact fx) x0 b hg ho) (λb' ob Y H H e=>b.keep _ _ (hne _ Y) e) b.te ?_
 exact wk l.ns λob e=>b.keep _ _ (hne _ c.hL) e
def LS.append {xv:q4} {N':q7→Prop} (c:FC B σ1 acc it L src h4) (hz:d.length≤k7) (l:LS B σ1 acc it L src h4 d todo s) (r:FP s.heap xv m)
  (q:∀s',LS B σ1 acc it L src h4 (d++[m]) todo s'→(∀b ob,b≠acc→s.heap.get? b=R ob→s'.heap.get? b=R ob)→zQ s.heap s'.heap→N' s'):q9 B.G.M A (call (.builtin s!"list.append") [.ref acc,xv]) (λH s'=>N' s') Er s:=by
 refine q5 (Qp (k:=λm' τ=>τ=upd (res (upd σ1 acc<|.list d) λa=>a=acc) acc (.list<|d++[m])) (l.st.le<|jG _ λa=>a=acc) (by rw[jF (N':=λa=>a=acc) C];exact zJ _ _ _) r hz C) (λzv s9 h9=>?_) λH H x=>x
 refine Og h9 λzm τ H S9 T9 e5=>?_
 subst e5
 have H9:=Vy l.st S9 T9
 have k9:∀b ob,b≠acc→s.heap.get? b=R ob→s9.heap.get? b=R ob:=λb ob n e=>T9.un b ob e<|qM n
 have te9:=(l.st.le<|jG _ λa=>a=acc).tupExt T9
 refine q s9 (l.mv c (H9.st.le λa x e=>?_) (λb ob H n1 H e=>k9 b ob n1 e) te9<|wk l.ns λob e=>k9 _ _ (Ne.symm c.naL) e) k9 te9
 by_cases ha:a=acc
 ·rw[ha,zJ]at e
  rw[ha,H9.new acc (by rw[zJ];rfl),zJ];exact e
 ·rw[zE _ _ ha]at e
  rw[H9.old a ha (by rw[zE _ _ ha,e];rfl),zE _ _ ha];exact e
def LS.fm (c:FC B σ1 acc it L src h4) (l:LS B σ1 acc it L src h4 d todo s) {vars2:D Lf}:Fm s.heap (upd σ1 acc<|.list d) L vars2 λH=>Z:=Fg l.ns λmm hn=>⟨⟨mm,hn,λi m e=>nO e⟩,by rw[zE _ _<|Ne.symm c.naL];exact c.fL⟩
def LS.ran {σ2:MH} (c:FC B σ1 acc it L src h4) (l:LS B σ1 acc it L src h4 d todo s) (S2:St B.G σ2 s') (T:FB (res (upd σ1 acc<|.list d) λH=>False) σ2 s.heap s'.heap) (te:zQ s.heap s'.heap):LS B σ1 acc it L src h4 d todo s':=by
 have z_:=Vy (N':=λH=>False) l.st S2 T
 have k:∀b ob,s.heap.get? b=R ob→s'.heap.get? b=R ob:=λb ob e=>T.un b ob e<|qM id
 exact l.mv c (z_.st.le λa x e=>by rw[z_.old a id<|by rw[e];rfl];exact e) (λb ob H H H e=>k b ob e) te<|wk l.ns λob e=>k _ _ e
def LS.nx {h6:y9} {tk:Q} (c:FC B σ1 acc it L src h4) (l:LS B σ1 acc it L src h4 d (m::todo) s) (I6:HI h6 it src todo) (b6:Hx it s {s with heap:=h6,toks:=tk}):LS B σ1 acc it L src h4 d todo {s with heap:=h6,toks:=tk}:=
 ⟨l.st.but (by rw[zE _ _ c.nia];exact c.fit) c.i0 b6 C C,λb ob e n1 n2 n3=>b6.keep b ob n1<|l.kx b ob e n1 n2 n3,I6,wk (s':={s with heap:=h6,toks:=tk}) l.ns λob e=>b6.keep _ _ (Ne.symm c.niL) e,zg l.te b6.te⟩
def LS.new (l:LS B σ1 acc it L src h4 d todo s):h4.get? s.heap.objs.size=Z:=by
 cases q:h4.get? s.heap.objs.size with
 |Z=>rfl
 |R ob=>
  have lt:∀{b:w_} {ob:Obj},b=s.heap.objs.size→s.heap.get? b=R ob→False:=λe h=>V0 _<|e▸Z2 h
  exact(lt C (l.kx _ _ q (λe=>by obtain⟨o,vs,T,ho,_⟩:=vm l.I;exact lt e.symm ho) (λe=>(l.st.some<|zJ _ _ _).elim λo ho=>lt e.symm ho) λe=>by obtain⟨mm,o,es,ep,ho,_⟩:=l.ns;exact lt e.symm ho)).elim
nonrec abbrev iO (sc2:w7) (L:w_) (Lo:Env):Env:={newEnv sc2 L Lo.globals [] Lo.qual Z .none (R Lo) B9 with scope:=sc2}
def QH {it0:X} {elt target iter:Lb} {ifs:D Lb} {gs:D K7} {sc2:w7} {pos cpos:Pos} {w:Vw} {l:D MV} (hfree:∀x∈sc2.names,x.2≠.free) (hkind:sc2.kind=.function)
  (hnames:∀x∈sc2.names,x.2=.local→sc2.names.lookup x.1=R .local) (hcell:∀x∈sc2.names,x.2≠.cell) (hs:∀Lo x,J4 iter Lo x=pure x) (Hi:HT B n sc Ln it0 iter) {Lo:Env} {use:Lc<|q4→Sem Unit} {Qf:q4→q7→Prop}
  (e1:opn it0 (E0 B.P (EZ B.P B.W n) it0) J=R (w,ρ')) (el:w.items=R l) (O:Fs Lo sc Ln) (aa:Nl A n) (S:St B.G σ s) (F:Fm s.heap σ Lo.locals Ln ls) (W:Gg B σ ls J P)
  (z_:∀{σ1 P1 acc it L src h4},FC B σ1 acc it L src h4→(∀rs s5 h6,LS B σ1 acc it L src h4 rs [] s5→Hx it s5 {s5 with heap:=h6}→M2 B σ s.heap ls rs ρ' acc L {s5 with heap:=h6} (upd σ1 acc<|.list rs) P1)→
   ∀s0,LS B σ1 acc it L src h4 [] l s0→Y_ B.G.M A (.compLoop (.ListComp elt (⟨target,iter,ifs,0⟩::gs) sc2 pos) 0 (.ref it) (.ref acc)<|iO sc2 L Lo) (EP B.G.M A Er use Qf (.ref acc) L) s0):
  q9 B.G.M A (Ci (.ListComp elt (⟨target,iter,ifs,0⟩::gs) sc2 pos) sc2 Lo cpos (Ey []) La (V8 iter Lo) use) Qf Er s:=by
 refine wpAny_comprehension_free C (hs Lo) (closureFor_none hfree) hkind hnames<|q5 (Hi.h e1 O aa S F W) (λv s1 Y=>?_) λH H x=>x
 rw[Km hfree]
 refine Gm Y λm1 σ1 P1 r1 w1 x1=>?_
 clear Hi hs hnames O aa S F W e1 Y
 refine VL x1.st r1 w1 el λo src hsrc I2=>?_
 clear r1 w1 el
 have S2:=x1.st.push o
 have hs2:(s1.heap.push o).objs.size=s1.heap.objs.size+1:=DB ..
 refine wpAny_newObj_type ?_<|by show([]:D q4).toArray.size≤k7;decide
 have S3:=S2.alloc (o:=vc [] 0) (x:=.list []) ⟨[],⟨0,Heap.get?_push_size _ C⟩,.nil⟩
 have facc:=S2.fresh
 have f0it:=x1.st.fresh0
 have fit:=x1.st.fresh
 have fL:=S3.fresh
 have f0L:=S3.fresh0
 dsimp only at S3 facc fL f0L
 refine wpAny_newFunctionEnv hcell (λx hx=>by cases hx) (λh4 hn4 sb4=>?_) hkind
 replace hn4:h4.Ns ((s1.heap.push o).push<|vc [] 0).objs.size λx=>([]:D<|Lf×q4).reverse.lookup x:=hn4
 replace sb4:BL ((s1.heap.push o).push<|vc [] 0).objs.size (((s1.heap.push o).push<|vc [] 0).push {cls:=.type s!"dict",data:=.dict<|D.toArray []}) h4:=sb4
 have kq:∀b ob,((s1.heap.push o).push<|vc [] 0).get? b=R ob→h4.get? b=R ob:=λb ob e=>(sb4.2 b<|Z3<|Z2 e).trans<|Heap.get?_push_of_some _ e
 have kr:∀b ob,(s1.heap.push o).get? b=R ob→h4.get? b=R ob:=λb ob e=>kq b ob<|Heap.get?_push_of_some _ e
 have ka:h4.get? (s1.heap.push o).objs.size=R (vc [] 0):=kq _ _<|Heap.get?_push_size _ C
 have hL2:((s1.heap.push o).push<|vc [] 0).objs.size=s1.heap.objs.size+2:=(DB ..).trans<|Li Ed hs2
 have S4:St B.G (upd σ1 (s1.heap.push o).objs.size<|.list []) {s1 with heap:=h4,toks:=s1.toks}:=S3.ext kq
 clear sb4 kq S2 S3
 refine(?_:Y_ B.G.M A (.compStart (.ListComp elt (⟨target,iter,ifs,0⟩::gs) sc2 pos) 0 (.ref s1.heap.objs.size) (.ref (s1.heap.push o).objs.size)<|iO sc2 ((s1.heap.push o).push<|vc [] 0).objs.size Lo) (EP B.G.M A Er use Qf (.ref (s1.heap.push o).objs.size) ((s1.heap.push o).push<|vc [] 0).objs.size) {s1 with heap:=h4})
 generalize eL:((s1.heap.push o).push<|vc [] 0).objs.size=L at*
 generalize ea:(s1.heap.push o).objs.size=acc at*
 generalize ei:s1.heap.objs.size=it at*
 have nit:it≠acc:=by rw[hs2];exact Z3<|Ba _
 have OJ:it≠L:=by rw[hL2];exact Z3<|Q.lt_add_of_pos_right<|by decide
 have accL:acc≠L:=by rw[hL2,hs2];exact Z3<|Ba _
 rw[zE _ _<|Ne.symm accL]at fL
 have nb:∀b ob,s1.heap.get? b=R ob→b≠it∧b≠acc∧b≠L:=λb ob e=>by
  have Y:(b:Q)<it:=ei▸Z2 e
  exact⟨Z3 Y,hs2▸Z3 (EI Y),hL2▸Z3 (v_ Y<|Q8 _ _)⟩
 have kp:∀b ob,s1.heap.get? b=R ob→h4.get? b=R ob:=λb ob e=>kr _ _<|Heap.get?_push_of_some _ e
 have I4:HI h4 it src l:=I2.keep (λob e=>kr _ _ e) (λa ha ob e=>kr _ _ e) λa vs ⟨k,e⟩=>⟨k,kr _ _ e⟩
 have some_ne:∀{b:w_} {ob:Obj},h4.get? b=R ob→h4.get? b≠Z:=λe h=>by rw[e]at h;contradiction
 have G':FC B σ1 acc it L src h4:=⟨facc,fit,fL,f0it,f0L,nit,OJ,accL,λa ha=>by
   have:=hsrc a ha
   refine⟨λe=>?_,λe=>?_,λe=>?_⟩<;>rw[e]at this
   ·rw[facc]at this;exact nB this
   ·rw[fit]at this;exact nB this
   ·rw[fL]at this;exact nB this,HX (vm I4) λo vs T ho H H H=>some_ne ho,(by obtain⟨o,es,ep,ho,_⟩:=hn4;exact some_ne ho),some_ne ka,λa ha=>Fg (V3.mp<|hsrc a ha) λx hx=>Fg (x1.st.some hx) λob hob=>some_ne<|kp _ _ hob⟩
 have K:=z_ (P1:=P1) G' (λrs s5 h6 l5 b6=>?_) {s1 with heap:=h4} ⟨S4,λb ob e H H H=>e,I4,⟨_,hn4⟩,λH H x=>x⟩
 ·exact codeAny_compStart_list K<|yT I4 K
 ·have nk:∀{b:w_},b≠acc→upd σ1 acc (.list rs) b=σ1 b:=λh=>zE _ _ h
  have fin:∀b ob,s1.heap.get? b=R ob→h6.get? b=R ob:=λb ob e=>yG (nb b ob e) λn1 n2 n3=>b6.keep _ _ n1<|l5.kx _ _ (kp _ _ e) n1 n2 n3
  refine⟨⟨l5.st.but (by rw[nk nit];exact fit) f0it b6 C C,x1.step.trans ⟨λb ob e H=>fin b ob e,λb ob e nn=>(nk (nb b ob e).2.1).trans nn⟩,x1.own.cong λi a p=>nk λe=>?_,zg x1.te λa vs ⟨k,e⟩=>⟨k,fin _ _ e⟩,λe=>nB e⟩,zJ _ _ _,λi p=>?_,wk (s':={s5 with heap:=h6}) l5.ns λob e=>b6.keep _ _ (Ne.symm OJ) e,by rw[nk<|Ne.symm accL];exact fL,f0L,λb ob e nn=>(nb b ob<|x1.step.un b ob e nn).2.2⟩
  ·have:=x1.own.dm _ _ p;rw[e,facc]at this;exact nB this
  ·have:=x1.own.dm _ _ p;rw[facc]at this;exact nB this
end
mutual namespace A
def Ze {np:Q} {it body:X} {elt target iter:Lb} {sc2:w7} {vars2:D Lf} {pos cpos:Pos} (z9:zN B) (hfree:∀x∈sc2.names,x.2≠.free) (hkind:sc2.kind=.function)
  (hnames:∀x∈sc2.names,x.2=.local→sc2.names.lookup x.1=R .local) (hcell:∀x∈sc2.names,x.2≠.cell) (hlo:∀x∈vars2,sc2.names.lookup x=R .local) (nd2:vars2.Nodup) (T:TE vars2 np target)
  (hs:∀Lo x,J4 iter Lo x=pure x) (Hi:HT B n sc Ln it iter) (Hb:Fj B n sc2 vars2 body elt) {Lo:Env} {rs:D MV} {use:Lc<|q4→Sem Unit} {Qf:q4→q7→Prop}
  (e:E0 B.P (EZ B.P B.W n) (.comp np it body) J=R (.l rs,ρ')) (O:Fs Lo sc Ln) (aa:Nl A n) (S:St B.G σ s) (F:Fm s.heap σ Lo.locals Ln ls) (W:Gg B σ ls J P)
  (q:∀acc L s' σf P1,M2 B σ s.heap ls rs ρ' acc L s' σf P1→EP B.G.M A Er use Qf (.ref acc) L (.ok .next) s'):
  q9 B.G.M A (Ci (.ListComp elt [⟨target,iter,[],0⟩] sc2 pos) sc2 Lo cpos (Ey []) La (V8 iter Lo) use) Qf Er s:=by
 refine zh e ?_;clear e;intro w ρ1 e1 e
 refine zB e ?_;clear e;intro l el e
 refine zs1 e ?_;clear e;intro hz e
 refine qa e ?_;clear e;intro rs er e
 cases e
 refine QH hfree hkind hnames hcell hs Hi e1 el O aa S F W λ{σ1 P1 acc it L src h4} c fin s0 l0=>?_
 clear hfree hnames hcell hs Hi e1 el S F W
 let f:MV→Lc MV:=λm=>(jh np m).bind λρc=>(E0 B.P (EZ B.P B.W n) body ρc).bind λx=>x.1.dat
 refine ZO (λk s=>∃done todo ress,k=todo.length∧Qu f todo=R ress∧rs=done++ress∧done.length+todo.length≤1000000∧LS B σ1 acc it L src h4 done todo s) (λk s0 hI=>?_) l.length ⟨[],l,rs,C,er,C,by rw[y0,K'];exact hz,l0⟩
 refine Rf hI λdone todo ress e3 em hr hlen l5=>?_
 clear hI l0 er hz
 subst e3
 cases todo with
 |nil=>
  replace em:=z' em;subst em
  rw[Z8]at hr
  subst hr
  exact l5.I.stop aa.hd λh6 b6=>q acc L _ _ P1<|fin _ _ _ l5 b6
 |cons m rest=>
  refine zB em ?_;clear em;intro r em1 em
  refine qa em ?_;clear em;intro ress' em2 em
  subst em
  refine zB em1 ?_;clear em1;intro ρc eb em1
  refine zh em1 ?_;clear em1;intro y ρy ey em1
  refine l5.I.next λv h6 tk r6 I6 b6=>?_
  have l6:=l5.nx c I6 b6
  clear l5
  have O2:Fs (iO sc2 L Lo) sc2 vars2:=⟨C,O.gl,O.bi,hkind,hlo⟩
  refine yU (s:={s0 with heap:=h6,toks:=tk}) I6<|Kl T O2 c.L0 nd2 aa.hd (l6.fm c) l6.st r6 eb λs7 ls7 S7 F7 W7 b7=>?_
  have l7:LS B σ1 acc it L src h4 done rest s7:=l6.mv c S7 (λb ob H H n2 e=>b7.keep b ob n2 e) b7.te<|E7 F7.ns λmm hn H=>⟨mm,hn⟩
  refine q5 (Hb.h ey O2 aa (S7.le<|jG _ λH=>False) F7.res<|W7 _) (λxv s8 h8=>?_) λH H x=>x
  obtain⟨r8,σ8,P8,x8⟩:=h8.dat em1
  refine LS.append c (by rw[W_];exact Qn hlen omT) (l7.ran c x8.st x8.step x8.te) r8 λs9 l9 H H=>⟨rest.length,Ba _,done++[r],rest,ress',C,em2,by rw[hr,j3];rfl,by rw[q8];exact(WY hlen omT:done.length+1+rest.length≤1000000),l9⟩
def M2.drop {rs:D MV} {acc L:w_} {σf:MH} (c:M2 B σ h ls rs ρ' acc L s' σf P1) {h':y9} (sb:BL L s'.heap h'):PE B σ h ls La (.l rs) ρ' (.ref acc) {s' with heap:=h'}:=by
 refine Fg c.ns λmm hn=>?_
 have b:=qY (tk:=s'.toks) sb<|vj hn
 refine⟨.ref acc,σf,P1,λa=>a=acc,⟨(c.so.st.but c.nL c.n0 b C C),⟨λb' ob e n=>?_,c.so.step.dom⟩,c.so.own,zg c.so.te b.te,λe=>nB e⟩,.ref _,⟨acc,C,c.at_,C⟩,?_,?_⟩
 ·exact b.keep _ _ (c.fr _ _ e n)<|c.so.step.un _ _ e n
 ·rintro a C;refine rq c.at_ ?_;rfl
 ·rintro a i C p;exact c.ap i p
def QI {P:Pg} {cl:HM} {np:Q} {it body:X} (e:E0 P cl (.comp np it body) J=R (t,ρ')):∃rs,t=.l rs:=by
 refine zh e ?_;clear e;intro w ρ1 e1 e
 refine zB e ?_;clear e;intro l el e
 dsimp only at e
 split at e
 ·refine qa e ?_;clear e;intro rs er e
  clear e1 er;cases e;exact⟨rs,C⟩
 ·exact nO e
def XP {np:Q} {it body:X} {elt target iter:Lb} {sc2:w7} {vars2:D Lf} {pos:Pos} (z9:zN B) (hfree:∀x∈sc2.names,x.2≠.free) (hkind:sc2.kind=.function)
  (hnames:∀x∈sc2.names,x.2=.local→sc2.names.lookup x.1=R .local) (hcell:∀x∈sc2.names,x.2≠.cell) (hlo:∀x∈vars2,sc2.names.lookup x=R .local) (nd2:vars2.Nodup) (T:TE vars2 np target)
  (hs:∀Lo x,J4 iter Lo x=pure x) (Hi:HT B n sc Ln it iter) (Hb:Fj B n sc2 vars2 body elt):Fj B n sc Ln (.comp np it body)<|.ListComp elt [⟨target,iter,[],0⟩] sc2 pos:=⟨by
 intro Lo A s σ ls P J ρ' t e O aa S F W
 refine Fg (QI e) λrs e1=>?_
 subst e1
 rw[eval_ListComp]
 refine Ze z9 hfree hkind hnames hcell hlo nd2 T hs Hi Hb e O aa S F W (use:=Z) λacc L s' σf P1 c=>?_
 refine Fg c.ns λmm hn=>?_
 exact⟨mm,hn,λh' sb=>c.drop sb⟩⟩
end
end
mutual namespace A
structure Od (L:w_) (σ σ':MH) (h h':y9):Prop where
 un:∀a o,h.get? a=R o→σ a=Z→a≠L→h'.get? a=R o
 dom:∀a o,h.get? a=R o→σ a=Z→σ' a=Z
def Od.trans {L:w_} {σ σ' σ'':MH} {h h' h'':y9} (x:Od L σ σ' h h') (y:Od L σ' σ'' h' h'') (nL:σ'' L=Z):Od L σ σ'' h h'':=
 ⟨λa o e n l=>y.un a o (x.un a o e n l) (x.dom a o e n) l,λa o e n=>by
  by_cases hl:a=L
  ·refine rq hl ?_;exact nL
  ·exact y.dom a o (x.un a o e n hl)<|x.dom a o e n⟩
def FB.l {L:w_} {σ σ':MH} {h h':y9} (x:FB σ σ' h h'):Od L σ σ' h h':=⟨λa o e n H=>x.un a o e n,x.dom⟩
structure SX (B:Gu) (np:Q) (Ln:D Lf) (σ:MH) (h:y9) (L:w_) (ls:Q→Lc MV) (ρ':Ev) (s':q7) (σ':MH) (ls':Q→Lc MV) (P':Q→Fp):Prop where
 st:St B.G σ' s'
 step:Od L σ σ' h s'.heap
 own:Gg B σ' ls' ρ' P'
 te:zQ h s'.heap
 fm:Fm s'.heap σ' L Ln ls'
 pr:∀i,i<np→ls' i=ls i
abbrev ziz (B:Gu) (σ':MH) (P':Q→Fp) (s':q7):Fw→Flow→Prop
 | .nx,.next=>True
 | .br,.brk=>True
 | .rt t,.ret v=>∃m N',FP s'.heap v m∧I3 B σ' N' m t∧(∀a,N' a→(σ' a).isSome=f')∧wB N' P'
 |_,_=>False
abbrev PS (B:Gu) (np:Q) (Ln:D Lf) (σ:MH) (h:y9) (L:w_) (ls:Q→Lc MV) (fl:Fw) (ρ':Ev) (f:Flow) (s':q7):Prop:=
 ∃σ' ls' P',SX B np Ln σ h L ls ρ' s' σ' ls' P'∧ziz B σ' P' s' fl f
structure qo (B:Gu) (n np:Q) (sc:w7) (Ln:D Lf) (x:S) (st:Q9):Prop where
 h:∀{Lo:Env} {A:Z6} {s:q7} {σ:MH} {ls:Q→Lc MV} {P:Q→Fp} {J ρ':Ev} {fl:Fw},Fc B.P (EZ B.P B.W n) B.W np x J=R (fl,ρ')→Fs Lo sc Ln→B.G.h0.get? Lo.locals=Z→Ln.Nodup→Nl A n→St B.G σ s→
  Fm s.heap σ Lo.locals Ln ls→Gg B σ ls J P→q9 B.G.M A (exec st Lo) (PS B np Ln σ s.heap Lo.locals ls fl ρ') Er s
structure wL (B:Gu) (n np:Q) (sc:w7) (Ln:D Lf) (x:S) (sts:D Q9):Prop where
 h:∀{Lo:Env} {A:Z6} {s:q7} {σ:MH} {ls:Q→Lc MV} {P:Q→Fp} {J ρ':Ev} {fl:Fw},Fc B.P (EZ B.P B.W n) B.W np x J=R (fl,ρ')→Fs Lo sc Ln→B.G.h0.get? Lo.locals=Z→Ln.Nodup→Nl A n→St B.G σ s→
  Fm s.heap σ Lo.locals Ln ls→Gg B σ ls J P→q9 B.G.M A (execs sts Lo) (PS B np Ln σ s.heap Lo.locals ls fl ρ') Er s
end
mutual section
variable {B:Gu} {n np:Q} {σ σ' σ'':MH} {h h':y9} {ls ls' ls'':Q→Lc MV} {pu pu':Ld} {t:Th} {m:MV} {J ρ' ρ'' ρ1 ρ2:Ev} {v:q4} {s s' s'':q7} {P P' P'' P1 P2:Q→Fp} {A:Z6}
variable {sc:w7} {Ln:D Lf} {N':Fp} {L:w_} {fl:Fw}
def SO.sx (a:SO B σ h ls pu ρ' s' σ' P') (F:Fm h σ L Ln ls):SX B np Ln σ h L ls ρ' s' σ' ls P':=⟨a.st,a.step.l,a.own,a.te,a.fm F,λH H=>C⟩
def SX.refl (S:St B.G σ s) (F:Fm s.heap σ L Ln ls) (O:Gg B σ ls J P):SX B np Ln σ s.heap L ls J s σ ls P:=⟨S,⟨λH H e H H=>e,λH H H e=>e⟩,O,λH H x=>x,F,λH H=>C⟩
def SX.trans (a:SX B np Ln σ h L ls ρ' s' σ' ls' P') (b:SX B np Ln σ' s'.heap L ls' ρ'' s'' σ'' ls'' P''):SX B np Ln σ h L ls ρ'' s'' σ'' ls'' P'':=
 ⟨b.st,a.step.trans b.step b.fm.no,b.own,zg a.te b.te,b.fm,λi hi=>(b.pr i hi).trans<|a.pr i hi⟩
def PS.after {f:Flow} (a:SX B np Ln σ h L ls ρ' s' σ' ls' P') (p:PS B np Ln σ' s'.heap L ls' fl ρ'' f s''):PS B np Ln σ h L ls fl ρ'' f s'':=
 II p λσ2 ls2 P2 x y=>⟨σ2,ls2,P2,a.trans x,y⟩
def Rg:wL B n np sc Ln .skip []:=⟨by
 intro Lo A s σ ls P J ρ' fl e O n0 nd aa S F W
 refine qK e λeq1 eq2=>?_;clear e;subst eq1 eq2
 exact DP ⟨σ,ls,P,SX.refl S F W,trivial⟩⟩
def XQ {sts:D Q9}:wL B n np sc Ln .bad sts:=⟨by
 intro Lo A s σ ls P J ρ' fl e
 exact nO e⟩
def XR {st:Q9}:qo B n np sc Ln .bad st:=⟨by
 intro Lo A s σ ls P J ρ' fl e
 exact nO e⟩
def XS {a b:S} {st:Q9} {sts:D Q9} (Ha:qo B n np sc Ln a st) (Hb:wL B n np sc Ln b sts):wL B n np sc Ln (.seq a b)<|st::sts:=⟨by
 intro Lo A s σ ls P J ρ' fl e O n0 nd aa S F W
 refine zh e ?_;clear e;intro f1 ρ1 e1 e
 refine Cs<|q5 (Ha.h e1 O n0 nd aa S F W) (λf s1 Y=>?_) λH H x=>x
 refine II Y λσ1 ls1 P1 x1 y1=>?_
 clear e1 Y;induction f1 with
 |nx=>
  induction f with
  |next=>exact q5 (Hb.h e O n0 nd aa x1.st x1.fm x1.own) (λf2 s2 T'=>T'.after x1) λH H x=>x
  |_=>exact y1.elim
 |br=>
  refine qK e λeq1 eq2=>?_;subst eq1 eq2
  induction f with
  |brk=>exact⟨σ1,ls1,P1,x1,y1⟩
  |_=>exact y1.elim
 |rt t=>
  refine qK e λeq1 eq2=>?_;clear e;subst eq1 eq2
  induction f with
  |ret v=>exact⟨σ1,ls1,P1,x1,y1⟩
  |_=>exact y1.elim⟩
def XT {x:X} {e:Lb} {p:Pos} (z_:Fj B n sc Ln x e):qo B n np sc Ln (.ret x)<|.Return (R e) p:=⟨by
 intro Lo A s σ ls P J ρ' fl e O n0 nd aa S F W
 refine zh e ?_;clear e;intro t ρ1 e1 e
 refine qK e λeq1 eq2=>?_;clear e;subst eq1 eq2
 refine wpAny_Return_some<|q5 (z_.h e1 O aa S F W) (λv s1 Y=>?_) λH H x=>x
 refine N8 Y λm σ1 P1 N' x1=>?_
 exact⟨σ1,ls,P1,x1.so.sx F,m,N',x1.rep,x1.at_,x1.dm,x1.ap⟩⟩
def VM {p:Pos}:qo B n np sc Ln (.ret<|.lit .none)<|.Return Z p:=⟨by
 intro Lo A s σ ls P J ρ' fl e O n0 nd aa S F W
 refine qK e λeq1 eq2=>?_;clear e;subst eq1 eq2
 exact wpAny_Return_none ⟨σ,ls,P,SX.refl S F W,.none,λH=>False,.none,C,λH h=>h.elim,λH H h=>h.elim⟩⟩
def XU {p:Pos}:qo B n np sc Ln .brk<|.Break p:=⟨by
 intro Lo A s σ ls P J ρ' fl e O n0 nd aa S F W
 refine qK e λeq1 eq2=>?_;clear e;subst eq1 eq2
 exact wpAny_Break ⟨σ,ls,P,SX.refl S F W,trivial⟩⟩
def Fs.inter {Lo:Env} (O:Fs Lo sc Ln):interactive Lo=La:=by
 unfold interactive;refine rq O.kind ?_;rfl
def XV {x:X} {e:Lb} {p:Pos} (hs:∀Lo,Fs Lo sc Ln→K8 e Z p.line Lo=pure La) (z_:Fj B n sc Ln x e):qo B n np sc Ln (.exp x)<|.Expr e p:=⟨by
 intro Lo A s σ ls P J ρ' fl e O n0 nd aa S F W
 refine zh e ?_;clear e;intro t ρ1 e1 e
 refine qK e λeq1 eq2=>?_;clear e;subst eq1 eq2
 refine DY (q5 (z_.h e1 O aa S F W) (λv s1 Y=>?_) λH H x=>x) O.inter<|hs Lo O
 refine N8 Y λm σ1 P1 N' x1=>?_
 exact⟨σ1,ls,P1,x1.so.sx F,trivial⟩⟩
def XW {t:X} {a b:S} {te:Lb} {sa sb:D Q9} {p:Pos} (Ht:Go B n sc Ln t te) (Ha:wL B n np sc Ln a sa) (Hb:wL B n np sc Ln b sb):qo B n np sc Ln (.ite t a b)<|.If te sa sb p:=⟨by
 intro Lo A s σ ls P J ρ' fl e O n0 nd aa S F W
 refine zh e ?_;clear e;intro x ρ1 e1 e
 refine zB e ?_;clear e;intro c ec e
 cases qH ec
 refine wpAny_If<|q5 (Ht.h e1 O aa S F W) (λb' s1 Y=>?_) λH H x=>x
 clear Ht S W e1 ec;obtain⟨C,σ1,P1,x1⟩:=Y
 induction b' with
 |f'=>exact q5 (Ha.h e O n0 nd aa x1.st (x1.fm F) x1.own) (λf s2 T'=>T'.after<|x1.sx F) λH H x=>x
 |La=>exact q5 (Hb.h e O n0 nd aa x1.st (x1.fm F) x1.own) (λf s2 T'=>T'.after<|x1.sx F) λH H x=>x⟩
def yV {i:Q} {x:Lf} {s1 s2:q7} {σ1:MH} {N':Fp} {m:MV} (x1:SO B σ h ls pu ρ1 s1 σ1 P1) (S2:St B.G σ1 s2) (F2:Fm s2.heap σ1 L Ln<|OP ls i m) (b2:Hx L s1 s2) (T:I3 B σ1 N' m t) (dm:∀a,N' a→(σ1 a).isSome=f') (ap:wB N' P1) (hi:np≤i):
  ∃P2,SX B np Ln σ h L ls (Mine.Internal.st ρ1 i t) s2 σ1 (OP ls i m) P2:=
 ⟨_,⟨S2,⟨λa o e n l=>b2.keep a o l<|x1.step.un a o e n,x1.step.dom⟩,x1.own.put Gf (λj hj=>jj hj) T dm λa j q H=>ap a j q,zg x1.te b2.te,F2,λj hj=>jj<|oF hi hj⟩⟩
def XX {i:Q} {a:X} {x:Lf} {e:Lb} {p p':Pos} (hs:∀Lo,Fs Lo sc Ln→K8 e (R<|.Name x p') p.line Lo=pure La) (hv:Ln[i]?=R x) (z_:Fj B n sc Ln a e):qo B n np sc Ln (.asg i a)<|.Assign [.Name x p'] e p:=⟨by
 intro Lo A s σ ls P J ρ' fl e O n0 nd aa S F W
 refine zh e ?_;clear e;intro t ρ1 e1 e
 dsimp only at e
 split at e<;>(first|exact nO e|cases e)
 refine Dl (q5 (z_.h e1 O aa S F W) (λv s1 Y=>?_) λH H x=>x)<|hs Lo O
 refine N8 Y λm σ1 P1 N' x1=>?_
 refine zX O (x1.so.fm F) n0 nd hv x1.rep x1.so.st λs2 S2 F2 b2=>?_
 refine Fg (yV (np:=np) (x:=x) x1.so S2 F2 b2 x1.at_ x1.dm x1.ap (‹_›:np≤i∧i<ρ1.length).1) λP2 X=>?_
 exact⟨σ1,_,P2,X,trivial⟩⟩
def VN {i np2:Q} {it body:X} {x:Lf} {elt target iter:Lb} {sc2:w7} {vars2:D Lf} {pos p p':Pos} (z9:zN B) (hs0:∀Lo,Fs Lo sc Ln→K8 (.ListComp elt [⟨target,iter,[],0⟩] sc2 pos) (R<|.Name x p') p.line Lo=pure f')
  (hfree:∀x∈sc2.names,x.2≠.free) (hkind:sc2.kind=.function)
  (hnames:∀x∈sc2.names,x.2=.local→sc2.names.lookup x.1=R .local) (hcell:∀x∈sc2.names,x.2≠.cell) (hlo:∀x∈vars2,sc2.names.lookup x=R .local) (nd2:vars2.Nodup) (T:TE vars2 np2 target)
  (hs:∀Lo x,J4 iter Lo x=pure x) (hv:Ln[i]?=R x) (Hi:HT B n sc Ln it iter) (Hb:Fj B n sc2 vars2 body elt):qo B n np sc Ln (.asg i<|.comp np2 it body)<|.Assign [.Name x p'] (.ListComp elt [⟨target,iter,[],0⟩] sc2 pos) p:=⟨by
 intro Lo A s σ ls P J ρ' fl e O n0 nd aa S F W
 refine zh e ?_;clear e;intro t ρ1 e1 e
 dsimp only at e
 split at e<;>(first|exact nO e|cases e)
 have hi:np≤i∧i<ρ1.length:=‹_›
 refine Fg (QI e1) λrs e1=>?_
 subst e1
 refine rq (EH _ _ _ _<|hs0 Lo O) ?_
 refine q6<|J_<|q6 ?_
 refine(?_:q9 _ A (do let _ ←Ci (.ListComp elt [⟨target,iter,[],0⟩] sc2 pos) sc2 Lo _ (Ey []) La (V8 iter Lo) (R<|BA (.Name x p') Lo)) _ _ s)
 refine q6 (q5 (Ze z9 hfree hkind hnames hcell hlo nd2 T hs Hi Hb e1 O aa S F W (use:=R<|BA (.Name x p') Lo) (Qf:=λH s'=>PS B np Ln σ s.heap Lo.locals ls .nx (st ρ1 i<|.l rs) .next s') λacc L2 s' σf P1 c=>?_)
  (λH s' hq=>j4<|j4 hq) λH H x=>x)
 refine(?_:q9 _ A (BA (.Name x p') Lo<|.ref acc) _ _ _)
 refine V7<|zX O (c.so.fm F) n0 nd hv (.ref acc) c.so.st λs2 S2 F2 b2=>?_
 refine Fg c.ns λmm hn=>?_
 refine E7 F.ns λmmL hnL H=>?_
 have hLL:L2≠Lo.locals:=by
  refine II hnL λob H H ho H=>?_
  exact λe=>c.fr _ _ ho F.no e.symm
 have hn2:s2.heap.Ns L2 mm:=by obtain⟨ob,es,ep,ho,rr⟩:=hn;exact⟨ob,es,ep,b2.keep _ _ hLL ho,rr⟩
 refine⟨mm,hn2,λh' sb=>?_⟩
 have b3:=qY (tk:=s2.toks) sb<|vj hn2
 have F3:Fm h' σf Lo.locals Ln<|OP ls i<|.ref acc:=by
  refine cps λGG kk=>?_
  obtain⟨mm,⟨ob,es,ep,ho,rr⟩,hl⟩:=F2.ns
  refine kk ?_
  exact⟨⟨mm,⟨ob,es,ep,b3.keep _ _ (Ne.symm hLL) ho,rr⟩,λi m e=>let ⟨x,v,a,b,c⟩:=hl i m e;⟨x,v,a,b,c.ext b3.te⟩⟩,F2.no⟩
 refine⟨σf,_,_,⟨(S2.but c.nL c.n0 b3 C C),⟨λa o e n l=>b3.keep a o (c.fr a o e n)<|b2.keep a o l<|c.so.step.un a o e n,c.so.step.dom⟩,c.so.own.put (N':=λa=>a=acc) (t:=.l rs) Gf (λj hj=>jj hj) ⟨acc,C,c.at_,C⟩ ?_ ?_,zg c.so.te<|zg b2.te b3.te,F3,λj hj=>jj<|oG ‹_› hj⟩,trivial⟩
 ·clear z9 hs0 hfree hkind hnames hcell hlo nd2 T hs hv Hi Hb O n0 nd aa S F W hi e1 S2 F2 b2 hn hnL H hLL hn2 sb b3 F3;rintro a C;refine rq c.at_ ?_;rfl
 ·clear z9 hs0;clear hfree hkind;clear hnames hcell;clear hlo nd2;clear T hs;clear hv Hi;clear Hb O;clear n0 nd;clear aa S;clear F W;clear hi e1;clear S2 F2;clear b2 hn;clear hnL H;clear hLL hn2;clear sb b3 F3;rintro a j C _;exact c.ap j⟩
end
mutual section
variable {B:Gu} {n np:Q} {σ σ' σ'':MH} {h h':y9} {ls ls' ls'':Q→Lc MV} {pu pu':Ld} {t:Th} {m:MV} {J ρ' ρ'' ρ1 ρ2:Ev} {v:q4} {s s' s'' s1:q7} {σ1:MH} {P P' P'' P1 P2:Q→Fp} {A:Z6}
variable {sc:w7} {Ln:D Lf} {N':Fp} {L:w_} {fl:Fw}
def oY {o:Ph} {po:Y2} {x y z:MV} {v w:q4} (ho:MK o po) (S:St B.G σ s) (r1:FP s.heap v x) (r2:FP s.heap w y) (e:Pj o x y=R z):
  q9 B.G.M A (inplaceOp po v w) (Fh B.G σ s λm τ=>m=z∧τ=σ) Er s:=by
 induction ho with
 |add=>
  refine yN e λa b e1 e2 e3=>?_
  subst e1 e2;have e3:=z' e3;subst e3;refine r1.int_i λt e1=>r2.int_i λu e2=>?_;subst e1 e2;exact JU S ⟨C,C⟩
 |sub=>
  refine yN e λa b e1 e2 e3=>?_
  subst e1 e2;have e3:=z' e3;subst e3;refine r1.int_i λt e1=>r2.int_i λu e2=>?_;clear r1 r2 e3;subst e1 e2;exact JV S ⟨C,C⟩
 |_=>exact nO e
def zp2 {α:Type} {J:Ev} {j:Q} {f:MV→Lc α} {r:α} (e:(match gt J j with|R (.d y)=>f y|_=>Z)=R r) {G:Prop} (k:∀y,gt J j=R (.d y)→f y=R r→G):G:=by
 induction h:gt J j with
 |Z=>rw[h]at e;exact nO e
 |R t=>
  rw[h]at e
  induction t with
  |d y=>exact k y h e
  |_=>exact nO e
def XY {i:Q} {o:Ph} {po:Y2} {a:X} {x:Lf} {e:Lb} {p p':Pos} (ho:MK o po) (hv:Ln[i]?=R x) (z_:Fj B n sc Ln a e):qo B n np sc Ln (.aug i o a)<|.AugAssign (.Name x p') po e p:=⟨λ{Lo A s σ ls P J ρ' fl} e O n0 nd aa S F W=>
 zp2 e λm0 hg e=>zh e λt ρ1 e1 e=>zB e λy ey e=>zB e λz ez e=>jt e λhi e=>E7 (W.at_ _ _ hg) λm' hl ht=>Fv (Xn F hv hl) λmm v0 hn hx r0=>by
  clear hg hl;cases e
  refine wpAny_AugAssign_Name<|BM O.kind (O.local hv) hn hx<|z_.d ⟨O,aa,S,F,W⟩ e1 ey λv s1 σ1 P1 r1 x1 c1=>q5 (oY ho x1.st ((ht:m'=m0)▸r0.ext x1.te) r1 ez) (λw s2 T'=>qk (Vz x1 T') λr2 T'=>Ib T' λσ2 P2 x2=>?_) λH H x=>x
  exact zX O (x2.fm F) n0 nd hv r2 x2.st λs3 S3 F3 b3=>Fg (yV (np:=np) (x:=x) (t:=.d z) (N':=λH=>False) x2 S3 F3 b3 C (λH h=>h.elim) (λH H h=>h.elim) hi.1) λP3 X=>⟨σ2,_,P3,X,trivial⟩⟩
def o0 {I':Sem q4} {Lo:Env} {j:Q} {a:w_} {l l':D MV} {q:q4→q7→Prop} (x1:SO B σ h ls pu ρ1 s1 σ1 P1) (F:Fm h σ Lo.locals Ln ls) (Y:ls j=R (.ref a)) (hg:gt ρ1 j=R (.l l)) (w:σ1 a=R (.list l)→q9 B.G.M A I' (Fh B.G σ1 s1 λz τ=>τ=upd σ1 a (.list l')) Er s1)
  (k:∀v s',PS B np Ln σ h Lo.locals ls .nx (Mine.Internal.st ρ1 j<|.l l') .next s'→q v s'):q9 B.G.M A I' q Er s1:=
 Hs (x1.own.addr hg) λa' g1 g2 g3=>by
  rw[Y]at g1;cases g1
  exact q5 (w g2) (λz s2 T'=>Og T' λH H H S2 T2 e2=>by clear w g2 T';subst e2;exact k _ _ ⟨_,ls,P1,SO.sx (pu:=La) ⟨S2,x1.step.trans T2,x1.own.updL Y g3,zg x1.te<|x1.st.tupExt T2,λe=>nB e⟩ F,trivial⟩) λH H x=>x
def XZ {j:Q} {b:X} {x:Lf} {e:Lb} {xp apos cpos p:Pos} {name:Lf} (hm:qs (.Name x xp) name apos [e] cpos) (hsw:∀Lo,K8 (.Call (.Attribute (.Name x xp) name apos) [e] [] cpos) Z p.line Lo=pure La) (hs:qw e []) (hv:Ln[j]?=R x) (hd:(x==(s!"__debug__":Lf))=La)
  (hn:name=(s!"append":Lf)) (Ha:Fj B n sc Ln b e):qo B n np sc Ln (.app j b)<|.Expr (.Call (.Attribute (.Name x xp) name apos) [e] [] cpos) p:=⟨λ{Lo A s σ ls P J ρ' fl} e O n0 nd aa S F W=>
 KW e λl0 hg e=>zh e λt ρ1 e1 e=>zB e λm em e=>KW e λl hg1 e=>jt e λhz e=>Hs (W.addr hg) λa Y T' h3=>by
  clear hg h3;cases e
  subst hn
  refine DY (qy hm<|zH O F hv hd Y λv r pl=>?_) O.inter<|hsw Lo
  refine rq r.ref_i ?_
  refine Ib (XJ S T') λvs nn ho=>?_
  have hT:s.TypeIs (.ref a) s!"list":=⟨_,ho,C⟩
  with_reducible refine By (T:=s!"list") hT BZ PySem.F.slot_list_append PySem.F.type_list_append (λa e=>?_) ?_
  ·clear T' r hT;cases e;exact⟨_,ho,C⟩
  exact qd (first:=[_]) (zK hs C)<|w4 (Ha.d ⟨O,aa,S,F,W⟩ e1 em λv2 s1 σ1 P1 r1 x1 c1=>Z7<|o0 (Lo:=Lo) x1 F Y hg1 (λg2=>Qp x1.st g2 r1 (by refine rq W_ ?_;exact Ga hz omT) C) λH H h=>h)<|hs Lo⟩
def zi0 {α:Type} {J:Ev} {j:Q} {x:Th} {f:D MV→D MV→Lc α} {r:α} (e:(match x,gt J j with| .l m,R (.l l)=>f m l|_,_=>Z)=R r) {G:Prop} (k:∀m l,x=.l m→gt J j=R (.l l)→f m l=R r→G):G:=by
 induction x with
 |l m=>
  induction h:gt J j with
  |Z=>rw[h]at e;exact nO e
  |R t=>
   rw[h]at e
   induction t with
   |l l=>exact k m l C h e
   |_=>exact nO e
 |_=>exact nO e
def zaa {j:Q} {b:X} {x:Lf} {e:Lb} {xp apos cpos p:Pos} {name:Lf} (hm:qs (.Name x xp) name apos [e] cpos) (hsw:∀Lo,K8 (.Call (.Attribute (.Name x xp) name apos) [e] [] cpos) Z p.line Lo=pure La) (hs:qw e []) (hv:Ln[j]?=R x) (hd:(x==(s!"__debug__":Lf))=La)
  (hn:name=(s!"extend":Lf)) (Ha:Fj B n sc Ln b e):qo B n np sc Ln (.ext j b)<|.Expr (.Call (.Attribute (.Name x xp) name apos) [e] [] cpos) p:=⟨λ{Lo A s σ ls P J ρ' fl} e O n0 nd aa S F W=>
 KW e λl0 hg e=>zh e λt ρ1 e1 e=>zi0 e λml l et hg1 e=>jt e λhz e=>Hs (W.addr hg) λa Y T' h3=>by
  clear hg h3;cases e
  subst hn et
  refine DY (qy hm<|zH O F hv hd Y λv r pl=>?_) O.inter<|hsw Lo
  refine rq r.ref_i ?_
  refine Ib (XJ S T') λvs nn ho=>?_
  have hT:s.TypeIs (.ref a) s!"list":=⟨_,ho,C⟩
  with_reducible refine By (T:=s!"list") hT BZ PySem.F.slot_list_extend PySem.F.type_list_extend (λa e=>?_) ?_
  ·clear T' r hT;cases e;exact⟨_,ho,C⟩
  refine qd (first:=[_]) (zK hs C)<|w4 (q5 (Ha.h e1 O aa S F W) (λv2 s1 ⟨m1,σ1,P1,Q1,x1⟩=>Z7<|Hs x1.at_ λb em hb H=>?_) λH H x=>x)<|hs Lo
  have rv:=x1.rep
  rw[em]at rv
  refine rq rv.ref_i ?_
  exact o0 (Lo:=Lo) x1.so F Y hg1 (λg2=>Xe x1.so.st g2 hb hz C) λH H h=>h⟩
structure VO (B:Gu) (n:Q) (sc:w7) (Ln:D Lf) (x:X) (e:Lb):Prop where
 h:∀{Lo:Env} {A:Z6} {s:q7} {σ:MH} {ls:Q→Lc MV} {P:Q→Fp} {J ρ':Ev} {t:Th},Qv x (E0 B.P (EZ B.P B.W n) x) J=R (t,ρ')→Fs Lo sc Ln→Nl A n→St B.G σ s→
  Fm s.heap σ Lo.locals Ln ls→Gg B σ ls J P→q9 B.G.M A (V8 e Lo) (PE B σ s.heap ls La t ρ') Er s
def PE.weak (p:PE B σ h ls pu t ρ' v s'):PE B σ h ls La t ρ' v s':=let ⟨m,σ',P',N',x⟩:=p;⟨m,σ',P',N',x.so.weak,x.rep,x.at_,x.dm,x.ap⟩
def zab {x:X} {e:Lb} (hx:∀ev J,Qv x ev J=ev J) (z_:Fj B n sc Ln x e):VO B n sc Ln x e:=⟨by
 intro Lo A s σ ls P J ρ' t e O aa S F W
 rw[hx]at e
 exact q5 (z_.h e O aa S F W) (λv s1 Y=>Y.weak) λH H x=>x⟩
set_option tactic.hygienic true in
def zac {i:Q} {x:Lf} {p:Pos} (hv:Ln[i]?=R x) (hd:(x==(s!"__debug__":Lf))=La):VO B n sc Ln (.var i)<|.Name x p:=⟨by
 intro Lo A s σ ls P J ρ' t e O aa S F W
 simp only[Qv]at e
 have drop:∀t',gt J i=R t'→t=t'→ρ'=J.set i Z→q9 B.G.M A (V8 (.Name x p) Lo) (PE B σ s.heap ls La t ρ') Er s:=by
  intro t' hg ht hr
  subst ht hr
  refine E7 (W.at_ _ _ hg) λm hl ht=>?_
  exact zH O F hv hd hl λv r=>⟨m,σ,_,P i,⟨S,FB.refl _ _,W.drop i,λH H x=>x,λe=>nB e⟩,r,ht,W.dm i,λa j q p=>p.1<|W.dj j i a p.2 q⟩
 split at e
 ·rename_i m hg
  refine qK e λeq1 eq2=>?_;subst eq1 eq2
  refine E7 (W.at_ _ _ hg) λm' hl ht=>?_
  subst ht
  exact zH O F hv hd hl λv r=>PD.pe ⟨r,σ,P,SO.refl S W⟩
 ·rename_i t' _ hg
  refine qK e λeq1 eq2=>?_;clear hv W;subst eq1 eq2
  exact drop _ hg C C
 ·exact nO e⟩
def Ip.upd {f:Fl} {d:w_} {x y:MO} (hd:σ d=R x) (hx:∀l,x≠.list l) (h:Ip σ N' m f):Ip (upd σ d y) N' m f:=by
 induction f with
 |d _=>exact h
 |l l=>
  refine Hs h λa e s q=>?_
  refine⟨a,e,?_,q⟩
  rw[zE];exact s
  rintro C;rw[hd]at s;replace s:=z' s;clear h hd;subst s;exact hx l C
def GB.upd {d:w_} {x y:MO} (hd:σ d=R x) (hx:∀l,x≠.list l) {ks:D<|D Q} {es:D<|D Q×MV} {fs:D Fl} (h:GB σ N' ks es fs):GB (Mine.Internal.upd σ d y) N' ks es fs:=⟨h.1,F2.mono (λH H p=>Ip.upd hd hx p) h.2⟩
set_option tactic.hygienic true in
def wM {k j i:Q} {f:Fl} (e:ye J k j i f=R ρ'):∃c fs fs',gt J j=R (.o c fs)∧M1 c=k∧ρ'=Mine.Internal.st J j (.o c fs')∧((i<fs.length∧fs'=fs.set i f)∨(i=fs.length∧i<(if k=1 then 2 else 3)∧fs'=fs++[f])):=by
 unfold ye at e
 split at e
 ·rename_i c fs hg
  by_cases hk:M1 c=k
  ·rw[Lj<|by simpa using hk]at e
   by_cases Y:i<fs.length
   ·rw[Lh Y]at e;replace e:=z' e;subst e;exact⟨c,fs,_,hg,hk,C,.inl ⟨Y,C⟩⟩
   ·rw[Lj Y]at e
    by_cases T':i=fs.length∧i<(if k=1 then 2 else 3)
    ·rw[Lh T']at e;replace e:=z' e;clear Y;subst e;exact⟨c,fs,_,hg,hk,C,.inr ⟨T'.1,T'.2,C⟩⟩
    ·rw[Lj T']at e;exact nO e
  ·rw[Lh<|by simpa using hk]at e;exact nO e
 ·exact nO e
def GB.put {fs fs':D Fl} {es:D<|D Q×MV} {ks:D<|D Q} {i:Q} {f:Fl} {nm:D Q} (F:GB σ N' ks es fs) (nd:ks.Nodup) (hn:ks[i]?=R nm) (g:Ip σ N' m f)
  (h:(i<fs.length∧fs'=fs.set i f)∨(i=fs.length∧fs'=fs++[f])):GB σ N' ks (qG nm m es) fs':=by
 rcases h with⟨a,C⟩|⟨C,C⟩
 ·exact F.set nd hn a g
 ·exact F.app nd hn g
def Zf {j i k:Q} {x attr:Lf} {xp tp:Pos} {nm:D Q} {f:Fl} {Lo:Env} {v:q4} {m:MV} {I':Unit→q7→Prop} (z9:zN B) (hv:Ln[j]?=R x) (hd:(x==(s!"__debug__":Lf))=La) (hk:k≠0) (hn:(FS k)[i]?=R nm) (ha:attr=E5 nm)
  (O:Fs Lo sc Ln) (F:Fm h σ Lo.locals Ln ls) (x1:SO B σ h ls pu ρ1 s' σ' P1) (r:FP s'.heap v m) (g:Ip σ' N' m f) (dm:∀a,N' a→(σ' a).isSome=f') (ap:wB N' P1) (e:ye ρ1 k j i f=R ρ')
  {ov:q4} (ro:∀q,ls j=R q→FP s'.heap ov q)
  (q:∀s2,(∃σ2 P2,SX B np Ln σ h Lo.locals ls ρ' s2 σ2 ls P2)→I' () s2):q9 B.G.M A (setAttr ov attr v) I' Er s':=by
 refine HX (wM e) λc fs fs' hg U' e5 hfs=>?_
 clear hv;subst e5
 refine E7 (x1.own.at_ _ _ hg) λmo hl T=>?_
 have ro:=ro _ hl
 clear hg;cases c with
 |zero=>exact Lg U'.symm hk
 |succ c=>
  refine M0 T λa d es e3 Y T' p1 p2 hF=>?_
  clear T;subst e3
  subst ro
  subst ha
  have hmem:nm∈FS (c+1):=by(rewrite [←qT];refine rq U' ?_);exact W3 hn
  have hn':(FS<|c+1)[i]?=R nm:=by(rewrite [←qT];refine rq U' ?_);exact hn
  have len:es.length≤900:=by
   have e1:=hF.len;have e2:=hF.lenk;have e3:=yL<|c+1;exact Tw e3 e2 e1
  refine Vt x1.st z9.X (z9.cf c) (z9.af c _ hmem) Y T' r len λs2 S2 T2=>q s2 ?_
  have nad:a≠d:=by rintro C;rw[Y]at T';clear z9 U' q ro hmem len;cases T'
  have O2:Gg B (upd σ' d<|.dict<|qG nm m es) ls (ρ1.set j Z) λi a=>i≠j∧P1 i a:=(x1.own.drop j).cong λi b p=>zE _ _<|by rintro C;exact p.1 (x1.own.dj _ _ _ p.2 p2)
  have hF2:=(hF.upd (y:=.dict<|qG nm m es) T' λH e=>by contradiction).cong (Q':=λa=>P1 j a∨N' a) (λH H=>C) λH p=>.inl p
  have g2:=(g.upd (y:=.dict<|qG nm m es) T' λH e=>by contradiction).cong (Q':=λa=>P1 j a∨N' a) (λH H=>C) λH p=>.inr p
  have hFp:=hF2.put (qv _) hn' g2<|hfs.imp id λz=>⟨z.1,z.2.2⟩
  have T3:I3 B (upd σ' d<|.dict<|qG nm m es) (λa=>P1 j a∨N' a) (.ref a)<|.o (c+1) fs':=⟨a,d,_,C,by refine rq (zE _ _ nad) ?_;exact Y,zJ _ _ _,.inl p1,.inl p2,hFp⟩
  have isS:∀b,(σ' b).isSome=f'→(upd σ' d (.dict<|qG nm m es) b).isSome=f':=λb hb=>by
   by_cases e:b=d
   ·clear Y T' p2 nad hF2 g2 hFp;subst e;rw[zJ];rfl
   ·refine rq (zE _ _ e) ?_;exact hb
  have O3:=O2.put (ls':=ls) (N':=λa=>P1 j a∨N' a) (i:=j) hl (λH H=>C) T3 (λb p=>isS b<|p.elim (x1.own.dm _ _)<|dm b) λb k p hk r=>p.elim (λp=>hk<|x1.own.dj _ _ _ r.2 p) λp=>ap b k p r.2
  have e0:Mine.Internal.st (ρ1.set j Z) j (.o (c+1) fs')=Mine.Internal.st ρ1 j (.o (c+1) fs'):=by unfold Mine.Internal.st;rw[D.set_set]
  rw[e0]at O3
  exact⟨_,_,SO.sx (pu:=La) ⟨S2,x1.step.trans T2,O3,zg x1.te<|x1.st.tupExt T2,λe=>nB e⟩ F⟩
def VP {j i k:Q} {a:X} {x attr:Lf} {e:Lb} {xp tp p:Pos} {nm:D Q} (z9:zN B) (hs:∀Lo,Fs Lo sc Ln→K8 e (R<|.Attribute (.Name x xp) attr tp) p.line Lo=pure La) (hv:Ln[j]?=R x) (hd:(x==(s!"__debug__":Lf))=La) (hk:k≠0)
  (hn:(FS k)[i]?=R nm) (ha:attr=E5 nm) (z_:VO B n sc Ln a e):qo B n np sc Ln (.setF k j i a)<|.Assign [.Attribute (.Name x xp) attr tp] e p:=⟨by
 intro Lo A s σ ls P J ρ' fl e O n0 nd aa S F W
 refine zh e ?_;clear e;intro t ρ1 e1 e
 refine zB e ?_;clear e;intro f ef e
 refine qa e ?_;clear e;intro ρ2 e2 e
 cases e
 refine plainObj_wpAny_Assign_Attribute (q5 (z_.h e1 O aa S F W) (λv s1 Y=>?_) λH H x=>x)<|hs Lo O
 refine N8 Y λm σ1 P1 N' x1=>?_
 have hl:∃q,ls j=R q:=by
  refine II (wM e2) λc fs fs' hg H=>?_
  refine E7 (x1.so.own.at_ _ _ hg) λmo hl H=>?_
  exact⟨mo,hl⟩
 refine Fg hl ?_;clear hl;intro mo hl
 refine zH O (x1.so.fm F) hv hd hl λov ro=>?_
 refine Zf (tp:=tp) (xp:=xp) z9 hv hd hk hn ha O F x1.so x1.rep (Ip.th x1.at_ ef) x1.dm x1.ap e2 (λq hq=>by rw[hl]at hq;replace hq:=z' hq;clear hl;subst hq;exact ro) λs2 ⟨σ2,P2,X⟩=>⟨σ2,ls,P2,X,trivial⟩⟩
end
mutual section
variable {B:Gu} {n np:Q} {σ σ' σ'':MH} {h h':y9} {ls ls' ls'':Q→Lc MV} {pu pu':Ld} {t:Th} {m:MV} {J ρ' ρ'' ρ1 ρ2:Ev} {v:q4} {s s' s'':q7} {P P' P'' P1 P2:Q→Fp} {A:Z6}
variable {sc:w7} {Ln:D Lf} {N':Fp} {L:w_} {fl:Fw}
def zec {σ:MH} {d:w_} {x:MO}:∀b,(σ b).isSome=f'→(upd σ d x b).isSome=f':=λb hb=>by
 by_cases e:b=d
 ·(refine rq e ?_;rw[zJ]);rfl
 ·refine rq (zE _ _ e) ?_;exact hb
def zi1 {j:Q} {t:Th}:Mine.Internal.st (J.set j Z) j t=Mine.Internal.st J j t:=D.set_set ..
def VQ {j i:Q} {a:X} {x key:Lf} {e:Lb} {xp tp p kp:Pos} {kk:Q} {nm:D Q} (hs:∀Lo,Fs Lo sc Ln→K8 e (R<|.Subscript (.Name x xp) (.Constant (.str key) kk kp) tp) p.line Lo=pure La) (hv:Ln[j]?=R x) (hd:(x==(s!"__debug__":Lf))=La)
  (hn:(FS 0)[i]?=R nm) (ha:key=E5 nm) (z_:VO B n sc Ln a e):qo B n np sc Ln (.setF 0 j i a)<|.Assign [.Subscript (.Name x xp) (.Constant (.str key) kk kp) tp] e p:=⟨λ{Lo A s σ ls P J ρ' fl} e O n0 nd aa S F W=>
 zh (o:=Qv a (E0 B.P (EZ B.P B.W n) a) J) e λt ρ1 e1 e=>zB e λf ef e=>qa e λρ2 e2 e=>by
  cases e
  refine wpAny_Assign_Subscript (q5 (z_.h e1 O aa S F W) (λv s1 ⟨m,σ1,P1,N',x1⟩=>?_) λH H x=>x)<|hs Lo O
  refine HX (wM e2) λc fs fs' hg U' e3 hfs=>?_
  subst e3
  cases XE U'
  refine E7 (x1.so.own.at_ _ _ hg) λmo hl T=>Og T λa es em Y p1 hF=>?_
  clear hs T;subst em ha
  refine zH O (x1.so.fm F) hv hd hl λov ro=>V2 ?_
  refine rq ro.ref_i ?_
  have len:es.length≤900:=by
   have e1:=hF.len;have e2:=hF.lenk;have e3:=yL 0;exact Tw e3 e2 e1
  have S1:=x1.so.st.toks<|s1.toks+1
  refine Vv S1 Y (hF.nodup<|qv _) len x1.rep λs2 S2 T2=>?_
  have hF2:=(hF.upd (y:=.dict<|qG nm m es) Y λH e=>by contradiction).cong (Q':=λa=>P1 j a∨N' a) (λH H=>C) λH p=>.inl p
  have g2:=((Ip.th x1.at_ ef).upd (y:=.dict<|qG nm m es) Y λH e=>by contradiction).cong (Q':=λa=>P1 j a∨N' a) (λH H=>C) λH p=>.inr p
  have T3:I3 B (upd σ1 a<|.dict<|qG nm m es) (λa=>P1 j a∨N' a) (.ref a)<|.o 0 fs':=⟨a,_,C,zJ _ _ _,.inl p1,hF2.put (qv _) hn g2<|hfs.imp id λz=>⟨z.1,z.2.2⟩⟩
  have O3:=((x1.so.own.drop j).cong λi b p=>zE _ _ λe=>p.1 (x1.so.own.dj _ _ _ p.2<|e▸p1):Gg B (upd σ1 a<|.dict<|qG nm m es) ls (ρ1.set j Z) λi a=>i≠j∧P1 i a).put (ls':=ls) (N':=λa=>P1 j a∨N' a) (i:=j) hl (λH H=>C) T3 (λb p=>zec b<|p.elim (x1.so.own.dm _ _)<|x1.dm b) λb k p hk r=>p.elim (λp=>hk<|x1.so.own.dj _ _ _ r.2 p) λp=>x1.ap b k p r.2
  replace O3:=zi1▸O3
  exact⟨_,ls,_,SO.sx (pu:=La) ⟨S2,x1.so.step.trans T2,O3,zg x1.so.te<|S1.tupExt T2,λe=>nB e⟩ F,trivial⟩⟩
def zi2 {α:Type} {J:Ev} {k j i:Q} {f:MV→Lc α} {r:α} (e:(match jP J k j i with|R (.d y)=>f y|_=>Z)=R r) {G:Prop} (q:∀y,jP J k j i=R (.d y)→f y=R r→G):G:=by
 induction h:jP J k j i with
 |Z=>replace e:=h▸e;exact nO e
 |R t=>
  replace e:=h▸e
  induction t with
  |d y=>exact q y h e
  |_=>exact nO e
def VR {j i k:Q} {o:Ph} {po:Y2} {a:X} {x attr:Lf} {e:Lb} {xp tp p:Pos} {nm:D Q} (z9:zN B) (ho:MK o po) (hv:Ln[j]?=R x) (hd:(x==(s!"__debug__":Lf))=La) (hk:k≠0)
  (hn:(FS k)[i]?=R nm) (ha:attr=E5 nm) (z_:Fj B n sc Ln a e):qo B n np sc Ln (.augF k j i o a)<|.AugAssign (.Attribute (.Name x xp) attr tp) po e p:=⟨λ{Lo A s σ ls P J ρ' fl} e O n0 nd aa S F W=>
 zi2 e λm0 hf e=>zh e λt ρ1 e1 e=>zB e λy ey e=>zB e λz ez e=>qa e λρ2 e2 e=>ZN hf λc fs hg U' hi=>E7 (W.at_ _ _ hg) λmo hl T=>wpAny_AugAssign_AttributeAny (zH O F hv hd hl λov ro=>by
  cases e
  clear hg;cases c with
  |zero=>exact Lg U'.symm hk
  |succ c=>
   refine M0 T λaa' d es em Y T' p1 p2 hF=>Fv (hF.get (qv _) hi) λk' m' g1 g2 g3=>?_
   (rw[←qT]at g1;replace g1:=U'▸g1;replace g1:=hn▸g1)
   have g1:=z' g1;subst g1
   clear T p1 g1;subst em ha
   refine rq ro.ref_i ?_
   refine q5 (xV (k:=λm τ=>m=m0∧τ=σ) S z9.X (z9.cf c) (z9.af c _<|by(rewrite [←qT];refine rq U' ?_);exact W3 hn) Y T' ((g3:m'=m0)▸g2) ⟨C,C⟩) (λold s0 h0=>qk (Vz (SO.refl (pu:=f') S W) h0) λr0 h0=>Ib h0 λσ0 P0 x0=>?_) λH H x=>x
   refine z_.d ⟨O,aa,x0.st,x0.fm F,x0.own⟩ e1 ey λw s1 σ1 P1 r1 x1 c1=>q5 (oY ho x1.st (r0.ext x1.te) r1 ez) (λw2 s2 h2'=>qk (Vz (x0.trans x1) h2') λr2 T'=>Ib T' λσ2 P2 x2=>?_) λH H x=>x
   exact Zf (m:=z) (N':=λH=>False) (tp:=tp) (xp:=xp) z9 hv hd hk hn C O F x2 r2 (f:=.d z) C (λH h=>h.elim) (λH H h=>h.elim) e2 (λq hq=>by replace hq:=hl▸hq;have hq:=z' hq;clear Y hl ro;subst hq;exact .ref _) λs2 ⟨σ2,P2,X⟩=>⟨σ2,ls,P2,X,trivial⟩)⟩
abbrev OQ (ls ls':Q→Lc MV) (is:D Q) (ms:D MV):Prop:=(∀(k i:Q) (m:MV),is[k]?=R i→ms[k]?=R m→ls' i=R m)∧∀j,j∉is→ls' j=ls j
def Iz:∀{is:D Q} {ms:D MV} {ls:Q→Lc MV},is.Nodup→OQ ls (yR ls is ms) is ms
 |[],ms,ls,_=>⟨λk i m e H=>by simp at e,λH H=>by induction ms<;>rfl⟩
 |i::is,[],ls,_=>⟨λk i m H e=>by simp at e,λH H=>C⟩
 |i::is,m::ms,ls,nd=>by
  rw[Bg]at nd
  refine qk (Iz (is:=is) (ms:=ms) (ls:=OP ls i m) nd.2) λa b=>?_
  refine⟨λk i' m' e1 e2=>?_,λj hj=>?_⟩
  ·induction k with
   |zero=>
    simp at e1 e2;subst e1 e2
    refine(?_:yR (OP ls i m) is ms i=_)
    refine rq (b i nd.1) ?_;exact Gf
   |succ k=>exact a k i' m' (by simpa using e1)<|by simpa using e2
  ·refine(?_:yR (OP ls i m) is ms j=_)
   refine rq (b j λh=>hj (q_ _ h)) ?_
   exact jj λh=>hj<|h▸j0 ..
def QJ {i:Q} {is:D Q} {t:Th} {U:D Th} (e:jU np (i::is) (t::U) J=R ρ') {G:Prop} (k:np≤i→jU np is U (Mine.Internal.st J i t)=R ρ'→G):G:=by
 replace e:(if np≤i∧i<J.length then jU np is U (Mine.Internal.st J i t)else Z)=R ρ':=e
 by_cases h:np≤i∧i<J.length
 ·exact k h.1<|(Lh h).symm.trans e
 ·clear k;cases (Lj h).symm.trans e
def yW {U:D Th}:∀{is:D Q} {J ρ':Ev} {ms:D MV} {ls ls':Q→Lc MV} {P PV:Q→Fp},jU np is U J=R ρ'→is.Nodup→Gg B σ ls J P→Gg B σ (λi=>ms[i]?) (U.map R) PV→(∀i j a,PV i a→¬P j a)→
  U.length=ms.length→OQ ls ls' is ms→(∃P',Gg B σ ls' ρ' P')∧∀i∈is,np≤i:=by
 induction U with
 |nil=>
  intro is J ρ' ms ls ls' P PV e nd O OV d hl z6
  induction is with
  |nil=>
   replace e:=z' e;subst e
   refine rq (funext λj=>z6.2 j λh=>nomatch h:ls'=ls) ?_
   exact⟨⟨P,O⟩,λH h=>nomatch h⟩
  |cons i is=>exact nO e
 |cons t U ih=>
  intro is J ρ' ms ls ls' P PV e nd O OV d hl z6
  induction is with
  |nil=>exact nO e
  |cons i is=>
   clear tail_ih;induction ms with
   |nil=>contradiction
   |cons m ms=>
    refine QJ e λhi e=>qk (Bg.mp nd) λnd1 nd2=>E7 (OV.at_ 0 t C) λm' hm T=>?_
    replace hm:=z' hm;clear tail_ih;subst hm
    refine qk (ih (ls':=ls') e nd2 (O.put (N':=PV 0) Gf (λj hj=>jj hj) T (OV.dm 0) λa j q H=>d _ _ _ q) OV.tail (λk j a p q=>?_) (B3 hl) ⟨λk i' m' e1 e2=>z6.1 (k+1) i' m' e1 e2,λj hj=>?_⟩) λI' z8=>⟨I',λk hk=>(w3.mp hk).elim (λh=>h▸hi)<|z8 k⟩
    ·by_cases hj:j=i
     ·replace q:=(Lh hj)▸q;clear T;cases OV.dj _ _ _ p q
     ·replace q:=(Lj hj)▸q;exact d _ _ _ p q
    ·by_cases h:j=i
     ·(refine rq h ?_;refine rq (z6.1 0 i m C C) ?_;exact rq Gf C)
     ·(refine rq (z6.2 j λq=>(w3.mp q).elim h hj) ?_;exact rq (jj h) C)
def yX {U:D Th}:∀{is:D Q} {J ρ':Ev},jU np is U J=R ρ'→is.length=U.length:=by
 induction U with
 |nil=>intro is J ρ' e;induction is<;>first|rfl|exact nO e
 |cons t U ih=>
  intro is J ρ' e
  induction is with
  |nil=>exact nO e
  |cons i is=>exact QJ e λH e=>Li (· +1)<|ih e
def zad {l:D MV}:Gg B σ (λi=>l[i]?) ((l.map Th.d).map R) λH H=>False:=
 ⟨λi t e=>by
  unfold gt at e
  (replace e:=DV▸e;replace e:=(D.getElem?_map)▸e)
  induction q:l[i]? with
  |Z=>replace e:=q▸e;exact nO e
  |R m=>replace e:=q▸e;replace e:=z' e;clear q;subst e;exact⟨m,C,C⟩,λH H H h=>h.elim,λH H h=>h.elim⟩
def zae {is:D Q} {a:X} {elts:D Lb} {k:Q} {e:Lb} {tp p:Pos} (hs:∀Lo,Fs Lo sc Ln→C6 [.Tuple elts k tp] e p.line Lo=pure La) (hw:∀Lo,Fs Lo sc Ln→Bk [.Tuple elts k tp] e Lo=pure Z) (T:NF Ln elts is) (ni:is.Nodup)
  (z_:Fj B n sc Ln a e):qo B n np sc Ln (.unp is a)<|.Assign [.Tuple elts k tp] e p:=⟨λ{Lo A s σ ls P J ρ' fl} e O n0 nd aa S F W=>
 zh (o:=E0 B.P (EZ B.P B.W n) a J) e λt ρ1 e1 e=>by
  cases t with
  |d y=>
   cases y with
   |tup l=>
    refine qa e λρ2 e2 e=>Assign_Tuple (z_.d ⟨O,aa,S,F,W⟩ e1 C λv s1 σ1 P1 r1 x1 c1=>?_) (hs Lo O)<|hw Lo O
    cases e
    rw[DH]
    refine q6<|J_<|vk O n0 nd T aa.hd (x1.fm F) x1.st r1 ((yX e2).trans<|j9 ..) λs2 S2 F2 b2=>?_
    exact qk (yW (np:=np) e2 ni x1.own zad (λH H H h=>h.elim) (j9 ..)<|Iz (ls:=ls) ni) λh z8=>Fg h λP' O'=>⟨σ1,_,P',⟨S2,⟨λa o e n l=>b2.keep a o l<|x1.step.un a o e n,x1.step.dom⟩,O',zg x1.te b2.te,F2,λj hj=>(Iz ni).2 j λh=>V0 _<|v_ hj<|z8 j h⟩,trivial⟩
   |_=>exact nO e
  |_=>exact nO e⟩
abbrev PVs (B:Gu) (σ:MH) (h:y9) (ls:Q→Lc MV) (U:D Th) (ρ':Ev) (vs:D q4) (s':q7):Prop:=
 ∃ms σ' P' PV,FJ s'.heap vs ms∧SO B σ h ls La ρ' s' σ' P'∧Gg B σ' (λi=>ms[i]?) (U.map R) PV∧(∀i j a,PV i a→¬P' j a)∧U.length=ms.length
structure QK (B:Gu) (n:Q) (sc:w7) (Ln:D Lf) (x:X) (es:D Lb):Prop where
 h:∀{Lo:Env} {A:Z6} {s:q7} {σ:MH} {ls:Q→Lc MV} {P:Q→Fp} {J ρ':Ev} {U:D Th} {pos:Pos},ac B.P (EZ B.P B.W n) x J=R (U,ρ')→Fs Lo sc Ln→Nl A n→St B.G σ s→
  Fm s.heap σ Lo.locals Ln ls→Gg B σ ls J P→q9 B.G.M A (BW<|BH pos<|W9 es Lo) (PVs B σ s.heap ls U ρ') Er s
def Rh:QK B n sc Ln .nil []:=⟨λ{_ _ _ σ _ P _ _ _ _} e O aa S F W=>by
 refine qK e λeq1 eq2=>?_;clear e;subst eq1 eq2
 exact Z7 ⟨[],σ,P,λH H=>False,.nil,SO.refl S W,Gg.none (λH H H h=>h.elim) λH H h=>h.elim,λH H H h=>h.elim,C⟩⟩
def Kn {a b:X} {ex:Lb} {es:D Lb} (hs:qw ex es) (Ha:Fj B n sc Ln a ex) (Hb:QK B n sc Ln b es):QK B n sc Ln (.cons a b)<|ex::es:=⟨λ{Lo A s σ ls P J ρ' U pos} e O aa S F W=>
 zh (o:=E0 B.P (EZ B.P B.W n) a J) e λt ρ1 e1 e=>wH e λHC ρ2 e2 e=>by
  cases e
  refine w4 (q5 (Ha.h e1 O aa S F W) (λv s1 hh=>N8 hh λm σ1 P1 N' x1=>q5 (Hb.h e2 O aa (x1.so.st.le<|jG _ _) (x1.so.fm F).res<|x1.so.own.res x1.ap) (λvs s2 hh=>U_ hh λms σ2 P2 PV rl x2 OV d hl=>?_) λH H x=>x) λH H x=>x)<|hs Lo
  refine Fg (XB x1.so x1.at_ x1.dm x2) λσ3 h3=>ZB h3 λx3 T3 dm3 ap3 h4=>qk h4 λnew3 fr3=>?_
  exact⟨m::ms,σ3,P2,yQ N' PV,.cons (x1.rep.ext x2.te) rl,x3,(OV.cong (σ':=σ3) λi a p=>new3 a<|OV.dm _ _ p).cons T3 dm3 λi a p q=>(by have:=OV.dm _ _ p;replace this:=(fr3 a q)▸this;exact nB this),
   λi j a p=>qI (G':=λa=>∀j,¬P2 j a) (λa q j=>ap3 a j q) (λi a p j=>d i j a p) i a p j,Li (· +1) hl⟩⟩
inductive Ko (Ln:D Lf):D Lf→D Q→Prop where
 |nil:Ko Ln [] []
 |cons {x:Lf} {i:Q} {xs:D Lf} {is:D Q}:Ln[i]?=R x→Ko Ln xs is→Ko Ln (x::xs) (i::is)
def QL {Lo:Env} {E:q4→q7→Prop} (O:Fs Lo sc Ln) (n0:B.G.h0.get? Lo.locals=Z) (nd:Ln.Nodup) {xs:D Lf} {is:D Q} (T:Ko Ln xs is):∀{s:q7} {ls:Q→Lc MV} {vs:D q4} {ms:D MV} {N':Unit→q7→Prop},
  Fm s.heap σ Lo.locals Ln ls→St B.G σ s→FJ s.heap vs ms→is.length=ms.length→(∀s',St B.G σ s'→Fm s'.heap σ Lo.locals Ln (yR ls is ms)→Hx Lo.locals s s'→N' () s')→
  q9 B.G.M A (Cj (xs.map λx=>bindName Lo x) vs) N' E s:=by
 induction T with
 |nil=>
  intro s ls vs ms N' F S r hl q
  induction ms with
  |nil=>cases r.nil_i;exact j4<|q s S F .refl
  |cons _ _=>contradiction
 |cons hv T ih=>
  intro s ls vs ms N' F S r hl q
  induction ms with
  |nil=>contradiction
  |cons m ms=>
   refine r.cons_i λv ws eC r1 r2=>?_
   clear tail_ih r;subst eC
   refine rq w5 ?_
   refine(?_:q9 _ _ (Dp _ (bindName Lo _ _)>>=λH=>Cj _ _) _ _ _)
   refine q6<|Bj<|wpAny_bindName<|zX O F n0 nd hv r1 S λs1 S1 F1 b1=>?_
   exact ih F1 S1 (r2.ext b1.te) (by simpa using hl) λs2 S2 F2 b2=>q s2 S2 F2<|b1.trans b2
def FJ.reverse {h:y9} {vs:D q4} {ms:D MV} (r:FJ h vs ms):FJ h vs.reverse ms.reverse:=by
 induction ms generalizing vs with
 |nil=>cases r.nil_i;exact .nil
 |cons m ms ih=>exact r.cons_i λv ws e a b=>by clear r;subst e;(refine rq CR ?_;refine rq CR ?_);exact(ih b).append #[a]
def OQ.rev {is:D Q} {ms:D MV} (hl:is.length=ms.length) (z6:OQ ls ls' is.reverse ms.reverse):OQ ls ls' is ms:=by
 refine⟨λk i m e1 e2=>?_,λj hj=>z6.2 j<|by simpa using hj⟩
 have hk:k<is.length:=(D.getElem?_eq_some_iff.mp e1).1
 refine z6.1 (is.length -1 -k) i m ?_ ?_
 ·refine rq (D.getElem?_reverse<|oH hk) ?_;refine rq (zg1 hk:is.length -1 -(is.length -1 -k)=k) ?_;exact e1
 ·refine rq (D.getElem?_reverse<|zo9 hk hl) ?_;refine rq (zpa hk hl:ms.length -1 -(is.length -1 -k)=k) ?_;exact e2
def VS {is:D Q} {xs:X} {elts vals:D Lb} {k k2:Q} {tp vp p:Pos} {ow:Lc<|D Lf} (hs:∀Lo,C6 [.Tuple elts k tp] (.Tuple vals k2 vp) p.line Lo=pure La) (hw:∀Lo,Fs Lo sc Ln→Bk [.Tuple elts k tp] (.Tuple vals k2 vp) Lo=pure ow)
  (T:NF Ln elts is) (ho:∀names,ow=R names→Ko Ln names.reverse is.reverse∧names.length=is.length) (ni:is.Nodup) (hz:is.length≤100) (z_:QK B n sc Ln xs vals):qo B n np sc Ln (.asgT is xs)<|.Assign [.Tuple elts k tp] (.Tuple vals k2 vp) p:=⟨by
 intro Lo A s σ ls P J ρ' fl e O n0 nd aa S F W
 refine zh e ?_;clear e;intro U ρ1 e1 e
 refine qa e ?_;clear e;intro ρ2 e2 e
 cases e
 have hlen:=yX e2
 have fin:∀{v s1},(∃a vs ms σ1 P1 PV nn,v=.ref a∧s1.heap.get? a=R (ZC vs nn)∧FJ s1.heap vs ms∧SO B σ s.heap ls La ρ1 s1 σ1 P1∧Gg B σ1 (λi=>ms[i]?) (U.map R) PV∧(∀i j a,PV i a→¬P1 j a)∧U.length=ms.length)→
   (∀(N':Unit→q7→Prop),(∀s2 σ1 P1 PV ms ls',SO B σ s.heap ls La ρ1 s1 σ1 P1→Gg B σ1 (λi=>ms[i]?) (U.map R) PV→(∀i j a,PV i a→¬P1 j a)→U.length=ms.length→St B.G σ1 s2→Fm s2.heap σ1 Lo.locals Ln ls'→OQ ls ls' is ms→Hx Lo.locals s1 s2→N' () s2)→
    (ow=Z→q9 B.G.M A (BA (.Tuple elts k tp) Lo v) N' Er s1)∧∀names,ow=R names→q9 B.G.M A (unpackItems v names.length Z) (λitems s2=>q9 B.G.M A (Cj (names.reverse.map λn=>bindName Lo n) items.reverse) N' Er s2) Er s1):=by
  rintro v s1 ⟨a,vs,ms,σ1,P1,PV,nn,C,ha,rl,x1,OV,d,hl⟩ N' q
  have hT:Ic s1.heap a vs:=⟨nn,ha⟩
  refine⟨λH=>?_,λnames hn=>?_⟩
  ·rw[DH]
   refine q6<|J_<|wpAny_unpack_tuple aa.hd hT.isTuple (by(refine rq T.star.1 ?_;refine rq X3 ?_;refine rq rl.length ?_;refine rq hlen ?_;exact rq hl C)) T.star.2 λh' he=>?_
   have ex:∀b o,s1.heap.get? b=R o→h'.get? b=R o:=λb o e=>he b o (Z3<|Z2 e) e
   have S1:St B.G σ1 {s1 with heap:=h'}:=x1.st.ext (t:=s1.toks) ex
   have te:zQ s1.heap h':=λa vs ⟨k,e⟩=>⟨k,ex _ _ e⟩
   refine yh O n0 nd T (s:={s1 with heap:=h'}) ((x1.fm F).step (FB.ext ex) te) S1 (rl.ext te) (by(refine rq hlen ?_;exact rq hl C)) λs2 S2 F2 b2=>?_
   exact q s2 σ1 P1 PV ms _ x1 OV d hl S2 F2 (Iz ni) ⟨λb o n e=>b2.keep b o n<|ex b o e,zg te b2.te⟩
  ·refine qk (ho names hn) λTN hnl=>?_
   have hsz:names.length=vs.toArray.size:=by(refine rq X3 ?_;refine rq hnl ?_;refine rq hlen ?_;refine rq hl ?_;exact rq rl.length C)
   refine rq hsz ?_
   refine wpAny_unpackItems_tuple aa.hd hT.isTuple λh' he=>?_
   have ex:∀b o,s1.heap.get? b=R o→h'.get? b=R o:=λb o e=>he b o (Z3<|Z2 e) e
   have S1:St B.G σ1 {s1 with heap:=h'}:=x1.st.ext (t:=s1.toks) ex
   have te:zQ s1.heap h':=λa vs ⟨k,e⟩=>⟨k,ex _ _ e⟩
   refine QL O n0 nd TN (s:={s1 with heap:=h'}) ((x1.fm F).step (FB.ext ex) te) S1 (by simpa using(rl.ext te).reverse) (by simp[hlen,hl]) λs2 S2 F2 b2=>?_
   exact q s2 σ1 P1 PV ms _ x1 OV d hl S2 F2 (OQ.rev (by(refine rq hlen ?_;exact rq hl C))<|Iz<|by unfold Et at ni⊢;rw[D8];exact ni.imp Ne.symm) ⟨λb o n e=>b2.keep b o n<|ex b o e,zg te b2.te⟩
 have post:∀{s1:q7} s2 σ1 P1 PV ms ls',SO B σ s.heap ls La ρ1 s1 σ1 P1→Gg B σ1 (λi=>ms[i]?) (U.map R) PV→(∀i j a,PV i a→¬P1 j a)→U.length=ms.length→St B.G σ1 s2→Fm s2.heap σ1 Lo.locals Ln ls'→OQ ls ls' is ms→Hx Lo.locals s1 s2→
   PS B np Ln σ s.heap Lo.locals ls .nx ρ' .next s2:=by
  intro s1 s2 σ1 P1 PV ms ls' x1 OV d hl S2 F2 z6 b2
  obtain⟨⟨P',O'⟩,z8⟩:=yW (np:=np) e2 ni x1.own OV d hl z6
  exact⟨σ1,ls',P',⟨S2,⟨λa o e n l=>b2.keep a o l<|x1.step.un a o e n,x1.step.dom⟩,O',zg x1.te b2.te,F2,λj hj=>z6.2 j λh=>by have:=z8 j h;exact zpb this hj⟩,trivial⟩
 have ev:∀{N':q4→q7→Prop},(∀v s1,(∃a vs ms σ1 P1 PV nn,v=.ref a∧s1.heap.get? a=R (ZC vs nn)∧FJ s1.heap vs ms∧SO B σ s.heap ls La ρ1 s1 σ1 P1∧Gg B σ1 (λi=>ms[i]?) (U.map R) PV∧(∀i j a,PV i a→¬P1 j a)∧U.length=ms.length)→N' v s1)→q9 B.G.M A (V8 (.Tuple vals k2 vp) Lo) N' Er s:=by
  intro N' q
  refine wpAny_Tuple<|q5 (z_.h e1 O aa S F W) (λvs s1 Y=>?_) λH H x=>x
  refine U_ Y λms σ1 P1 PV rl x1 OV d hl=>?_
  refine⟨?_,q _ _ ⟨_,vs,ms,σ1,P1,PV,0,C,Heap.get?_push_size _ C,rl.ext<|zj _ _,x1.more (x1.st.push _)<|FB.push _ _ _,OV,d,hl⟩⟩
  (refine rq rl.length ?_;refine rp hl ?_;refine rp hlen ?_;refine rq W_ ?_)
  exact Ga hz omT
 clear ho;cases how:ow with
 |Z=>exact Assign_Tuple (ev λv s1 Y=>(fin Y (λH s2=>PS B np Ln σ s.heap Lo.locals ls .nx ρ' .next s2) λs2 σ1 P1 PV ms ls' a b c d e f g hh=>post s2 σ1 P1 PV ms ls' a b c d e f g hh).1 how) (hs Lo)<|by(refine rq (hw Lo O) ?_;exact rq how C)
 |R names=>exact Assign_Tuple_swapped (ev λv s1 Y=>(fin Y (λH s2=>PS B np Ln σ s.heap Lo.locals ls .nx ρ' .next s2) λs2 σ1 P1 PV ms ls' a b c d e f g hh=>post s2 σ1 P1 PV ms ls' a b c d e f g hh).2 names how) (hs Lo)<|by(refine rq (hw Lo O) ?_;exact rq how C)⟩
def iP {α:Type} {c:Prop} [Decidable c] {x:Lc α} {z:α} (e:(if c then x else Z)=R z) {G:Prop} (k:c→x=R z→G):G:=by
 by_cases h:c
 ·exact k h<|(Lh h).symm.trans e
 ·clear k;cases (Lj h).symm.trans e
def zaf {t:X} {b:S} {te:Lb} {sb:D Q9} {p:Pos} (Ht:Go B n sc Ln t te) (Hb:wL B n np sc Ln b sb):qo B n np sc Ln (.whl t b)<|.While te sb [] p:=⟨by
 intro Lo A s σ ls P J ρ' fl e O n0 nd aa S F W
 let I:Q→q7→Prop:=λk s0=>∃ρk σk lsk Pk,qj (E0 B.P (EZ B.P B.W n) t) (Fc B.P (EZ B.P B.W n) B.W np b) k ρk=R (fl,ρ')∧SX B np Ln σ s.heap Lo.locals ls ρk s0 σk lsk Pk
 refine wpAny_While<|codeAny_whileLoop I (λk s0 hI=>kL ?_) B.W ⟨J,σ,ls,P,e,SX.refl S F W⟩
 refine U9 hI λρk σk lsk Pk el X=>?_
 clear hI;cases k with
 |zero=>exact nO el
 |succ k=>
  refine zh el λx ρ1 e1 el=>zB el λc ec el=>?_
  cases qH ec
  refine Ht.tt ⟨O,aa,X.st,X.fm,X.own⟩ e1 λs1 σ1 P1 x1 c1=>?_
  have X1:=X.trans<|x1.sx X.fm
  clear e1 ec;cases c with
  |La=>
   refine qK el λeq1 eq2=>?_;clear e x1 c1;subst eq1 eq2
   exact DP ⟨σ1,lsk,P1,X1,trivial⟩
  |f'=>
   refine zh el λf1 ρ2 e2 el=>kL<|q5 (Hb.h e2 O n0 nd aa X1.st X1.fm X1.own) (λf s2 T'=>U8 T' λσ2 ls2 P2 T'=>qk T' λx2 y2=>?_) λH H x=>x
   have X2:=X1.trans x2
   clear e2 T';cases f1 with
   |nx=>
    clear T';cases f with
    |next=>exact⟨k,Ba k,ρ2,σ2,ls2,P2,el,X2⟩
    |_=>exact y2.elim
   |br=>
    refine qK el λeq1 eq2=>?_;clear x2 e T';subst eq1 eq2
    cases f with
    |brk=>exact⟨σ2,ls2,P2,X2,trivial⟩
    |_=>exact y2.elim
   |rt v=>
    refine qK el λeq1 eq2=>?_;clear el e;clear x2 T';subst eq1 eq2
    cases f with
    |ret v=>exact⟨σ2,ls2,P2,X2,y2⟩
    |_=>exact y2.elim⟩
def Fm.but {L it:w_} (F:Fm s.heap σ L Ln ls) (b:Hx it s s') (hne:L≠it):Fm s'.heap σ L Ln ls:=by
 refine cps λGG kk=>?_
 obtain⟨mm,⟨o,es,ep,ho,r⟩,hl⟩:=F.ns
 refine kk ?_
 exact⟨⟨mm,⟨o,es,ep,b.keep _ _ hne ho,r⟩,λi m e=>let ⟨x,v,a,bb,c⟩:=hl i m e;⟨x,v,a,bb,c.ext b.te⟩⟩,F.no⟩
def QM {i:Q} {b:S} {x:Lf} {xp:Pos} {sb:D Q9} {Lo:Env} {it:w_} {l:D MV} {s1:q7} {σ1:MH} {ls1:Q→Lc MV} {Q':Flow→q7→Prop} {E':q4→q7→Prop} (hv:Ln[i]?=R x) (hi:np≤i) (Hb:wL B n np sc Ln b sb)
  (O:Fs Lo sc Ln) (n0:B.G.h0.get? Lo.locals=Z) (nd:Ln.Nodup) (aa:Nl A n) (X0:SX B np Ln σ h Lo.locals ls J s1 σ1 ls1 P1) (It:HI s1.heap it Z l) (fit:σ1 it=Z) (f0:B.G.h0.get? it=Z) (nL:it≠Lo.locals) (fr:∀b ob,h.get? b=R ob→σ b=Z→b≠it)
  (e:jr (λm J=>if i<J.length then Fc B.P (EZ B.P B.W n) B.W np b (Mine.Internal.st J i<|.d m)else Z) l J=R (fl,ρ')) (q:∀f s',PS B np Ln σ h Lo.locals ls fl ρ' f s'→Q' f s'):
  Y_ B.G.M A (.forLoop (.Name x xp) (.ref it) sb [] Lo) (λr s'=>match r with| .ok f=>Q' f s'| .error e=>E' e s') s1:=by
 let I:Q→q7→Prop:=λk s0=>∃todo ρk σk lsk Pk,k=todo.length∧jr (λm J=>if i<J.length then Fc B.P (EZ B.P B.W n) B.W np b (Mine.Internal.st J i<|.d m)else Z) todo ρk=R (fl,ρ')∧SX B np Ln σ h Lo.locals ls ρk s0 σk lsk Pk∧HI s0.heap it Z todo∧σk it=Z
 refine codeAny_forLoop I (λk s0 hI=>kL ?_) l.length ⟨l,J,σ1,ls1,P1,C,e,X0,It,fit⟩
 clear X0 It fit;obtain⟨todo,ρk,σk,lsk,Pk,C,el,X,I0,fk⟩:=hI
 have un:∀{s2 s3:q7},Hx it s2 s3→∀a o,h.get? a=R o→σ a=Z→s2.heap.get? a=R o→s3.heap.get? a=R o:=λb a o e n e2=>b.keep a o (fr a o e n) e2
 cases todo with
 |nil=>
  refine qK el λeq1 eq2=>?_;subst eq1 eq2
  refine I0.stop aa.hd λh6 b6=>?_
  refine DP<|q _ _ ⟨σk,lsk,Pk,⟨X.st.but fk f0 b6 C C,⟨λa o e n l=>un b6 a o e n<|X.step.un a o e n l,X.step.dom⟩,X.own,zg X.te b6.te,X.fm.but b6<|Ne.symm nL,X.pr⟩,trivial⟩
 |cons m rest=>
  refine zh el λf1 ρ2 e2 el=>iP e2 λhlt e2=>?_
  ·refine I0.next λv h6 tk r6 I6 b6=>?_
   have S6:St B.G σk {s0 with heap:=h6,toks:=tk}:=X.st.but fk f0 b6 C C
   refine V7<|zX (s:={s0 with heap:=h6,toks:=tk}) O (X.fm.but b6 (Ne.symm nL):Fm h6 σk Lo.locals Ln lsk) n0 nd hv r6 S6 λs7 S7 F7 b7=>?_
   have O7:Gg B σk (OP lsk i m) (Mine.Internal.st ρk i<|.d m) _:=X.own.putD Gf λj hj=>jj hj
   refine kL<|q5 (Hb.h e2 O n0 nd aa S7 F7 O7) (λf s8 h8=>?_) λH H x=>x
   refine II h8 λσ8 ls8 P8 x8 y8=>?_
   have X8:=(⟨S7,⟨λa o e n l=>b7.keep a o l<|un b6 a o e n<|X.step.un a o e n l,X.step.dom⟩,O7,zg X.te<|zg b6.te b7.te,F7,λj hj=>(jj<|oF hi hj).trans<|X.pr j hj⟩:SX B np Ln σ h Lo.locals ls (Mine.Internal.st ρk i<|.d m) s7 σk (OP lsk i m) _).trans x8
   have I7:HI s7.heap it Z rest:=I6.keep (λob e=>b7.keep _ ob nL e) (λH e=>nO e) b7.te
   have f8:σ8 it=Z:=by
    refine II (vm I7) λob H H ho H=>?_
    exact x8.step.dom it ob ho fk
   clear e2 h8;cases f1 with
   |nx=>
    cases f with
    |next=>exact⟨rest.length,by simp,rest,ρ2,σ8,ls8,P8,C,el,X8,(I7.keep (λob e=>x8.step.un it ob e fk nL) (λH e=>nO e) x8.te:HI s8.heap it Z rest),f8⟩
    |_=>exact y8.elim
   |br=>
    refine qK el λeq1 eq2=>?_;clear e x8 e2;subst eq1 eq2
    cases f with
    |brk=>exact q _ _ ⟨σ8,ls8,P8,X8,trivial⟩
    |_=>exact y8.elim
   |rt v=>
    refine qK el λeq1 eq2=>?_;clear el e;clear x8 e2;subst eq1 eq2
    cases f with
    |ret v=>exact q _ _ ⟨σ8,ls8,P8,X8,y8⟩
    |_=>exact y8.elim
def OR:∀(k:Q) (a:Q),VK (a:g') k=(Dg a k).map λj=>MV.int (j:Q)
 |0,a=>rfl
 |k+1,a=>by
  simp only[VK,Cb,w5]
  have:=OR k<|a+1
  refine rp this ?_
  congr 2
set_option tactic.hygienic true in
def VT {i:Q} {a:X} {b:S} {x y:Lf} {e:Lb} {xp yp cp p:Pos} {sb:D Q9} (z9:zN B) (hb:wC B sc y<|.type s!"range") (hs:qw e []) (hv:Ln[i]?=R x) (Ha:Fj B n sc Ln a e) (Hb:wL B n np sc Ln b sb):
  qo B n np sc Ln (.forR i a b) (.For (.Name x xp) (.Call (.Name y yp) [e] [] cp) sb [] p):=⟨by
 intro Lo A s σ ls P J ρ' fl e O n0 nd aa S F W
 refine zh e ?_;clear e;intro t ρ1 e1 e
 cases t with
 |l _=>exact nO e
 |o _ _=>exact nO e
 |d tm=>
  cases tm<;>try (first|exact nO e|cases e)
  rename_i z8
  refine iP e ?_;clear e;intro hi e
  ·refine wpAny_For (W4<|qS z9 O S hb.hx hb.hd hb.hk hb.hb hb.hn<|ko (zK hs C)<|w4 (Ha.d ⟨O,aa,S,F,W⟩ e1 C λv s1 σ1 P1 r1 x1 c1=>Z7<|r1.int_i λtk ev=>?_)<|hs Lo) λH=>C
   clear e1 r1;subst ev
   refine call_range_1 ?_
   have sz:CV 0 z8 1=(z8.toNat:g'):=(rangeSize_one ..).trans<|oI hi.2.2.1
   refine wpAny_pyIter_range (IsRange.new s1.heap 0 z8 1 s1.toks tk<|s1.toks+1) (small_one (by decide) (by decide) (zpc hi)<|zpd hi) ?_
   refine rq sz ?_
   have x2:SO B σ s.heap ls La ρ1 {s1 with heap:=s1.heap.push {cls:=.type s!"range",data:=.fields<|D.toArray [.int 0 s1.toks,.int z8 tk,.int 1<|s1.toks+1]},toks:=s1.toks+1+1} σ1 P1:=
    x1.weak.more ((x1.st.push _).toks _) (FB.push _ _ _)
   have lt:∀b ob,s.heap.get? b=R ob→σ b=Z→b≠(s1.heap.push {cls:=.type s!"range",data:=.fields<|D.toArray [.int 0 s1.toks,.int z8 tk,.int 1<|s1.toks+1]}).objs.size:=λb ob e n=>
    Z3 (Z2<|x2.step.un b ob e n)
   have nL:(s1.heap.push {cls:=.type s!"range",data:=.fields<|D.toArray [.int 0 s1.toks,.int z8 tk,.int 1<|s1.toks+1]}).objs.size≠Lo.locals:=by
    refine cps λGG kk=>?_
    obtain⟨mm,⟨o,_,_,ho,_⟩,_⟩:=F.ns
    refine kk ?_
    exact λe=>lt _ _ ho F.no e.symm
   refine QM hv hi.1 Hb O n0 nd aa ((x2.more (x2.st.push {cls:=.type s!"range_iterator",data:=.fields<|D.toArray [rawInt 0,rawInt (z8.toNat:g'),rawInt 1]})<|FB.push _ _ _).sx F) (.rng (x:=0) (k:=z8.toNat)<|Heap.get?_push_size _ C) x2.st.fresh x2.st.fresh0 nL lt ?_ λf s' h=>h
   have:=OR z8.toNat 0
   rw[←Cu]at this
   (refine rq (C:(0:g')=((0:Q):g')) ?_;refine rq this ?_)
   exact e⟩
def VU {i:Q} {l:D MV} {b:S} {x y:Lf} {xp yp p:Pos} {sb:D Q9} (z9:zN B) (hx:sc.names.lookup y=R .globalImplicit) (hd:(y==(s!"__debug__":Lf))=La) (hk:∃v,CC B.G.K x_ y=R (R v)∧FP B.G.h0 v (.tup l)) (hv:Ln[i]?=R x) (Hb:wL B n np sc Ln b sb):
  qo B n np sc Ln (.forT i l b) (.For (.Name x xp) (.Name y yp) sb [] p):=⟨by
 intro Lo A s σ ls P J ρ' fl e O n0 nd aa S F W
 refine iP e λhi e=>E7 hk λv Y T'=>wpAny_For (ji z9 O S hx hd Y<|(T'.ext S.tup0).tup_i λa vs ev ha ra=>?_) λH=>C
 ·clear Y T';subst ev
  refine Db ha.isTuple ?_
  have lt:∀b ob,s.heap.get? b=R ob→b≠s.heap.objs.size:=λb ob e=>Z3<|Z2 e
  have nL:s.heap.objs.size≠Lo.locals:=by
   refine cps λGG kk=>?_
   obtain⟨mm,⟨o,_,_,ho,_⟩,_⟩:=F.ns
   refine kk ?_
   exact λe=>lt _ _ ho e.symm
  refine QM hv hi.1 Hb O n0 nd aa (SO.sx (pu:=La) ((SO.refl S W).more (S.push _)<|FB.push _ _ _) F) ?_ S.fresh S.fresh0 nL (λb ob e H=>lt b ob e) e λf s' h=>h
  exact .tup (i:=0) ⟨_,Heap.get?_push_size _ C,C,C⟩ (zj _ _ _ _ ha)<|ra.ext<|zj _ _⟩
end
mutual namespace A
structure me (B:Gu) (f:Q) (F:Fn) (o:Obj) (fd:CP) (body:D Q9) (Ln:D Lf):Prop where
 lk:B.G.K.lookup (B.fa f)=R o
 dt:o.data=.func fd
 bd:fd.body=.stmts body
 cd:codeIn B.G.K fd.code fd.qualname=f'
 gl:fd.globals=x_
 bi:fd.builtins=B9
 co:fd.scope.isCoroutine=La
 ge:fd.scope.isGenerator=La
 kd:fd.scope.kind=.function
 nc:∀x∈fd.scope.names,x.2≠.cell
 lo:∀x∈Ln,fd.scope.names.lookup x=R .local
 nd:Ln.Nodup
 np:F.np≤Ln.length
 bn:∀vs:D q4,vs.length=F.np→Bl fd ⟨vs,[]⟩=pure ((Ln.take F.np).zip vs)
end
mutual section
variable {B:Gu} {n:Q} {f:Q} {F:Fn}
def Kp {l:D<|Lf×q4} (nd:(l.map (·.1)).Nodup) {x:Lf} {v:q4} (h:(x,v)∈l):l.lookup x=R v:=by
 induction l with
 |nil=>cases h
 |cons p l ih=>
  obtain⟨y,w⟩:=p
  (replace nd:=w5▸nd;rw[Bg]at nd)
  refine rq EK ?_
  rcases w3.mp h with e|h
  ·cases e;simp
  ·have:x≠y:=λe=>nd.1 (e▸BI (f:=(·.1)) h)
   have:(x==y)=La:=by simpa using this
   refine rq this ?_;exact ih nd.2 h
def zag {ks:D Lf} {vs:D q4} (h:ks.length=vs.length):(ks.zip vs).map (·.1)=ks:=by
 rw[D.map_fst_zip];exact gd h
def zp3 {P:Pg} {W n f:Q} {F:Fn} {args:Ev} {r:Th×Ev} (hF:P.fn f=R F) (e:EZ P W (n+1) f args=R r) {G:Prop} (k:args.length=F.np→∀fl ρ',Fc P (EZ P W n) W F.np F.body (args++Bm F.nl Z)=R (fl,ρ')→(match fl with
  | .rt v=>R (v,ρ'.take F.np)
  | .nx=>R (.d .none,ρ'.take F.np)
  | .br=>Z)=R r→G):G:=
 zB (o:=P.fn f) e λF' h e=>by
  cases hF.symm.trans h
  exact iP e λhnp e=>zh e λfl ρ' e1 e=>k hnp fl ρ' e1 e
def VV {o:Obj} {fd:CP} {body:D Q9} {Ln:D Lf} (z9:zN B) (G':yq B n) (hF:B.P.fn f=R F) (k:me B f F o fd body Ln) (z_:wL B n F.np fd.scope Ln F.body body)
  {args args':Ev} {r:Th} {A:Z6} {s:q7} {σ:MH} {ms:D MV} {vs:D q4} {P:Q→Fp} (e:EZ B.P B.W (n+1) f args=R (r,args')) (aa:VF A<|n+1) (S:St B.G σ s) (rl:FJ s.heap vs ms) (hl:args.length=ms.length)
  (W:Gg B σ (λi=>ms[i]?) args P):Y_ B.G.M A (.call (.ref<|B.fa f) ⟨vs,[]⟩) (λr' s'=>match r' with| .ok (.ret v)=>PE B σ s.heap (λi=>ms[i]?) La r args' v s'|_=>False) s:=by
 refine zp3 hF e ?_;clear e;intro hnp fl ρ' e1 e
 ·have hvs:vs.length=F.np:=by(refine rq rl.length ?_;refine rp hl ?_;exact rq hnp C)
  have htk:(Ln.take F.np).length=vs.length:=by(refine rq X_ ?_;refine rq hvs ?_;exact rq (V4 k.np) C)
  have hX:=S.K z9.X
  refine codeAny_call_def (fd:=fd) (body:=body) (binds:=(Ln.take F.np).zip vs) (by have:=aa.dp;exact Tx this) (hX _ _ k.lk) k.dt (z9.lim.keeps S.keep) (codeRec_of hX k.cd) k.bd (λH H H H h=>by refine rq (k.bn vs hvs) ?_;exact j4 h) k.nc
   (λx hx=>k.lo _<|Ea (ES hx).1) (λh0 hns hk=>?_) k.co k.ge k.kd
  refine Fg (⟨_,C⟩:∃L,s.heap.objs.size=L) λL hL=>?_
  (replace hns:=hL▸hns;refine rq hL ?_)
  have te0:zQ s.heap h0:=λa vs ⟨k,e⟩=>⟨k,hk _ _ e⟩
  have S0:St B.G σ {s with heap:=h0,toks:=s.toks+((Ln.take F.np).zip vs).length}:=S.ext hk
  have ndk:(((Ln.take F.np).zip vs).reverse.map (·.1)).Nodup:=by
   (refine rq D.map_reverse ?_;refine rq (zag htk) ?_)
   unfold Et
   rw[D8]
   exact(D.Sublist.nodup (D.take_sublist ..) k.nd).imp Ne.symm
  have Fm0:Fm h0 σ L Ln λi=>ms[i]?:=by
   refine⟨⟨_,hns,λi m hm=>?_⟩,(by refine rp hL ?_;exact S.fresh:σ L=Z)⟩
   refine E7 (rl.get hm) λv hv rv=>?_
   have hi:i<F.np:=by refine rp hvs ?_;exact(D.getElem?_eq_some_iff.mp hv).1
   have hx:Ln[i]?=R (Ln[i]'(v_ hi k.np)):=D.getElem?_eq_getElem _
   refine⟨_,v,hx,?_,rv.ext te0⟩
   refine Kp ndk<|D.mem_reverse.mpr ?_
   refine W3 (i:=i) ?_
   rw[D.getElem?_zip_eq_some]
   exact⟨by refine rq (D.getElem?_take_of_lt hi) ?_;exact hx,hv⟩
  have W0:Gg B σ (λi=>ms[i]?) (args++Bm F.nl Z) P:=by
   refine⟨λi t e=>W.at_ i t ?_,W.dj,W.dm⟩
   unfold gt at e⊢
   by_cases hi:i<args.length
   ·rwa [D.getElem?_append_left hi]at e
   ·(replace e:=(D.getElem?_append_right<|YJ hi)▸e;replace e:=(D.getElem?_replicate)▸e)
    split at e<;>exact nO e
  refine q5 (z_.h e1 (⟨C,k.gl,k.bi,k.kd,k.lo⟩:Fs (callEnv fd L<|B.fa f) fd.scope Ln) (by refine rp hL ?_;exact S.fresh0:B.G.h0.get? L=Z) k.nd (⟨aa.hd,by have:=aa.dp;refine(?_:A.depth+1+_+1<_);exact Ty this,by have:=aa.un;refine(?_:A.units+3+_+200<_);exact TA this⟩:Nl (A.deeper<|callEnv fd L<|B.fa f) n) S0 Fm0 W0) (λfw s1 Y=>?_) λH H x=>x.elim
  refine II Y λσ1 ls1 P1 X y=>?_
  have so:∀{r:Th},SO B σ s.heap (λi=>ms[i]?) La (ρ'.take F.np) s1 σ1 P1:=λ{r}=>by
   refine⟨X.st,⟨λa o e n=>X.step.un a o (hk a o e) n (by refine rp hL ?_;exact Z3<|Z2 e),λa o e n=>X.step.dom a o (hk a o e) n⟩,⟨λi t e=>?_,X.own.dj,X.own.dm⟩,zg te0 X.te,λe=>nB e⟩
   have hi:i<F.np:=by have:=Xl e;replace this:=X_▸this;exact zpe this
   refine E7 (X.own.at_ i t (by unfold gt at e⊢;rwa [D.getElem?_take_of_lt hi]at e:gt ρ' i=R t)) λm a b=>?_
   exact⟨m,(X.pr i hi)▸a,b⟩
  clear e1 Y;cases fl with
  |nx=>
   refine qK e λeq1 eq2=>?_;clear hF k z_ hnp hvs htk hns S0 ndk W0 X;subst eq1 eq2
   cases fw with
   |next=>exact⟨.none,σ1,P1,λH=>False,so (r:=.d .none),.none,C,λH h=>h.elim,λH H h=>h.elim⟩
   |_=>exact y.elim
  |br=>exact nO e
  |rt v=>
   clear hF k;clear z_ hnp;clear hvs htk;clear hns S0;clear ndk W0 X;cases e
   cases fw with
   |ret v=>
    refine Og y λm N' a b c d=>?_
    exact⟨m,σ1,P1,N',so (r:=r),a,b,c,d⟩
   |_=>exact y.elim
structure o3 (B:Gu) (f:Q):Prop where
 h:∀{n:Q} {args args':Ev} {r:Th} {A:Z6} {s:q7} {σ:MH} {ms:D MV} {vs:D q4} {P:Q→Fp},EZ B.P B.W (n+1) f args=R (r,args')→VF A (n+1)→St B.G σ s→FJ s.heap vs ms→args.length=ms.length→
  Gg B σ (λi=>ms[i]?) args P→Y_ B.G.M A (.call (.ref<|B.fa f) ⟨vs,[]⟩) (λr' s'=>match r' with| .ok (.ret v)=>PE B σ s.heap (λi=>ms[i]?) La r args' v s'|_=>False) s
def mh (z9:zN B) (z_:∀f F,B.P.fn f=R F→o3 B f∨∃o fd body Ln,me B f F o fd body Ln∧∀n,yq B n→wL B n F.np fd.scope Ln F.body body):∀n,yq B n
 |0=>⟨λe=>nO e⟩
 |n+1=>⟨λ{f args args' r A s σ ms vs P} e aa S rl hl W=>by
  have:∃F,B.P.fn f=R F:=by
   exact zB (o:=B.P.fn f) e λF hF H=>⟨F,hF⟩
  refine Fg this λF hF=>?_
  rcases z_ f F hF with z8|⟨o,fd,body,Ln,k,Hb⟩
  ·exact z8.h e aa S rl hl W
  ·exact VV z9 (mh z9 z_ n) hF k (Hb n<|mh z9 z_ n) e aa S rl hl W⟩
end
mutual section
variable {B:Gu} {n:Q} {σ σ' σ'':MH} {h h':y9} {ls ls':Q→Lc MV} {pu pu':Ld} {t:Th} {m:MV} {J ρ' ρ'' ρ1 ρ2:Ev} {v:q4} {s s' s'':q7} {P P' P'' P1 P2:Q→Fp} {A:Z6}
variable {sc:w7} {Ln:D Lf} {N':Fp}
inductive Mb (h:y9):D (q4×q4)→D (D Q)→D MV→Prop where
 |nil:Mb h [] [] []
 |cons {k:D Q} {t:Tok} {v:q4} {m:MV} {kvs:D<|q4×q4} {ks:D<|D Q} {ms:D MV}:FP h v m→Mb h kvs ks ms→Mb h ((.str (E5 k) t,v)::kvs) (k::ks) (m::ms)
def Mb.ext {kvs:D<|q4×q4} {ks:D<|D Q} {ms:D MV} (r:Mb h kvs ks ms) (te:zQ h h'):Mb h' kvs ks ms:=by
 induction r with
 |nil=>exact .nil
 |cons a _ ih=>exact .cons (a.ext te) ih
def Mb.all {kvs:D<|q4×q4} {ks:D<|D Q} {ms:D MV} (r:Mb h kvs ks ms):allStrKeys kvs=f'∧(B6 kvs).map (·.1)=ks.map E5:=by
 induction r with
 |nil=>exact⟨C,C⟩
 |cons a _ ih=>exact⟨ih.1,by simp only[B6,w5,ih.2]⟩
def Mb.get {kvs:D<|q4×q4} {ks:D<|D Q} {ms:D MV} (r:Mb h kvs ks ms) (k:D Q):
  match zA k (ks.zip ms)with|R m=>∃v,BV (B6 kvs) (E5 k)=R v∧FP h v m|Z=>BV (B6 kvs) (E5 k)=Z:=by
 induction r with
 |nil=>exact C
 |@cons k2 t v m kvs ks ms a b ih=>
  refine rq (show zA k (D.zip (k2::ks)<|m::ms)=if k2=k then R m else zA k (ks.zip ms)from C) ?_
  rw[show B6 ((.str (E5 k2) t,v)::kvs)=(E5 k2,v)::B6 kvs from C]
  by_cases hk:k2=k
  ·subst hk
   refine rq (Lh C) ?_
   exact⟨v,by unfold BV;rw[D.find?_cons_of_pos<|by exact Ll C];rfl,a⟩
  ·refine rq (Lj hk) ?_
   have hne:¬E5 k2=E5 k:=λe=>hk<|kn e
   have:BV ((E5 k2,v)::B6 kvs) (E5 k)=BV (B6 kvs) (E5 k):=by
    unfold BV;rw[D.find?_cons_of_neg<|by simpa using hne]
   refine rq this ?_;exact ih
structure ZP (B:Gu) (n:Q) (sc:w7) (Ln:D Lf) (ks:D<|D Q) (x:X) (keys:D<|Lc Lb) (values:D Lb):Prop where
 h:∀{Lo:Env} {A:Z6} {s:q7} {σ:MH} {ls:Q→Lc MV} {P:Q→Fp} {J ρ':Ev} {ms:D MV} {pos:Pos},Oi B.P (EZ B.P B.W n) x J=R (ms,ρ')→Fs Lo sc Ln→Nl A n→St B.G σ s→
  Fm s.heap σ Lo.locals Ln ls→Gg B σ ls J P→q9 B.G.M A (evalPairs<|pairTrees keys values Lo pos) (λkvs s'=>Mb s'.heap kvs ks ms∧∃σ' P',SO B σ s.heap ls La ρ' s' σ' P') Er s
def RV:ZP B n sc Ln [] .nil [] []:=⟨by
 intro Lo A s σ ls P J ρ' ms pos e O aa S F W
 refine qK e λeq1 eq2=>?_;clear e;subst eq1 eq2
 exact pairTrees_nil_walk ⟨.nil,σ,P,(SO.refl (pu:=La) S W)⟩⟩
def VW {k:D Q} {ks:D<|D Q} {x:Lf} {kk:Q} {kp:Pos} {a b:X} {e:Lb} {keys:D<|Lc Lb} {values:D Lb} (hx:x=E5 k) (Ha:Fj B n sc Ln a e) (Hb:ZP B n sc Ln ks b keys values):
  ZP B n sc Ln (k::ks) (.cons a b) (R (.Constant (.str x) kk kp)::keys) (e::values):=⟨by
 intro Lo A s σ ls P J ρ' ms pos e O aa S F W
 subst hx
 refine zh e ?_;clear e;intro t1 ρ1 e1 e
 refine zB e ?_;clear e;intro y ey e
 refine wH e ?_;clear e;intro l ρ2 e2 e
 cases e
 refine BU<|V2 ?_
 refine q5 (Ha.h e1 O aa (S.toks<|s.toks+1) F W) (λv s1 Y=>?_) λH H x=>x
 obtain⟨r1,σ1,P1,x1⟩:=Y.dat ey
 refine q5 (Hb.h e2 O aa x1.st (x1.fm F) x1.own) (λkvs s2 T'=>?_) λH H x=>x
 obtain⟨r2,σ2,P2,x2⟩:=T'
 exact⟨.cons (r1.ext x2.te) r2,σ2,P2,(x1.trans x2).weak⟩⟩
def vn {h:y9} {a:w_} {f:Lf→Lc q4} {G:Gl} (M:h.MapOf (strKind G.prog G.w) a f):∀vs,¬Ic h a vs:=λvs ⟨k,e⟩=>by
 refine Hs (MapOf.obj M) λo Y T' h3=>?_
 replace Y:=e▸Y;replace Y:=z' Y;clear e h3;subst Y;exact Lg (Value.type.inj T')<|by decide
def zaj {ks:D<|D Q} {vs k d:X} {keys:D<|Lc Lb} {values:D Lb} {dp apos pos:Pos} {name:Lf} {l r:Lb} (z9:zN B) (hm:qs (.Dict keys values dp) name apos [l,r] pos) (hs:qw l [r]) (hs2:qw r []) (hn:name=(s!"get":Lf))
  (nd:ks.Nodup) (hall:keys.all (·.isSome)=f') (hl:keys.length=values.length) (h0:keys≠[]) (hlen:keys.length≤15)
  (Hp:ZP B n sc Ln ks vs keys values) (Ha:Fj B n sc Ln k l) (Hb:Fj B n sc Ln d r):Fj B n sc Ln (.dlit ks vs k d)<|.Call (.Attribute (.Dict keys values dp) name apos) [l,r] [] pos:=⟨by
 intro Lo A s σ ls P J ρ' t e O aa S F W
 refine zh e ?_;clear e;intro ms ρ0 e0 e
 refine zh e ?_;clear e;intro t1 ρ1 e1 e
 refine zB e ?_;clear e;intro y ey e
 refine zh e ?_;clear e;intro t2 ρ2 e2 e
 refine zB e ?_;clear e;intro w ew e
 subst hn
 refine qy hm<|wpAny_Dict_walk (knd:=strKind B.G.prog B.G.w) hall hl h0 hlen ?_
 refine Fg (⟨_,C⟩:∃M',s.heap.objs.size=M') λM' hD=>?_
 have Sp:=S.push {cls:=.type s!"dict",data:=.dict<|D.toArray []}
 have fD:σ M'=Z:=by refine rp hD ?_;exact S.fresh
 have hnew:=DX (knd:=strKind B.G.prog B.G.w) s.heap
 (replace hnew:=hD▸hnew;refine rq hD ?_)
 have Xp:SO B σ s.heap ls La J {s with heap:=s.heap.push {cls:=.type s!"dict",data:=.dict<|D.toArray []}} σ P:=⟨Sp,FB.push _ _ _,W,zj _ _,λH=>C⟩
 refine q5 (Hp.h e0 O aa Sp (Xp.fm F) Xp.own) (λkvs s1 Y=>?_) λH H x=>x
 obtain⟨kr,σ1,P1,x1⟩:=Y
 have x01:=(Xp.trans x1).weak
 have nD1:σ1 M'=Z:=by
  refine E7 (MapOf.obj (G:=B.G) hnew.mapOf) λo ho H=>?_
  exact x1.step.dom _ _ ho fD
 have d1:s1.heap.DictOf (strKind B.G.prog B.G.w) M' []:=by
  refine II hnew λo es ep ho hr=>?_
  exact⟨o,es,ep,x1.step.un _ _ ho fD,hr⟩
 refine display_done_str (P:=λh'=>∀pl,q9 B.G.M A (Eo (.ref M') (s!"get":Lf) pl) _ Er {s1 with heap:=h',toks:=s1.toks+kvs.length}) kr.all.1 ?_ d1 λT' d2 sb=>?_
 ·refine rq kr.all.2 ?_
  exact DA _ (λa b hne e=>hne<|kn e) nd
 intro pl
 have b2:=qY (tk:=s1.toks+kvs.length) sb<|vn d1.mapOf
 have S2:=x1.st.but nD1 (by refine rp hD ?_;exact S.fresh0:B.G.h0.get? M'=Z) b2 C C
 have x02:SO B σ s.heap ls La ρ0 {s1 with heap:=T',toks:=s1.toks+kvs.length} σ1 P1:=⟨S2,⟨λb o e nn=>b2.keep _ _ (by clear nd hall hl h0 hlen Hp W e0 hm Sp Xp x1;rintro C;replace e:=hD▸e;exact Lg (Z2 e)<|V0 _)<|x01.step.un _ _ e nn,x01.step.dom⟩,x01.own,zg x01.te b2.te,λe=>nB e⟩
 refine Hs (MapOf.obj (G:=B.G) d2.mapOf) λob ho U' hdn=>?_
 have hT:EQ {s1 with heap:=T',toks:=s1.toks+kvs.length} (.ref M') s!"dict":=⟨_,ho,U'⟩
 with_reducible refine By (T:=s!"dict") hT Dy Cd DN (λa e=>?_) ?_
 ·clear fD hnew d1 sb hT;cases e;exact⟨_,ho,hdn⟩
 refine qd (first:=[_]) (zK hs<|zK hs2 C)<|w4 (q5 (Ha.h e1 O aa S2 (x02.fm F) x02.own) (λv2 s3 h3=>?_) λH H x=>x)<|hs Lo
 obtain⟨r3,σ3,P3,x3⟩:=h3.dat ey
 refine w4 (q5 (Hb.h e2 O aa x3.st (x3.fm<|x02.fm F) x3.own) (λv3 s4 h4=>Z7 ?_) λH H x=>x)<|hs2 Lo
 obtain⟨r4,σ4,P4,x4⟩:=h4.dat ew
 have nD3:σ3 M'=Z:=x3.step.dom _ _ ho nD1
 have hob4:s4.heap.get? M'=R ob:=x4.step.un _ _ (x3.step.un _ _ ho nD1) nD3
 have d4:s4.heap.DictOf (strKind B.G.prog B.G.w) M'<|B6 kvs:=by
  refine II d2 λo es ep ho' hr=>?_
  exact⟨o,es,ep,x4.step.un _ _ (x3.step.un _ _ ho' nD1) nD3,hr⟩
 clear ey;cases y with
 |str kk=>
  refine(r3.ext x4.te).str_i λtk e5=>?_
  clear h3 r3;subst e5
  dsimp only at e
  split at e<;>(first|exact nO e|cases e)
  have lo:(M'==Dd)=La:=by
   have this:Dd<s.heap.objs.size:=modules_low<|z9.lim.keeps S.keep
   simp only[beq_eq_false_iff_ne,ne_eq]
   clear z9 hs hs2 Ha Hb O aa S F e1 ew fD hnew x01 nD1 d1 d2 sb S2 ho U' hdn hT nD3 hob4 e2 h4 nd;clear hall hl;clear h0 hlen;clear Hp W;clear e0 hm;clear Sp Xp x1;rintro C
   replace this:=hD▸this;exact Lg this (V0 _)
  exact QF ((x02.trans x3).weak.trans x4).weak lo d4.mapOf ((kr.ext<|zg b2.te<|zg x3.te x4.te).get kk) r4
 |_=>exact nO e⟩
nonrec abbrev N4 (elt t1 i1 t2 i2 c:Lb) (sc2:w7) (pos:Pos):Lb:=.ListComp elt [⟨t1,i1,[],0⟩,⟨t2,i2,[c],0⟩] sc2 pos
def xQ (elt t1 i1 t2 i2 c:Lb) (sc2:w7) (pos:Pos) (it acc:q4) (Lo:Env):
  D1 (N4 elt t1 i1 t2 i2 c sc2 pos) 0 it acc Lo=(Cg i1.pos>>=λH=>D0 it>>=λr=>match r with
   |Z=>pure<|.done .next
   |R v=>X6 t1 it v>>=λH=>BA t1 Lo v>>=λH=>V8 i2 Lo>>=λx=>Cg i2.pos>>=λH=>J4 i2 Lo x>>=λx=>
    Dp [x] (pyIter x)>>=λit2=>runOwn (.compStart (N4 elt t1 i1 t2 i2 c sc2 pos) 1 it2 acc Lo) Lo>>=λH=>
     again (.compLoop (N4 elt t1 i1 t2 i2 c sc2 pos) 0 it acc Lo)):=by rfl
def xR (elt t1 i1 t2 i2 c:Lb) (sc2:w7) (pos:Pos) (it acc:q4) (Lo:Env):
  D1 (N4 elt t1 i1 t2 i2 c sc2 pos) 1 it acc Lo=(Cg i2.pos>>=λH=>D0 it>>=λr=>match r with
   |Z=>pure<|.done .next
   |R v=>X6 t2 it v>>=λH=>BA t2 Lo v>>=λH=>
    (forIn [c] f' λc r=>if r=f' then do let ok ←DF c Lo (V8 c Lo);pure (Eb ok)else pure (Eb r))>>=λok=>
     (if ok=f' then(V8 elt Lo>>=λx=>call (.builtin s!"list.append") [acc,x]>>=λH=>pure ())>>=λH=>again (.compLoop (N4 elt t1 i1 t2 i2 c sc2 pos) 1 it acc Lo)
     else again (.compLoop (N4 elt t1 i1 t2 i2 c sc2 pos) 1 it acc Lo))):=by rfl
def zak {elt t1 i1 t2 i2 c:Lb} {sc2:w7} {pos:Pos} {it acc:q4} {Lo:Env} {I':Result→q7→Prop} (hs2:∀Lo x,J4 i2 Lo x=pure x) (I:Q→q7→Prop)
  (turn:∀n s,I n s→q9 B.G.M A (D0 it) (λr s₁=>match r with
   |Z=>I' (.ok .next) s₁
   |R v=>q9 B.G.M A (X6 t1 it v) (λH s₁=>q9 B.G.M A (BA t1 Lo v) (λH s₂=>q9 B.G.M A (V8 i2 Lo) (λx s₃=>q9 B.G.M A (pyIter x) (λit2 s₄=>
     Y_ B.G.M (A.mark Z) (.compStart (N4 elt t1 i1 t2 i2 c sc2 pos) 1 it2 acc Lo) (λr s'=>match r with| .ok _=>∃m,m<n∧I m s'| .error _=>False) s₄) Er s₃) Er s₂) Er s₁) Er s₁) Er s)
  (n:Q) (h:I n s):Y_ B.G.M A (.compLoop (N4 elt t1 i1 t2 i2 c sc2 pos) 0 it acc Lo) I' s:=by
 refine Ez C I (λn s hI=>?_) n h
 refine(?_:q9 _ _ ((D1 (N4 elt t1 i1 t2 i2 c sc2 pos) 0 it acc Lo).onRaise λx=>do En x Lo;DQ x) _ _ s)
 refine EM ?_
 rw[xQ]
 refine kL ?_
 refine q6<|J_<|q6<|q5 (turn n s hI) (λr s₁ h₁=>?_) λH H h'=>h'
 induction r with
 |Z=>exact j4 h₁
 |R v=>
  refine q6<|q5 h₁ (λH s₁ h₁=>?_) λH H h'=>h'
  refine q6<|q5 h₁ (λH s₂ h₂=>?_) λH H h'=>h'
  refine q6<|q5 h₂ (λx s₃ h₃=>?_) λH H h'=>h'
  refine q6<|J_ ?_
  rw[hs2]
  refine q6<|j4<|q6<|Bj<|q5 h₃ (λit2 s₄ h₄=>?_) λH H h'=>h'
  refine q6<|wpAny_runOwn<|CD h₄ λr s' hr=>?_
  induction r with
  |ok f=>exact j4 ⟨C,hr⟩
  |error e=>exact hr.elim
def zal {elt t1 i1 t2 i2 c:Lb} {sc2:w7} {pos:Pos} {it acc:q4} {Lo:Env} {I':Result→q7→Prop} (I:Q→q7→Prop)
  (turn:∀n s,I n s→q9 B.G.M A (D0 it) (λr s₁=>match r with
   |Z=>I' (.ok .next) s₁
   |R v=>q9 B.G.M A (X6 t2 it v) (λH s₁=>q9 B.G.M A (BA t2 Lo v) (λH s₂=>q9 B.G.M A (DF c Lo<|V8 c Lo) (λok s₃=>
     if ok=f' then q9 B.G.M A (V8 elt Lo) (λx s₄=>q9 B.G.M A (call (.builtin s!"list.append") [acc,x]) (λH s₅=>∃m,m<n∧I m s₅) Er s₄) Er s₃ else∃m,m<n∧I m s₃) Er s₂) Er s₁) Er s₁) Er s)
  (n:Q) (h:I n s):Y_ B.G.M A (.compLoop (N4 elt t1 i1 t2 i2 c sc2 pos) 1 it acc Lo) I' s:=by
 refine Ez C I (λn s hI=>?_) n h
 refine(?_:q9 _ _ ((D1 (N4 elt t1 i1 t2 i2 c sc2 pos) 1 it acc Lo).onRaise λx=>do En x Lo;DQ x) _ _ s)
 refine EM ?_
 rw[xR]
 refine kL ?_
 refine q6<|J_<|q6<|q5 (turn n s hI) (λr s₁ h₁=>?_) λH H h'=>h'
 induction r with
 |Z=>exact j4 h₁
 |R v=>
  refine q6<|q5 h₁ (λH s₁ h₁=>?_) λH H h'=>h'
  refine q6<|q5 h₁ (λH s₂ h₂=>?_) λH H h'=>h'
  refine q6<|wpAny_tests_one<|q5 h₂ (λok s₃ h₃=>?_) λH H h'=>h'
  induction ok with
  |La=>exact j4 ⟨C,h₃⟩
  |f'=>
   exact q6<|q6<|q5 h₃ (λx s₄ h₄=>q6<|q5 h₄ (λH s₅ h₅=>j4<|j4 ⟨C,h₅⟩) λH H h'=>h') λH H h'=>h'
def VX {elt t1 i1 t2 i2 c:Lb} {sc2:w7} {pos:Pos} {it acc:q4} {Lo:Env} {I':Result→q7→Prop}
  (h0:Y_ B.G.M A (.compLoop (N4 elt t1 i1 t2 i2 c sc2 pos) 1 it acc Lo) I' s)
  (h:q9 B.G.M A (pyIter it) (λit' s'=>Y_ B.G.M A (.compLoop (N4 elt t1 i1 t2 i2 c sc2 pos) 1 it' acc Lo) I' s') Er s):
  Y_ B.G.M A (.compStart (N4 elt t1 i1 t2 i2 c sc2 pos) 1 it acc Lo) I' s:=by
 refine codeAny_of_tree ?_
 refine(?_:q9 _ _ ((compStart (N4 elt t1 i1 t2 i2 c sc2 pos) 1 it acc Lo).onRaise λx=>do En x Lo;Cg theWindowsPlace) _ _ s)
 refine wpAny_notedAt ?_
 unfold compStart
 refine(?_:q9 _ _ (ask>>=_) _ _ s)
 refine q6<|wpAny_askSetting<|wpAny_ite ?_
 split
 ·first
   |exact q6 (j4<|j4<|And.intro C h0)
   |exact j4 (And.intro C h0)
 ·refine kL ?_
  first
   |exact q6 (wpAny_rule<|q6<|J_<|q6<|q5 h (λit' s' h'=>j4<|And.intro C h') λH H x=>x)
   |(refine q6<|wpAny_rule ?_;refine(?_:q9 _ _ (Cg i2.pos>>=_) _ _ s);exact q6<|J_<|q6<|q5 h (λit' s' h'=>j4<|And.intro C h') λH H x=>x)
variable {σ1:MH} {acc it L:w_} {src:Lc w_} {h4:y9} {d d' todo:D MV}
set_option tactic.hygienic true in
def LS.turn {x2:Lf} {p2:Pos} {elt cnd:Lb} {sc2:w7} {vars2:D Lf} {env2:Env} {b:Ld} {W:Q→q7→Prop} {k:Q} (c:FC B σ1 acc it L src h4) (O2:Fs env2 sc2 vars2) (eL:env2.locals=L) (nd2:vars2.Nodup) (aa:Nl A n)
  (hv2:vars2[1]?=R x2) (Hc:Go B n sc2 vars2 (.b1 .isTup<|.var 1) cnd) (He:∀{E:q4→q7→Prop} {N':q4→q7→Prop} {s:q7} {σ:MH} {ls:Q→Lc MV},Fm s.heap σ env2.locals vars2 ls→ls 1=R m→(∀v,FP s.heap v m→N' v s)→q9 B.G.M A (V8 elt env2) N' E s)
  (hb:isTup m (λH=>Z)=R b) (hz:d.length≤k7) (l:LS B σ1 acc it L src h4 d todo s) (r:FP s.heap v m)
  (q:∀s',LS B σ1 acc it L src h4 (if b=f' then d++[m]else d) todo s'→(∀b ob,b≠acc→b≠L→s.heap.get? b=R ob→s'.heap.get? b=R ob)→zQ s.heap s'.heap→W k s'):
  q9 B.G.M A (BA (.Name x2 p2) env2 v) (λH s₂=>q9 B.G.M A (DF cnd env2<|V8 cnd env2) (λok s₃=>
     if ok=f' then q9 B.G.M A (V8 elt env2) (λx s₄=>q9 B.G.M A (call (.builtin s!"list.append") [.ref acc,x]) (λH s₅=>W k s₅) Er s₄) Er s₃ else W k s₃) Er s₂) Er s:=by
 refine V7<|zX O2 (eL▸l.fm c) (by rw[eL];exact c.L0) nd2 hv2 r l.st λs7 S7 F7 b7=>?_
 rw[eL]at b7
 have l7:LS B σ1 acc it L src h4 d todo s7:=l.mv c S7 (λb ob H H n2 e=>b7.keep b ob n2 e) b7.te<|E7 F7.ns λmm hn H=>⟨mm,eL▸hn⟩
 have W7:∀τ,Gg B τ (OP (λH=>Z) 1 m) [Z,R<|.d m] λH H=>False:=λτ=>⟨λi t e=>by
  match i,e with
  |0,e=>exact nO e
  |1,e=>replace e:=z' e;clear r;subst e;exact⟨m,Gf,C⟩
  |i+2,e=>simp[gt]at e,λH H H h=>h.elim,λH H h=>h.elim⟩
 have ev:E0 B.P (EZ B.P B.W n) (.b1 .isTup<|.var 1) [Z,R<|.d m]=R (.d<|.bool b,[Z,R<|.d m]):=by
  refine(?_:((isTup m λH=>Z).map MV.bool).map (λz=>(Th.d z,[Z,R<|Th.d m]))=_)
  exact rq hb C
 refine q5 (Hc.h ev O2 aa (S7.le<|jG _ λH=>False) F7.res<|W7 _) (λok s8 h8=>?_) λH H x=>x
 clear nd2 aa hv2 Hc hb W7 ev O2 r;obtain⟨C,σ8,P8,x8⟩:=h8
 have l8:=l7.ran c x8.st x8.step x8.te
 have k8:∀b ob,b≠L→s.heap.get? b=R ob→s8.heap.get? b=R ob:=λb ob n2 e=>x8.step.un b ob (b7.keep b ob n2 e)<|qM id
 have te8:zQ s.heap s8.heap:=zg b7.te x8.te
 by_cases hok:ok=f'
 ·rw[Lh hok]at q⊢
  exact He (x8.fm F7.res) Gf λv9 r9=>LS.append c hz l8 r9 λs9 l9 k9 te9=>q s9 l9 (λb ob n1 n2 e=>k9 b ob n1<|k8 b ob n2 e)<|zg te8 te9
 ·rw[Lj hok]at q⊢
  exact q s8 l8 (λb ob H n2 e=>k8 b ob n2 e) te8
end
mutual section
variable {B:Gu} {n np:Q} {σ σ' σ'':MH} {h h':y9} {ls ls':Q→Lc MV} {pu pu':Ld} {t:Th} {m:MV} {J ρ' ρ'' ρ1 ρ2:Ev} {v:q4} {s s' s'':q7} {P P' P'' P1 P2:Q→Fp} {A:Z6}
variable {sc:w7} {Ln:D Lf} {N':Fp}
variable {σ1:MH} {acc it L:w_} {src:Lc w_} {h4:y9} {d d' todo:D MV}
abbrev xT (m:MV):Ld:=(isTup m λH=>Z).getD La
structure QN (B:Gu) (n:Q) (sc2:w7) (vars2:D Lf) (x1 x2:Lf) (elt i2 cnd:Lb):Prop where
 nd2:vars2.Nodup
 v1:vars2[0]?=R x1
 v2:vars2[1]?=R x2
 Hc:Go B n sc2 vars2 (.b1 .isTup<|.var 1) cnd
 He:∃p,elt=.Name x2 p
 Hi:∃p,i2=.Name x1 p
 d1:(x1==(s!"__debug__":Lf))=La
 d2:(x2==(s!"__debug__":Lf))=La
 hs2:∀Lo x,J4 i2 Lo x=pure x
def zp4 {x1 x2:Lf} {p1 p2:Pos} {elt i1 i2 cnd:Lb} {sc2:w7} {vars2:D Lf} {pos:Pos} {env2:Env} {it2:w_} (c:FC B σ1 acc it L src h4) (M':QN B n sc2 vars2 x1 x2 elt i2 cnd) (O2:Fs env2 sc2 vars2) (eL:env2.locals=L) (aa:Nl A n)
  (hx:h4.get? it2=Z) (fx:σ1 it2=Z) (x0:B.G.h0.get? it2=Z) {todo2:D MV} (hb:∀m∈todo2,(isTup m λH=>Z).isSome=f') (hz:d.length+(todo2.filter xT).length≤k7) (l:LS B σ1 acc it L src h4 d todo s) (I2:HI s.heap it2 Z todo2):
  Y_ B.G.M A (.compLoop (N4 elt (.Name x1 p1) i1 (.Name x2 p2) i2 cnd sc2 pos) 1 (.ref it2) (.ref acc) env2) (λr s'=>match r with| .ok _=>LS B σ1 acc it L src h4 (d++todo2.filter xT) todo s'| .error _=>False) s:=by
 let z0:Q→q7→Prop:=λk s=>∃d' r,k=r.length∧d'++r.filter xT=d++todo2.filter xT∧(∀m∈r,(isTup m λH=>Z).isSome=f')∧d'.length+(r.filter xT).length≤k7∧LS B σ1 acc it L src h4 d' todo s∧HI s.heap it2 Z r
 have n2:it2≠L:=λe=>c.hL<|e▸hx
 refine zal z0 (λk s hJ=>?_) todo2.length ⟨d,todo2,C,C,hb,hz,l,I2⟩
 refine RP hJ λd' r e2 er hb hz l I2=>?_
 clear hJ;subst e2
 cases r with
 |nil=>
  refine I2.stop aa.hd λh6 b6=>?_
  have l6:=l.but c hx fx x0 b6 C C
  rw[D.filter_nil,Z8]at er
  rw[er]at l6
  exact l6
 |cons m r=>
  refine I2.next λv h6 tk r6 I6 b6=>?_
  refine yU (s:={s with heap:=h6,toks:=tk}) I6 ?_
  refine Fg (V3.mp<|hb m<|.head _) λb eb=>?_
  refine Fg M'.He λp e1=>?_
  subst e1
  have ef:xT m=b:=by unfold xT;refine rq eb ?_;rfl
  refine LS.turn (W:=λH s'=>∃k,k<(m::r).length∧z0 k s') (k:=0) c O2 eL M'.nd2 aa M'.v2 M'.Hc (λF e q=>zH O2 F M'.v2 M'.d2 e q) eb (gg hz) (l.but c hx fx x0 b6 C C) r6 λs' l' kk te=>?_
  refine⟨r.length,by simp,_,r,C,?_,λm hm=>hb m<|.tail _ hm,?_,l',I6.keep (λob e=>kk _ _ (λe=>c.hacc (e▸hx):it2≠acc) n2 e) (λa h=>nO h) te⟩
  ·rw[X',ef]at er
   refine rp er ?_
   clear er eb l';cases b<;>simp
  ·rw[X',ef]at hz
   clear ef eb l';cases b<;>simp at hz⊢
   ·exact hz
   ·rw[Q.add_right_comm];exact hz
def Kq {m:MV} {l q:D MV} (e:MJ (m::l)=R q):∃x r,m=.tup x∧(∀m∈x,(isTup m λH=>Z).isSome=f')∧MJ l=R r∧q=x.filter xT++r:=by
 cases m<;>simp only[MJ]at e<;>try (first|exact nO e|cases e)
 split at e
 ·refine qa e λr e1 e0=>?_
  subst e0
  exact⟨_,r,C,λm hm=>(Q7.mp ‹_›) m hm,e1,C⟩
 ·exact nO e
def VY {x1 x2:Lf} {p1 p2:Pos} {elt iter i2 cnd:Lb} {a:X} {sc2:w7} {vars2:D Lf} {pos cpos:Pos} (z9:zN B) (hfree:∀x∈sc2.names,x.2≠.free) (hkind:sc2.kind=.function)
  (hnames:∀x∈sc2.names,x.2=.local→sc2.names.lookup x.1=R .local) (hcell:∀x∈sc2.names,x.2≠.cell) (hlo:∀x∈vars2,sc2.names.lookup x=R .local) (M':QN B n sc2 vars2 x1 x2 elt i2 cnd)
  (hs:∀Lo x,J4 iter Lo x=pure x) (Hi:HT B n sc Ln a iter) {Lo:Env} {rs:D MV} {use:Lc<|q4→Sem Unit} {Qf:q4→q7→Prop}
  (e:E0 B.P (EZ B.P B.W n) (.flat a) J=R (.l rs,ρ')) (O:Fs Lo sc Ln) (aa:Nl A n) (S:St B.G σ s) (F:Fm s.heap σ Lo.locals Ln ls) (W:Gg B σ ls J P)
  (q:∀acc L s' σf P1,M2 B σ s.heap ls rs ρ' acc L s' σf P1→EP B.G.M A Er use Qf (.ref acc) L (.ok .next) s'):
  q9 B.G.M A (Ci (N4 elt (.Name x1 p1) iter (.Name x2 p2) i2 cnd sc2 pos) sc2 Lo cpos (Ey []) La (V8 iter Lo) use) Qf Er s:=by
 refine zh e ?_;clear e;intro w ρ1 e1 e
 cases w with
 |d m=>exact nO e
 |l l=>
 refine zB e ?_;clear e;intro rs' er e
 refine jt e ?_;clear e;intro hz e
 cases e
 refine QH hfree hkind hnames hcell hs Hi e1 C O aa S F W λ{σ1 P1 acc it L src h4} G' fin s0 l0=>?_
 clear hfree hnames hcell hs Hi e1 S F W
 have O2:Fs (iO sc2 L Lo) sc2 vars2:=⟨C,O.gl,O.bi,hkind,hlo⟩
 refine zak M'.hs2 (λk s=>∃done todo ress,k=todo.length∧MJ todo=R ress∧rs=done++ress∧LS B σ1 acc it L src h4 done todo s) (λk s0 hI=>?_) l.length ⟨[],l,rs,C,er,C,l0⟩
 refine HX hI λdone todo ress e3 em hr l5=>?_
 clear hI l0 er;subst e3
 cases todo with
 |nil=>
  replace em:=z' em;subst em
  rw[Z8]at hr
  subst hr
  exact l5.I.stop aa.hd λh6 b6=>q acc L _ _ P1<|fin _ _ _ l5 b6
 |cons m rest=>
  refine Og (Kq em) λinn r e2 hbx em2 e5=>?_
  clear em;subst e2;subst e5
  refine l5.I.next λv h6 tk r6 I6 b6=>?_
  have l6:=l5.nx G' I6 b6
  clear l5
  refine yU (s:={s0 with heap:=h6,toks:=tk}) I6<|V7<|zX O2 (l6.fm G') G'.L0 M'.nd2 M'.v1 r6 l6.st λs7 S7 F7 b7=>?_
  have l7:LS B σ1 acc it L src h4 done rest s7:=l6.mv G' S7 (λb ob H n1 n2 e=>b7.keep b ob n2 e) b7.te<|E7 F7.ns λmm hn H=>⟨mm,hn⟩
  refine Fg M'.Hi λpi e1=>?_
  subst e1
  refine zH O2 F7 M'.v1 M'.d1 Gf λv8 r8=>?_
  refine r8.tup_i λa vs eT ha ra=>?_
  clear r8 F7 l6;subst eT
  refine Db ha.isTuple ?_
  have big:=l7.new
  have g1:=S7.fresh
  have g2:=S7.fresh0
  have l8:LS B σ1 acc it L src h4 done rest {s7 with heap:=s7.heap.push {cls:=.type s!"tuple_iterator",data:=.fields<|D.toArray [.ref a,rawInt 0]}}:=l7.mv G' (S7.push _) (λb ob H H H e=>Heap.get?_push_of_some _ e) (zj _ _)<|wk l7.ns λob e=>Heap.get?_push_of_some _ e
  have I8:=HI.tup (h:=s7.heap.push {cls:=.type s!"tuple_iterator",data:=.fields<|D.toArray [.ref a,rawInt 0]}) (it:=s7.heap.objs.size) (i:=0) (l:=inn) ⟨_,Heap.get?_push_size _ C,C,C⟩ (zj _ _ _ _ ha)<|ra.ext<|zj _ _
  generalize s7.heap.objs.size=it2 at*
  rw[zE _ _ (λe:it2=acc=>G'.hacc<|e▸big)]at g1
  have hz8:done.length+(inn.filter xT).length≤k7:=by
   have:=Li V' hr
   rw[q8,q8]at this
   refine rq W_ ?_;exact zpg this hz
  have lp:=CD (zp4 (p1:=p1) (p2:=p2) (i1:=iter) (pos:=pos) G' M' O2 C (A:=A.mark Z) ⟨aa.hd,aa.dp,aa.un⟩ big g1 g2 hbx hz8 l8 I8) (R':=λr s'=>match r with| .ok _=>∃m,m<(MV.tup inn::rest).length∧∃done todo ress,m=todo.length∧MJ todo=R ress∧rs=done++ress∧LS B σ1 acc it L src h4 done todo s'| .error _=>False) λr' s' hr'=>by
   cases r' with
   |ok f=>exact⟨rest.length,Ba _,done++inn.filter xT,rest,r,C,em2,by rw[hr,j3],hr'⟩
   |error e=>exact hr'
  exact VX lp<|yT I8 lp
end
mutual section
variable {B:Gu} {n np:Q} {J ρ':Ev} {t:Th}
variable {sc:w7} {Ln:D Lf}
def zam {P:Pg} {cl:HM} {a:X} (e:E0 P cl (.flat a) J=R (t,ρ')):∃rs,t=.l rs:=by
 refine zh e ?_;clear e;intro w ρ1 e1 e
 clear e1;induction w with
 |d m=>exact nO e
 |l l=>
 exact zB e λrs' er e=>jt e λhz e=>by clear er hz;cases e;exact⟨_,C⟩
def VZ {i:Q} {a:X} {x x1 x2:Lf} {p1 p2:Pos} {elt iter i2 cnd:Lb} {sc2:w7} {vars2:D Lf} {pos p p':Pos} (z9:zN B) (hs0:∀Lo,Fs Lo sc Ln→K8 (N4 elt (.Name x1 p1) iter (.Name x2 p2) i2 cnd sc2 pos) (R<|.Name x p') p.line Lo=pure f')
  (hfree:∀x∈sc2.names,x.2≠.free) (hkind:sc2.kind=.function)
  (hnames:∀x∈sc2.names,x.2=.local→sc2.names.lookup x.1=R .local) (hcell:∀x∈sc2.names,x.2≠.cell) (hlo:∀x∈vars2,sc2.names.lookup x=R .local) (M':QN B n sc2 vars2 x1 x2 elt i2 cnd)
  (hs:∀Lo x,J4 iter Lo x=pure x) (hv:Ln[i]?=R x) (Hi:HT B n sc Ln a iter):qo B n np sc Ln (.asg i<|.flat a)<|.Assign [.Name x p'] (N4 elt (.Name x1 p1) iter (.Name x2 p2) i2 cnd sc2 pos) p:=⟨by
 intro Lo A s σ ls P J ρ' fl e O n0 nd aa S F W
 refine zh e λt ρ1 e1 e=>jt e λhi e=>?_
 cases e
 refine Fg (zam e1) λrs e1=>?_
 subst e1
 refine rq (EH _ _ _ _<|hs0 Lo O) ?_
 refine q6<|J_<|q6 ?_
 refine(?_:q9 _ A (do let _ ←Ci (N4 elt (.Name x1 p1) iter (.Name x2 p2) i2 cnd sc2 pos) sc2 Lo _ (Ey []) La (V8 iter Lo) (R<|BA (.Name x p') Lo)) _ _ s)
 refine q6 (q5 (VY z9 hfree hkind hnames hcell hlo M' hs Hi e1 O aa S F W (use:=R<|BA (.Name x p') Lo) (Qf:=λH s'=>PS B np Ln σ s.heap Lo.locals ls .nx (st ρ1 i<|.l rs) .next s') λacc L2 s' σf P1 c=>?_)
  (λH s' hq=>j4<|j4 hq) λH H x=>x)
 refine(?_:q9 _ A (BA (.Name x p') Lo<|.ref acc) _ _ _)
 refine V7<|zX O (c.so.fm F) n0 nd hv (.ref acc) c.so.st λs2 S2 F2 b2=>?_
 refine Fg c.ns λmm hn=>?_
 refine E7 F.ns λmmL hnL H=>?_
 have hLL:L2≠Lo.locals:=by
  refine II hnL λob H H ho H=>?_
  exact λe=>c.fr _ _ ho F.no e.symm
 have hn2:s2.heap.Ns L2 mm:=by obtain⟨ob,es,ep,ho,rr⟩:=hn;exact⟨ob,es,ep,b2.keep _ _ hLL ho,rr⟩
 refine⟨mm,hn2,λh' sb=>?_⟩
 have b3:=qY (tk:=s2.toks) sb<|vj hn2
 have F3:Fm h' σf Lo.locals Ln<|OP ls i<|.ref acc:=by
  refine cps λGG kk=>?_
  obtain⟨mm,⟨ob,es,ep,ho,rr⟩,hl⟩:=F2.ns
  refine kk ?_
  exact⟨⟨mm,⟨ob,es,ep,b3.keep _ _ (Ne.symm hLL) ho,rr⟩,λi m e=>let ⟨x,v,a,b,c⟩:=hl i m e;⟨x,v,a,b,c.ext b3.te⟩⟩,F2.no⟩
 refine⟨σf,_,_,⟨(S2.but c.nL c.n0 b3 C C),⟨λa o e n l=>b3.keep a o (c.fr a o e n)<|b2.keep a o l<|c.so.step.un a o e n,c.so.step.dom⟩,c.so.own.put (N':=λa=>a=acc) (t:=.l rs) Gf (λj hj=>jj hj) ⟨acc,C,c.at_,C⟩ ?_ ?_,zg c.so.te<|zg b2.te b3.te,F3,λj hj=>jj<|oG hi hj⟩,trivial⟩
 ·clear z9 hs0 hfree hkind hnames hcell hlo M' hs hv Hi O n0 nd aa S F W hi e1 e S2 F2 b2 hn hnL H hLL hn2 sb b3 F3;rintro a C;refine rq c.at_ ?_;rfl
 ·clear z9 hs0;clear hfree hkind;clear hnames hcell;clear hlo M';clear hs hv;clear Hi O;clear n0 nd;clear aa S;clear F W;clear hi e1;clear e S2;clear F2 b2;clear hn hnL;clear H hLL;clear hn2 sb;clear b3 F3;rintro a j C _;exact c.ap j⟩
end
mutual namespace A
nonrec abbrev zS:Lf:=Y1 s!"sign"
nonrec abbrev yS:Lf:=Y1 s!"rows"
nonrec abbrev xS:Lf:=Y1 s!"place"
nonrec abbrev rS:Lf:=Y1 s!"range"
nonrec abbrev lS:Lf:=Y1 s!"len"
nonrec abbrev dS:Lf:=Y1 s!".0"
abbrev ZQ (r:D<|D Q):MV:=.tup<|r.map .str
abbrev N_:D (D Q)→X
 |[]=>.nil
 |k::r=>.cons (.lit<|.str k)<|N_ r
abbrev Nu:D (D<|D Q)→X
 |[]=>.nil
 |r::rs=>.cons (.tupD<|N_ r)<|Nu rs
def QO {P:Pg} {cl:HM} {J:Ev}:∀r:D<|D Q,Oi P cl (N_ r) J=R (r.map .str,J)
 |[]=>rfl
 |k::r=>by refine(?_:(Oi P cl (N_ r) J).map (λx=>(MV.str k::x.1,x.2))=_);refine rq (QO r) ?_;rfl
def Zg {P:Pg} {cl:HM} {J:Ev}:∀rs:D<|D<|D Q,(∀r∈rs,r.length≤k7)→Oi P cl (Nu rs) J=R (rs.map ZQ,J)
 |[],_=>rfl
 |r::rs,h=>by
  have T':E0 P cl (.tupD<|N_ r) J=R (.d<|ZQ r,J):=by
   refine(?_:(Oi P cl (N_ r) J).bind (λx=>if x.1.length≤k7 then R (Th.d<|.tup x.1,x.2)else Z)=_)
   rw[QO];exact Lh (by rw[j9];exact h r (j0 ..):(r.map MV.str).length≤k7)
  refine(?_:(E0 P cl (.tupD<|N_ r) J).bind (λy=>y.1.dat.bind λz=>(Oi P cl (Nu rs) y.2).map λw=>(z::w.1,w.2))=_)
  refine rq T' ?_
  refine(?_:(Oi P cl (Nu rs) J).map (λw=>(ZQ r::w.1,w.2))=_)
  refine rq (Zg rs λr hr=>h r (q_ _ hr)) ?_;rfl
nonrec abbrev We (p:Q→Pos) (k1 k2:Q) (sc2:w7):Lb:=.BinOp (.Subscript (.ListComp (.Name xS<|p 3) [⟨.Name xS<|p 4,.Call (.Name rS<|p 5) [.Call (.Name lS<|p 6) [.Name yS<|p 7] []<|p 8] []<|p 9,[.Compare (.Name zS<|p 10) [.In] [.Subscript (.Name yS<|p 11) (.Name xS<|p 12)<|p 13]<|p 14],0⟩] sc2<|p 15) (.Constant (.int 0) k1<|p 16)<|p 17) .Add (.Constant (.int 1) k2<|p 18)<|p 19
structure Wg (B:Gu) (f M':Q) (o:Obj) (fd:CP) (rows:D<|D<|D Q) (te:Lb) (sc2:w7) (body:D Q9):Prop where
 lk:B.G.K.lookup (B.fa f)=R o
 dt:o.data=.func fd
 bd:fd.body=.stmts body
 cd:codeIn B.G.K fd.code fd.qualname=f'
 gl:fd.globals=x_
 bi:fd.builtins=B9
 co:fd.scope.isCoroutine=La
 ge:fd.scope.isGenerator=La
 kd:fd.scope.kind=.function
 cs:fd.closure=[]
 nm:fd.scope.names=[(zS,ED),(yS,ED),(rS,Dv),(lS,Dv)]
 bn:∀v:q4,Bl fd ⟨[v],[]⟩=pure [(zS,v)]
 k2:sc2.kind=.function
 n2:sc2.names=[(dS,NameKind.local),(xS,NameKind.local),(yS,BO),(zS,BO)]
 br:CC B.G.K x_ rS=R Z
 bl:CC B.G.K x_ lS=R Z
 te_:∀n,Fj B n fd.scope [] (.tupD<|Nu rows) te
 ds:∀k m,zA k (B.P.ds M')=R m→∃i:Q,m=.int ((i:g')+1)∧((j5 rows.length).filter λj=>decide (k∈rows.getD j [])).head?=R i
 sz:rows.length≤100∧∀r∈rows,r.length≤100
 bo:∃(p:Q→Pos) (k1 k2:Q),body=[.Assign [.Name yS<|p 1] te<|p 2,.Return (R<|We p k1 k2 sc2)<|p 20]∧∀Lo,K8 te (R<|.Name yS<|p 1) (p 2).line Lo=pure La
end
mutual section
variable {B:Gu} {n:Q}
def QP {sc2:w7} {Lo:Env} {cr cs:w_} (n2:sc2.names=[(dS,NameKind.local),(xS,NameKind.local),(yS,BO),(zS,BO)]) (Y:Lo.cells.lookup yS=R cr) (T':Lo.cells.lookup zS=R cs):
  closureFor sc2 Lo=pure [(zS,cs),(yS,cr)]:=by
 unfold closureFor
 refine rq n2 ?_
 simp only[D.forIn_cons,D.forIn_nil];delta cellOf;simp only[Y,T']
 rfl
def yY {k:D Q}:∀r:D<|D Q,jD k (r.map .str)=R (decide (k∈r))
 |[]=>rfl
 |x::r=>by
  simp only[w5,jD,yY r,BC,w3]
  congr 1
  by_cases Y:x=k
  ·subst Y;simp
  ·have:¬k=x:=λe=>Y e.symm
   simp[Y,this]
def Zh {h:y9} {c:w_} {v:Lc q4} (x:h.IsCell c v):∀vs,¬Ic h c vs:=λvs ⟨k,e⟩=>by
 refine E7 x λo ho hd=>?_
 rw[e]at ho;replace ho:=z' ho;subst ho;contradiction
def zi3 {σ:MH} {s s':q7} {σ2:MH} (S:St B.G σ s) (S2:St B.G σ2 s') (T:FB (res σ λH=>False) σ2 s.heap s'.heap):St B.G σ s'∧∀b ob,s.heap.get? b=R ob→s'.heap.get? b=R ob:=by
 have z_:=Vy (N':=λH=>False) S S2 T
 exact⟨z_.st.le λa x e=>by rw[z_.old a id<|by rw[e];rfl];exact e,λb ob e=>T.un b ob e<|qM id⟩
def QQ {f M':Q} {o:Obj} {fd:CP} {rows:D<|D<|D Q} {te:Lb} {sc2:w7} {body:D Q9} (K:Wg B f M' o fd rows te sc2 body) {L a:w_}:
  (Y0 fd L a).cells=[(yS,L+2),(zS,L+1)]∧(Y0 fd L a).kindOf zS=R .cell∧(Y0 fd L a).kindOf yS=R .cell∧
  ∀G' cl,(D2 sc2 cl G'<|Y0 fd L a).kindOf zS=R .cell∧(D2 sc2 cl G'<|Y0 fd L a).kindOf yS=R .cell∧(D2 sc2 cl G'<|Y0 fd L a).kindOf xS=R .local:=by
 have hz:(Y0 fd L a).kindOf zS=R .cell:=by refine(?_:fd.scope.names.lookup zS=_);refine rq K.nm ?_;rfl
 have hy:(Y0 fd L a).kindOf yS=R .cell:=by refine(?_:fd.scope.names.lookup yS=_);refine rq K.nm ?_;rfl
 have hk:((Y0 fd L a).scope.kind==.function)=f':=by refine(?_:(fd.scope.kind==_)=_);refine rq K.kd ?_;rfl
 refine⟨by refine(?_:cellsFrom (L+1) fd.scope.names []=_);refine rq K.nm ?_;rfl,hz,hy,λG' cl=>?_⟩
 have e:(Dn sc2<|Y0 fd L a).names=[(dS,.local),(xS,.local),(yS,.cell),(zS,.cell)]:=by
  unfold Dn
  refine rq K.n2 ?_
  simp only[w5,DU,hz,hy,hk]
  rfl
 refine⟨?_,?_,?_⟩
 ·refine(?_:(Dn sc2<|Y0 fd L a).names.lookup zS=_);refine rq e ?_;rfl
 ·refine(?_:(Dn sc2<|Y0 fd L a).names.lookup yS=_);refine rq e ?_;rfl
 ·refine(?_:(Dn sc2<|Y0 fd L a).names.lookup xS=_);refine rq e ?_;rfl
variable {A:Z6} {s:q7} {σ:MH}
def zi4 {a:D Q} {t:Tok} {l:D MV} {v:q4} {b:Ld} (r:FP s.heap v<|.tup l) (e:jD a l=R b) {N':q4→q7→Prop} (h:N' (.bool b) s):
  q9 B.G.M A (K3 .In (.str (E5 a) t) v) N' Er s:=by
 refine r.tup_i λp vs eT hp rp=>?_
 ·clear r;subst eT
  refine qk (vI rp e) λi1 i2=>?_
  refine SeqAt.in_tupleAt (λv=>match v with| .str x _=>x==E5 a|_=>La) hp.isTuple (λy hy=>?_) ?_
  ·refine Ib (i1 y<|by simpa using hy) λl t' e2=>?_
   clear hy;subst e2
   exact SeqAt.EqAt.str_str _ _ _ _
  ·rw[show vs.toArray.any _=b from by rw[C_];exact i2]
   exact h
def FP.tupT {l:D MV} {v:q4} (r:FP s.heap v<|.tup l):s.TypeIs v s!"tuple":=r.tup_i λp vs e hp rp=>by refine rq e ?_;exact hp.isTuple.typeIs
def zi5 {j n:Q} (h:j<n):BG (j:g') n=R j:=by
 unfold BG
 have Y:¬((j:g')<0):=by exact xN
 simp[Y,h]
def zee {l:D MV} {v:q4} {j:Q} {t:Tok} {m:MV} (r:FP s.heap v<|.tup l) (hz:l.length<2^62) (em:l[j]?=R m) {N':q4→q7→Prop} (h:∀y,FP s.heap y m→N' y s):
  q9 B.G.M A (BX v<|.int (j:g') t) N' Er s:=by
 refine r.tup_i λa vs eT ha ra=>?_
 ·clear r;subst eT
  refine Fg (id ha) λn ha'=>?_
  refine E7 (ra.get em) λy hy ry=>?_
  have e:=zi5 (D.getElem?_eq_some_iff.mp em).1
  refine JS (ZE e hz) λb1 b2 H H=>?_
  refine P.getItem_tuple ha' b1 b2 (k:=j) (by(rewrite [qR];refine rq ra.length ?_);exact e) (y:=y) (by simpa using hy) ?_
  exact h y ry
def QR {prog:CG} {w:Ep} {A:Z6} {I:w_} {fp wr:D w_} {n:Q} {P:Q→q4→Prop} {St:Q→y9→Prop} (W:Walks prog w A I fp wr n P St):Walks prog w A I fp wr n (λi v=>i<n∧P i v) St:=
 ⟨W.sub,W.frame,λi s N' E hi st hQ=>W.item i s N' E hi st λv h' tk p=>hQ v h' tk ⟨hi,p⟩,W.done,W.self⟩
def QS {p:q4→Ld} {q:Q→Ld} (hpq:∀(j:Q) (t:Tok),p (Ct (j:g') t)=q j):∀{vs:D q4} {b i:Q},(∀j v,vs[j]?=R v→∃t,v=Ct ((b+j:Q):g') t)→
  ((Dg b vs.length).filter q).head?=R i→∃t,(vs.filter p).head?=R (Ct (i:g') t)
 |[],b,i,_,h=>by simp at h
 |v::vs,b,i,hv,h=>by
  refine Fg (hv 0 v C) λt e1=>?_
  subst e1
  rw[C3]at*
  rw[j1,Cb,X']at h
  (refine rq X' ?_;rw[hpq])
  induction hq:q b with
  |f'=>rw[hq,Lh C]at h;replace h:=z' h;subst h;exact⟨t,by refine rq (Lh C) ?_;rfl⟩
  |La=>
   rw[hq,Lj<|by decide]at h
   refine rq (Lj<|by decide) ?_
   exact QS hpq (λj v e=>by have:=hv (j+1) v (by simpa using e);rwa [show b+(j+1)=b+1+j by exact(@RN _ _)]at this) h
def Ya {l₁ l₂:D q4} (h:Paired (λv y=>y=v) l₁ l₂):l₂=l₁:=by
 induction h with
 |nil=>rfl
 |cons h t ih=>exact rq h<|rq ih C
def zan {f M':Q} {o:Obj} {fd:CP} {rows:D<|D<|D Q} {te:Lb} {sc2:w7} {body:D Q9} (z9:zN B) (K:Wg B f M' o fd rows te sc2 body) {L a:w_} {Lo:Env} (he:Lo=Y0 fd L a)
  (hh:A.handled=Z) (S:St B.G σ s) {v2:q4} {k:D Q} {tk:Tok} {i:Q} (cz:s.heap.IsCell (L+1)<|R<|.str (E5 k) tk) (cy:s.heap.IsCell (L+2)<|R v2) (r2:FP s.heap v2<|.tup<|rows.map ZQ) (O:Fs Lo fd.scope [])
  (hi:((j5 rows.length).filter λj=>decide (k∈rows.getD j [])).head?=R i) {N':q4→q7→Prop} (q:∀t h' tk',(∀b ob,s.heap.get? b=R ob→h'.get? b=R ob)→N' (.int ((i:g')+1) t) {s with heap:=h',toks:=tk'})
  {p:Q→Pos} {k1 k2:Q}:q9 B.G.M A (V8 (We p k1 k2 sc2) Lo) N' Er s:=by
 refine JS (QQ K (L:=L) (a:=a)) λec hz hy T'=>?_
 rw[←he]at ec hz hy T'
 have ly:Lo.cells.lookup yS=R (L+2):=by refine rq ec ?_;rfl
 have sz:=K.sz.1
 refine wpAny_BinOp<|B_<|wpAny_ListComp_free (λv=>match v with| .int j _=>decide (k∈rows.getD j.toNat [])|_=>La) (λv y=>y=v) (QP K.n2 ly (by refine rq ec ?_;rfl:Lo.cells.lookup zS=R (L+1))) ?_ K.k2 ?_ ?_ ?_
 ·refine rq K.n2 ?_;decide
 ·refine rq K.n2 ?_;decide
 ·refine rq K.n2 ?_;rfl
 refine W4<|qS z9 O S (x:=rS) (by refine rq K.nm ?_;rfl) (by decide) K.br C (by decide) ?_
 refine ko C<|w4 (W4<|qS z9 O S (x:=lS) (by refine rq K.nm ?_;rfl) (by decide) K.bl C (by decide) ?_) C
 refine qd (first:=[]) C<|w4 (CB (CY O.kind hy ly cy ?_)<|by decide) C
 refine Z7 ?_
 refine r2.tup_i λa2 w2 eT ha2 ra2=>?_
 subst eT
 have r2:FP s.heap (.ref a2)<|.tup<|rows.map ZQ:=.tup a2 w2 _ ha2 ra2
 have hl2:w2.length=rows.length:=by(refine rq ra2.length ?_;rw[j9])
 refine Fg (id ha2) λn2 ha2'=>?_
 refine P.len_tuple ha2' (by(rewrite [qR];refine rq hl2 ?_);exact zph sz) ?_
 (rewrite [qR];refine rq hl2 ?_)
 refine Z7<|call_range_1 ?_
 have e1:CV 0 (rows.length:g') 1=(rows.length:g'):=(rangeSize_one ..).trans<|oI<|Q3 _
 refine wpAny_pyIter_range (IsRange.new s.heap 0 (rows.length:g') 1 _ _ _) (small_one (by decide) (by decide) zpi<|zpj sz) ?_
 refine rq e1 ?_
 dsimp only
 generalize hr1:s.heap.push {cls:=Cc s!"range",data:=_}=Y
 have kp1:∀b ob,s.heap.get? b=R ob→Y.get? b=R ob:=λb ob e=>hr1▸Heap.get?_push_of_some _ e
 generalize hr2:Y.push {cls:=Cc s!"range_iterator",data:=_}=h2'
 have kp2:∀b ob,s.heap.get? b=R ob→h2'.get? b=R ob:=λb ob e=>hr2▸Heap.get?_push_of_some _ (kp1 b ob e)
 generalize s.toks+1+1+1+1=T2
 have hI:IsRangeIter h2' Y.objs.size 0 rows.length 1:=hr2▸Heap.get?_push_size _ C
 have I0:∀b ob,s.heap.get? b=R ob→b≠Y.objs.size:=λb ob e=>Z3<|Z2<|kp1 b ob e
 refine⟨Y.objs.size,[Y.objs.size],[Y.objs.size],rows.length,_,_,C,QR<|Walks.range hh Y.objs.size 0 1 rows.length,by refine rq W_ ?_;exact Ga sz omT,?_,?_,⟨?_,?_⟩,?_⟩
 ·simpa using hI
 ·intro b hb
  rw[Z0]at hb
  refine rq hb ?_;exact Z2 hI
 ·intro G' j v s3 m3 E' hC hP hn hx hk _
  clear z9 he hh S O ec hz hy ly ha2 ra2 hl2 ha2' e1 hr1 kp1 hr2 hI a_1;obtain⟨hj,t,C⟩:=hP
  have ej:(0:g')+(j:g')*1=(j:g'):=by exact zpk
  rw[ej]at hx⊢
  refine yG (T' G' [((zS:Lf),L+1),((yS:Lf),L+2)]) λkz ky kx=>?_
  have kp3:∀b ob,s.heap.get? b=R ob→s3.heap.get? b=R ob:=λb ob e=>hk b ob (by rw[Z0];exact I0 b ob e)<|kp2 b ob e
  have te3:zQ s.heap s3.heap:=λb vs ⟨k,e⟩=>⟨k,kp3 _ _ e⟩
  have er:(rows.map ZQ)[j]?=R (ZQ<|rows.getD j []):=by
   (refine rq (D.getElem?_map) ?_;refine rq (D.getElem?_eq_getElem hj) ?_;rewrite [BC];refine rq (D.getD_eq_getElem?_getD) ?_;refine rq (D.getElem?_eq_getElem hj) ?_);rfl
  have kc:(D2 sc2 [((zS:Lf),L+1),((yS:Lf),L+2)] G' Lo).scope.kind=.function:=K.k2
  refine kL<|wpAny_tests_one<|BF (CB (CY kc kz C (cz.keeps kp3) ?_)<|by decide) C
  refine B_<|CB (CY kc ky C (cy.keeps kp3) ?_)<|by decide
  refine CB (BM kc kx hn hx ?_)<|by decide
  refine jC ((r2.ext te3).tupT) De.lookup (.inl C)<|zee (r2.ext te3) (by rw[j9];exact zpl sz) er λy ry=>?_
  refine zi4 (b:=decide (k∈rows.getD j [])) ry (yY _) ?_
  exact Bx ⟨by refine(?_:_=decide (k∈rows.getD (g'.toNat (j:g')) []));rw[EL],_,_,C,λH H e=>e⟩
 ·intro G' j v s3 m3 E' hC hP hpv hn hx hk _
  refine yG (T' G' [((zS:Lf),L+1),((yS:Lf),L+2)]) λkz ky kx=>?_
  exact kL<|CB (BM (K.k2:(D2 sc2 [((zS:Lf),L+1),((yS:Lf),L+2)] G' Lo).scope.kind=.function) kx hn hx ⟨C,_,_,C,λH H e=>e⟩)<|by decide
 ·intro D' h' tk' ys vs hD hl hp hlen hP hF hk
  rw[Cu,←hlen]at hi
  obtain⟨t,ht⟩:=QS (p:=λv=>match v with| .int j _=>decide (k∈rows.getD j.toNat [])|_=>La) (q:=λj=>decide (k∈rows.getD j [])) (λj t=>by refine(?_:decide (k∈rows.getD (g'.toNat (j:g')) [])=_);rw[EL])
   (vs:=vs) (b:=0) (λj v e=>by
    clear K cz T' sz cy r2 hD hp hlen z9;clear he hh;clear S O;clear ec hz;clear hy ly;clear ha2 ra2;clear hl2 ha2';clear e1 hr1;clear kp1 hr2 hI;obtain⟨_,t,C⟩:=hP j v e
    exact⟨t,by exact rq (om595:(0:g')+(j:g')*1=((0+j:Q):g')) C⟩) hi
  have hy0:ys[0]?=R (.int (i:g') t):=by
   have:=Ya hF
   (refine rp (Array.getElem?_toList) ?_;refine rq this ?_;refine rp (D.head?_eq_getElem?) ?_);exact ht
  refine Y9<|jC hl.typeIs Dm.lookup (.inl C)<|wpAny_getItem_list hl (by decide) (by decide) hy0 ?_
  exact Y9<|wpAny_add_int<|q _ _ _ (λb ob e=>hk b ob (by rw[Z0];exact I0 b ob e) (kp2 b ob e):∀b ob,s.heap.get? b=R ob→h'.get? b=R ob)
end
mutual section
variable {B:Gu}
def zp5 {P:Pg} {cl:HM} {W np:Q} {x:X} {J:Ev} {v:Lc<|Th×Ev} (h:E0 P cl x J=v):Fc P cl W np #v[.ret x] J=v.map λy=>(.rt y.1,y.2):=by
 subst h;show((E0 P cl x J).bind _).bind _=_;cases E0 P cl x J<;>rfl
abbrev mj (P:Pg) (cl:HM) (W M':Q) (a:Ev):Lc<|Th×Ev:=if a.length=1 then(Fc P cl W 1 #v[.ret<|.didx M'<|.var 0] (a++[])).bind λ(fl,J)=>match fl with
 | .rt v=>R (v,J.take 1)
 | .nx=>R (.d .none,J.take 1)
 | .br=>Z
 else Z
def zi6 {P:Pg} {cl:HM} {W M':Q} (a:Ev):(∃k,a=[R<|.d<|.str k])∨mj P cl W M' a=Z:=match a with
 |[R<|.d<|.str k]=>.inl ⟨k,C⟩
 |[R<|.d .none]=>.inr C
 |[R<|.d<|.bool _]=>.inr C
 |[R<|.d<|.int _]=>.inr C
 |[R<|.d<|.tup _]=>.inr C
 |[R<|.d<|.ref _]=>.inr C
 |[R<|.l _]=>.inr C
 |[R<|.o _ _]=>.inr C
 |[Z]=>.inr C
 |[]=>.inr C
 |_::_::_=>.inr C
def zi7 {P:Pg} {cl:HM} {W M':Q} (k:D Q):mj P cl W M' [R<|.d<|.str k]=(zA k<|P.ds M').map λz=>(Th.d z,[R<|Th.d<|.str k]):=by
 refine(?_:(Fc P cl W 1 #v[.ret<|.didx M'<|.var 0] [R<|.d<|.str k]).bind _=_)
 rw[zp5 (v:=(zA k<|P.ds M').map λz=>(Th.d z,[R<|Th.d<|.str k])) C]
 cases zA k (P.ds M')<;>rfl
def zap {P:Pg} {W n f M':Q} {args args':Ev} {r:Th} (hF:P.fn f=R ⟨1,0,#v[.ret<|.didx M'<|.var 0]⟩) (e:EZ P W (n+1) f args=R (r,args')):∃k m,args=[R<|.d<|.str k]∧zA k (P.ds M')=R m∧r=.d m∧args'=args:=by
 refine zB (o:=P.fn f) e ?_;clear e;intro F hF' e
 obtain C:=z'<|hF'.symm.trans hF
 replace e:mj P (EZ P W n) W M' args=R (r,args'):=e
 clear hF hF'
 rcases zi6 (P:=P) (cl:=EZ P W n) (W:=W) (M':=M') args with⟨k,C⟩|h
 ·exact qa ((zi7 k).symm.trans e) λm hm e=>qK (Li R e) λa b=>⟨k,m,C,hm,a.symm,b.symm⟩
 ·exact nO<|h.symm.trans e
def QU {f M':Q} {o:Obj} {fd:CP} {rows:D<|D<|D Q} {te:Lb} {sc2:w7} {body:D Q9} (z9:zN B) (hF:B.P.fn f=R ⟨1,0,#v[.ret<|.didx M'<|.var 0]⟩) (K:Wg B f M' o fd rows te sc2 body):o3 B f:=⟨by
 intro n args args' r A s σ ms vs P e aa S rl hl W
 refine Og (zap hF e) λk m e2 hm e4 e5=>?_
 clear e;subst e2
 subst e4
 subst e5
 refine Fg (D.length_eq_one_iff.mp hl.symm) λm0 em=>?_
 clear hl;subst em
 refine rl.cons_i λv0 ws ev r0 rn=>?_
 cases rn.nil_i
 clear rl;subst ev
 refine E7 (W.at_ 0 _ C) λm1 Y T'=>?_
 have Y:=z' Y;subst Y
 clear hF;subst T'
 refine r0.str_i λtk ek=>?_
 clear r0;subst ek
 refine E7 (K.ds k m hm) λi e1 hi=>?_
 clear hm;subst e1
 have hX:=S.K z9.X
 refine Fg (⟨_,C⟩:∃L,s.heap.objs.size=L) λL hL=>?_
 refine codeAny_call_cells (fd:=fd) (body:=body) (binds:=[(zS,.str (E5 k) tk)]) (by have:=aa.dp;exact Tx this) (hX _ _ K.lk) K.dt (z9.lim.keeps S.keep) (codeRec_of hX K.cd) K.bd (K.bn _) K.cs
  (λx hx=>by
   rw[Z0]at hx
   subst hx
   refine .inr ⟨by refine rq K.nm ?_;rfl,?_⟩
   refine rq K.nm ?_;rfl) (λs1 G'=>?_) K.co K.ge K.kd
 (replace G':=hL▸G';refine rq hL ?_)
 refine JS (QQ K (L:=L) (a:=B.fa f)) λec hz hy T'=>?_
 refine Fg (⟨_,C⟩:∃Lo,Lo=Y0 fd L (B.fa f)) λLo he=>?_
 (replace G':=he▸G';replace ec:=he▸ec;replace hz:=he▸hz;replace hy:=he▸hy;replace T':=he▸T';refine rp he ?_)
 have eL:Lo.locals=L:=by refine rq he ?_;rfl
 have eb:∀y,bindC Lo.kindOf [(zS,DM (E5 k) tk)] (λH=>Z) y=if y=zS then R (DM (E5 k) tk)else Z:=λy=>congrFun (Lj (by rw[hz];decide):(if Lo.kindOf zS=R .local then(λH=>Z)else λy=>if y=zS then R (DM (E5 k) tk)else Z)=_) y
 have cz:=G'.cell zS (L+1)<|by refine rq ec ?_;rfl
 rw[eb,Lh C]at cz
 have cy:=G'.cell yS (L+2)<|by refine rq ec ?_;rfl
 rw[eb,Lj<|by decide]at cy
 refine Ib G'.toInCall.same λY tk1 es1=>?_
 have k1:=G'.toInCall.keep
 have S1:St B.G σ s1:=by
  (replace k1:=es1▸k1;refine rq es1 ?_)
  exact S.ext k1
 have fL:σ L=Z:=by refine rp hL ?_;exact S.fresh
 have fS:∀a,L≤a→σ a=Z∧B.G.h0.get? a=Z:=λa ha=>by
  refine⟨?_,?_⟩
  ·cases q:σ a with
   |Z=>rfl
   |R x=>
    refine Fg ((S.own _ _ q).some) λo ho=>?_
    exact Lg (Z2 ho)<|Y3.mpr<|by refine rq hL ?_;exact ha
  ·cases q:B.G.h0.get? a with
   |Z=>rfl
   |R x=>exact Lg (Z2<|S.keep _ _ q)<|Y3.mpr<|by refine rq hL ?_;exact ha
 have O:Fs Lo fd.scope []:=by refine rq he ?_;exact⟨C,K.gl,K.bi,K.kd,λx hx=>by cases hx⟩
 have aa0:Nl (A.deeper Lo) n:=⟨aa.hd,by have:=aa.dp;refine(?_:A.depth+1+_+1<_);exact Ty this,by have:=aa.un;refine(?_:A.units+3+_+200<_);exact TA this⟩
 have F1:Fm s1.heap σ Lo.locals [] λH=>Z:=⟨⟨_,G'.toInCall.ns,λi m e=>nO e⟩,by refine rq eL ?_;exact fL⟩
 have szr:∀r∈rows,r.length≤k7:=λr hr=>by have:=K.sz.2 r hr;refine rq W_ ?_;exact Ga this omT
 have szs:(rows.map ZQ).length≤k7:=by(rewrite [j9];refine rq W_ ?_);have:=K.sz.1;exact Ga this omT
 refine II K.bo λp q1 q2 hb hsw=>?_
 refine rq hb ?_
 refine kL (Cs (Dl (q5 ((K.te_ n).h (J:=[]) (ρ':=[]) (t:=.d<|.tup<|rows.map ZQ) (by refine(?_:(Oi B.P (EZ B.P B.W n) (Nu rows) []).bind (λx=>if x.1.length≤k7 then R (Th.d<|.tup x.1,x.2)else Z)=_);refine rq (Zg rows szr) ?_;exact Lh szs) O aa0 (S1.le<|jG _ λH=>False) F1.res
  (Gg.none (P:=λH H=>False) (λH H H h=>h.elim) λH H h=>h.elim)) (λv2 s2 h2'=>?_) λH H x=>x)<|hsw Lo))
 obtain⟨r2,σ2,P2,x2⟩:=h2'.dat C
 refine qk (zi3 S1 x2.st x2.step) λS2 k2=>?_
 refine wpAny_storeName_cell O.kind hy (by refine rq ec ?_;rfl) (cy.keeps k2) λh3 c3 sb3=>?_
 have S3:St B.G σ {s2 with heap:=h3}:=S2.but (fS _<|Q8 _ _).1 (fS _<|Q8 _ _).2 (qY (tk:=s2.toks) sb3<|Zh<|cy.keeps k2) C C
 have te3:zQ s2.heap h3:=(qY (tk:=s2.toks) sb3<|Zh<|cy.keeps k2).te
 refine Cs<|wpAny_Return_some<|zan z9 K he aa0.hd S3 ((cz.keeps k2).sameBut sb3<|Z3<|Ba _) c3 (r2.ext te3) O hi λt h4 tk4 k4=>?_
 have kk:∀b ob,s.heap.get? b=R ob→h4.get? b=R ob:=λb ob e=>k4 b ob ((sb3.2 b (by
  have:(b:Q)<s.heap.objs.size:=Z2 e
  replace this:=hL▸this
  exact Z3<|v_ this (Q8 _ _))).trans<|k2 b ob<|k1 b ob e)
 have S4:St B.G σ {s2 with heap:=h4,toks:=tk4}:=S3.ext k4
 exact PD.pe ⟨.int _ _,σ,P,S4,FB.ext kk,W,λa vs ⟨k,e⟩=>⟨k,kk _ _ e⟩,λe=>nB e⟩⟩
end
mutual namespace A
abbrev OS:X→Ld
 | .var _=>f'
 |_=>La
end
mutual section
variable {B:Gu} {n np:Q} {σ σ' σ'':MH} {h h':y9} {ls ls':Q→Lc MV} {pu pu':Ld} {t:Th} {m:MV} {J ρ' ρ'':Ev} {v:q4} {s s' s'':q7} {P P' P'':Q→Fp} {A:Z6}
variable {sc:w7} {Ln:D Lf}
def zef {a:X} {l:Lb} {p:Pos} (Ha:Fj B n sc Ln a l):Fj B n sc Ln (.not a)<|.UnaryOp .Not l p:=⟨by
 intro Lo A s σ ls P J ρ' t e O aa S F W
 refine zh e ?_;clear e;intro x ρ1 e1 e
 refine qa e ?_;clear e;intro c ec e
 cases e
 cases qH ec
 refine wpAny_UnaryOp<|q5 (Ha.h e1 O aa S F W) (λv s1 Y=>?_) λH H x=>x
 obtain⟨r1,σ1,P1,x1⟩:=Y.dat C
 clear ec e1 Y;subst r1
 unfold unaryOp
 refine Bj ?_
 exact q6<|Bx<|j4<|PD.pe ⟨.bool _,σ1,P1,x1.weak⟩⟩
def zp6 {h:y9} {x:Lf} {l:D Q} {t:Tok} (e:x=E5 l):FP h (.str x t)<|.str l:=by subst e;exact .str l t
def ZR {a:w_} {x:MO} (h:σ a=Z):Le σ<|upd σ a x:=λb y e=>by
 have:b≠a:=by rintro C;replace e:=h▸e;exact nO e
 refine rq (zE _ _ this) ?_;exact e
def xU {G:Gl} {σ:MH} {s:q7} {k:MV→MH→Prop} {l:D MV} {vs:D q4} {b a:w_} {vl vu:q4} {lo hi:Lc Q} (S:St G σ s) (hb:s.heap.IsList b vs.toArray) (rb:FJ s.heap vs l) (hs:s.heap.get? a=R {cls:=.type s!"slice",data:=.fields<|D.toArray [vl,vu,.none]}) (pl:Gz vl lo) (pu:Gz vu hi)
  (hz:l.length≤k7) (h:∀a,σ a=Z→G.h0.get? a=Z→k (.ref a) (upd σ a<|.list<|Hn l lo hi)):q9 G.M A (BX (.ref b)<|.ref a) (Fh G σ s k) Er s:=by
 refine wpAny_getItem_list_slice (lo:=lo.map J3) (hi:=hi.map J3) (st:=Z) hb ⟨_,hs,C,C⟩ (yc pl) (yc pu) .none (by simp) ?_<|by(rewrite [qR];refine rq rb.length ?_);exact hz
 rw[xP]
 refine⟨.ref _,_,.ref _,S.alloc (x:=.list<|Hn l lo hi) ⟨Hn vs lo hi,⟨0,Heap.get?_push_size _ C⟩,?_⟩,FB.alloc _ _ _ _,h _ S.fresh S.fresh0⟩
 have:FJ s.heap (Hn vs lo hi)<|Hn l lo hi:=by
  unfold Hn
  refine rq rb.length ?_
  exact(rb.take _).drop _
 exact this.ext<|zj _ _
def kR {h h':y9} {a:w_} {items:Array q4} (x:h.IsList a items) (k:∀o,h.get? a=R o→h'.get? a=R o):h'.IsList a items:=let ⟨o,e,r⟩:=x;⟨o,k _ e,r⟩
def zaq {l:D MV} {vs:D q4} {sa:w_} {xs xl:Lf} {p1 p2 p3 p4 p5 p6:Pos} {k1:Q} {Lo:Env} (z9:zN B) (hb:wC B sc xl<|.type s!"list") (O:Fs Lo sc Ln) (S:St B.G σ s) (F:Fm s.heap σ Lo.locals Ln ls) (W:Gg B σ ls J P)
  (hv:Ln[0]?=R xs) (hd:(xs==(s!"__debug__":Lf))=La) (hls:ls 0=R (.ref sa)) (ha:s.heap.IsList sa vs.toArray) (rl:FJ s.heap vs l) (nσ:σ sa=Z) (hz:l.length≤100) {N':q4→q7→Prop}
  (q:∀a s',σ a=Z→B.G.h0.get? a=Z→SO B σ s.heap ls f' J s' σ P→St B.G (upd σ a<|.list<|Hn l Z<|R 60) s'→(∀o,s.heap.get? a≠R o)→N' (.ref a) s'):
  q9 B.G.M A (V8 (.Call (.Name xl p1) [.Subscript (.Name xs p2) (.Slice Z (R<|.Constant (.int 60) k1 p3) Z p4) p5] [] p6) Lo) N' Er s:=by
 refine W4<|qS z9 O S hb.hx hb.hd hb.hk hb.hb hb.hn ?_
 refine ko C<|w4 (B_<|zH O F hv hd hls λv r=>?_) C
 cases r.ref_i
 refine wpAny_Slice<|j4 ?_
 refine(?_:q9 _ _ (V8 (.Constant (.int 60) k1 p3) Lo) _ _ _)
 refine Y9 ?_
 refine j4 ?_
 have x4:SO B σ s.heap ls f' J {s with heap:=s.heap.push {cls:=.type s!"slice",data:=.fields<|D.toArray [.none,.int 60 s.toks,.none]},toks:=s.toks+1} σ P:=
  ((SO.refl S W).more (S.toks<|s.toks+1)<|FB.refl _ _).more ((S.toks<|s.toks+1).push {cls:=.type s!"slice",data:=.fields<|D.toArray [.none,.int 60 s.toks,.none]}) (FB.push _ _ _)
 have hs:(s.heap.push {cls:=.type s!"slice",data:=.fields<|D.toArray [.none,.int 60 s.toks,.none]}).get? s.heap.objs.size=R {cls:=.type s!"slice",data:=.fields<|D.toArray [.none,.int 60 s.toks,.none]}:=Heap.get?_push_size _ C
 have ha4:(s.heap.push {cls:=.type s!"slice",data:=.fields<|D.toArray [.none,.int 60 s.toks,.none]}).IsList sa vs.toArray:=kR ha λo e=>x4.step.un _ _ e nσ
 refine jC (T:=s!"list") ha4.typeIs Dm.lookup (.inr C) ?_
 refine q5 (xU (k:=λm τ=>∃a,σ a=Z∧B.G.h0.get? a=Z∧m=.ref a∧τ=upd σ a (.list<|Hn l Z<|R 60)) x4.st ha4 (rl.ext<|zj _ _) hs (ke (h:=s.heap) .none C) (ke (h:=s.heap) (.int 60 _) C) (by refine rq W_ ?_;exact Ga hz omT) λa Y T'=>⟨a,Y,T',C,C⟩) (λz s5 h5=>?_) λH H x=>x
 clear z9 hb O S F W hv hd hls ha rl hz r hs ha4;obtain⟨m5,τ,r5,S5,T5,a5,f5,g5,C,C⟩:=h5
 cases r5.ref_i
 refine Z7 ?_
 refine E7 (S5.own _ _<|zJ _ _ _) λvs5 ha5 rl5=>?_
 have S5':=S5.le<|ZR f5
 have x5:=x4.more S5'<|T5.le<|ZR f5
 refine q5 (Qo (k:=λm τ=>∃a,σ a=Z∧B.G.h0.get? a=Z∧m=.ref a∧τ=upd σ a (.list<|Hn l Z<|R 60)) S5' ha5 rl5 (by refine rq W_ ?_;unfold Hn;simp;exact zpm) λa Y T'=>⟨a,Y,T',C,C⟩) (λz s6 h6=>?_) λH H x=>x
 clear x4 f5 g5 S5 T5 r5 ha5 rl5 S5';obtain⟨m6,τ,r6,S6,T6,a6,f6,g6,C,C⟩:=h6
 cases r6.ref_i
 refine q a6 s6 f6 g6 (x5.more (S6.le<|ZR f6)<|T6.le<|ZR f6) S6 λo e=>?_
 have:=T6.dom a6 o (x5.step.un a6 o e f6) f6
 rw[zJ]at this;contradiction
def zar {l:D MV} {vs:D q4} {sa:w_} {xs xl xt kc ks kl:Lf} {p1 p2 p3 p4 p5 p6 p7 p8 p9 p10 p11 p12 p13 p14:Pos} {k1 k2 k3 k4 k5 k6:Q} {Lo:Env} (z9:zN B) (hb:wC B sc xl<|.type s!"list") (O:Fs Lo sc Ln) (n0:B.G.h0.get? Lo.locals=Z) (nd:Ln.Nodup) (S:St B.G σ s)
  (F:Fm s.heap σ Lo.locals Ln ls) (W:Gg B σ ls J P) (hv:Ln[0]?=R xs) (hd:(xs==(s!"__debug__":Lf))=La) (ht:Ln[1]?=R xt) (hls:ls 0=R (.ref sa)) (ha:s.heap.IsList sa vs.toArray) (rl:FJ s.heap vs l) (nσ:σ sa=Z) (hz:l.length≤100)
  (U':kc=E5 "cells") (hs:ks=E5 "spot") (hl:kl=E5 "left"):
  q9 B.G.M A (exec (.Assign [.Name xt p7] (.Dict [R<|.Constant (.str kc) k2 p8,R<|.Constant (.str ks) k3 p9,R<|.Constant (.str kl) k4 p10] [.Call (.Name xl p1) [.Subscript (.Name xs p2) (.Slice Z (R<|.Constant (.int 60) k1 p3) Z p4) p5] [] p6,.Constant (.int 0) k5 p11,.Constant (.int 9) k6 p12] p13) p14) Lo)
   (PS B 1 Ln σ s.heap Lo.locals ls .nx<|st J 1<|.o 0 [.l<|Hn l Z<|R 60,.d<|.int 0,.d<|.int 9]) Er s:=by
 subst U' hs hl
 refine Dl (wpAny_Dict_walk (knd:=strKind B.G.prog B.G.w) C C (λh=>nomatch h) (by simp) ?_) C
 refine Fg (⟨_,C⟩:∃M',s.heap.objs.size=M') λM' hD=>?_
 have Sp:=S.push {cls:=.type s!"dict",data:=.dict<|D.toArray []}
 have fD:σ M'=Z:=by refine rp hD ?_;exact S.fresh
 have f0:B.G.h0.get? M'=Z:=by refine rp hD ?_;exact S.fresh0
 have hnew:=DX (knd:=strKind B.G.prog B.G.w) s.heap
 (replace hnew:=hD▸hnew;refine rq hD ?_)
 have Xp:SO B σ s.heap ls f' J {s with heap:=s.heap.push {cls:=.type s!"dict",data:=.dict<|D.toArray []}} σ P:=⟨Sp,FB.push _ _ _,W,zj _ _,λH=>C⟩
 refine BU<|V2 ?_
 have X1:=Xp.more (Sp.toks<|s.toks+1)<|FB.refl _ _
 refine zaq (ls:=ls) (J:=J) (P:=P) (l:=l) (vs:=vs) (sa:=sa) z9 hb O X1.st (X1.fm F) X1.own hv hd hls (kR ha λo e=>Heap.get?_push_of_some _ e) (rl.ext<|zj _ _) nσ hz λa s2 f2 g2 x2 S2 ne2=>?_
 refine BU<|V2<|Y9 ?_
 refine BU<|V2<|Y9 ?_
 refine pairTrees_nil_walk ?_
 have S2':=(S2.toks<|s2.toks+1).toks<|s2.toks+1+1
 have nDa:M'≠a:=by
  rintro C
  refine E7 (MapOf.obj (G:=B.G) hnew.mapOf) λo ho H=>?_
  exact ne2 o ho
 have d1:s2.heap.DictOf (strKind B.G.prog B.G.w) M' []:=by
  refine II hnew λo es ep ho hr=>?_
  exact⟨o,es,ep,x2.step.un _ _ ho fD,hr⟩
 refine display_done_str (P:=λh'=>q9 B.G.M A (storeName Lo xt<|.ref M') _ Er {s2 with heap:=h',toks:=_}) C ?_ d1 λh3 d3 sb=>?_
 ·refine(?_:([E5 _,E5 _,E5 _]:D Lf).Nodup)
  decide
 have b3:=qY (tk:=s2.toks) sb<|vn d1.mapOf
 have nD2:upd σ a (.list<|Hn l Z<|R 60) M'=Z:=by refine rq (zE _ _ nDa) ?_;exact fD
 have x02:=Xp.trans x2
 have S3:=λtk=>(S2.but (s':={s2 with heap:=h3,toks:=tk}) nD2 f0 ⟨b3.keep,b3.te⟩ C C)
 have kp:∀b o,s.heap.get? b=R o→σ b=Z→h3.get? b=R o:=λb o e n=>b3.keep b o (by
  rintro C;replace e:=hD▸e;exact Lg (Z2 e)<|V0 _)<|x02.step.un b o e n
 have HD:Holds B.G h3 M'<|.dict [("cells",.ref a),("spot",.int 0),("left",.int 9)]:=
  Qt d3 #[.ref _,.int _ _,.int _ _]
 refine Fg (⟨_,C⟩:∃σ3,σ3=upd (upd σ a<|.list<|Hn l Z<|R 60) M' (.dict [("cells",.ref a),("spot",.int 0),("left",.int 9)])) λσ3 e3=>?_
 have S4:∀tk,St B.G σ3 {s2 with heap:=h3,toks:=tk}:=λtk=>⟨(S3 tk).keep,λb y e=>by
   by_cases hb:b=M'
   ·clear hnew d1 d3 sb nD2;subst hb;(replace e:=e3▸e;rw[zJ]at e);replace e:=z' e;clear g2 S2 S2';subst e;exact HD
   ·(replace e:=e3▸e;replace e:=(zE _ _ hb)▸e);exact(S3 tk).own b y e,λb y e=>by
   by_cases hb:b=M'
   ·clear HD hnew;clear d1 d3;clear sb nD2;subst hb;exact f0
   ·(replace e:=e3▸e;replace e:=(zE _ _ hb)▸e);exact(S3 tk).new b y e,(S3 tk).gens,(S3 tk).os⟩
 have hD3:σ3 M'=R (.dict [("cells",.ref a),("spot",.int 0),("left",.int 9)]):=by refine rq e3 ?_;exact zJ _ _ _
 have ha3:σ3 a=R (.list<|Hn l Z<|R 60):=by(refine rq e3 ?_;refine rq (zE _ _<|Ne.symm nDa) ?_);exact zJ _ _ _
 have ot:∀b,b≠M'→b≠a→σ3 b=σ b:=λb Y T'=>by(refine rq e3 ?_;refine rq (zE _ _ Y) ?_;exact rq (zE _ _ T') C)
 have T4:FB σ σ3 s.heap h3:=⟨kp,λb o e n=>by
  refine rq (ot b (by rintro C;replace e:=hD▸e;exact Lg (Z2 e)<|V0 _)<|by rintro C;exact ne2 o (Heap.get?_push_of_some _ e)) ?_;exact n⟩
 have O4:Gg B σ3 ls J P:=W.cong λi b p=>ot b (by rintro C;have:=W.dm i _ p;replace this:=fD▸this;exact nB this) (by rintro C;have:=W.dm i _ p;replace this:=f2▸this;exact nB this)
 have X4:∀tk,SO B σ s.heap ls La J {s2 with heap:=h3,toks:=tk} σ3 P:=λtk=>⟨S4 tk,T4,O4,zg x02.te b3.te,λe=>nB e⟩
 refine zX O ((X4 _).fm F) n0 nd ht (.ref M') (S4 _) λs5 S5 F5 b5=>?_
 obtain⟨P2,X5⟩:=yV (np:=1) (x:=xt) (N':=λb=>b=M'∨b=a) (t:=.o 0 [.l<|Hn l Z<|R 60,.d<|.int 0,.d<|.int 9]) (X4 _) S5 F5 b5 ⟨M',_,C,hD3,.inl C,#[⟨a,C,ha3,.inr C⟩,C,C]⟩
  (λb hb=>by clear z9 O n0 nd S F hv hd ht hls ha rl hz hD Sp f0 Xp X1 x2 ne2 nDa b3 x02 S3 kp e3 S4 ot T4 O4 X4 S5 F5 b5 hnew;clear g2 S2;clear S2' d1;clear d3 sb;clear nD2 HD;exact hb.elim (λe=>by subst e;refine rq hD3 ?_;rfl) λe=>by subst e;refine rq ha3 ?_;rfl) (λb i hb p=>by
   have:=W.dm i _ p
   clear W hD3 ha3 p z9;clear O n0;clear nd S;clear F hv;clear hd ht;clear hls ha;clear rl hz;clear hD Sp;clear f0 hnew;clear Xp X1;clear g2 x2;clear S2 ne2;clear S2' nDa;clear d1 d3;clear sb b3;clear nD2 x02;clear S3 kp;clear HD e3;clear S4 ot;clear T4 O4;clear X4 S5;clear F5 b5;rcases hb with C|rfl
   ·replace this:=fD▸this;exact nB this
   ·replace this:=f2▸this;exact nB this) (j2 1)
 exact⟨σ3,_,P2,X5,trivial⟩
end
mutual namespace A
abbrev NO:Fn:=⟨1,0,#v[.ite (.cmp .eq Ff<|Da "!") #v[.ret<|EY 5] .skip,.ite (.cmp .isin Ff<|.glb<|.tup [(.str Fx),(.str "no"),(.str Fy),(.str FN),(.str Gv)]) #v[.ret<|.glb<|.int 7] .skip,.ret<|.ite (.cmp .isin Ff<|.tupD #[Da "#",Da "-"]) (EY 9)<|EY 17]⟩
abbrev Pn:Fn:=⟨1,1,#v[.asg 1<|.idx Ff<|EY 0,.ite (.cmp .isin Fe<|.tupD #[Da Iu,Da HE]) #v[.ret<|.glb<|.int 0] .skip,.ite (.cmp .eq Fe<|Da "bin") #v[.ret<|.call 0 #[.idx Ff<|EY 2]] .skip,.ite (.cmp .eq Fe<|Da "un") #v[.ret<|.call 1 #[.idx Ff<|EY 2]] .skip,.ret<|.dlit ["if",Iv,"box"] #[.glb<|.int 3,.glb<|.int 12,.glb<|.int 15] Fe (.glb<|.int 18)]⟩
abbrev TF:Fn:=⟨2,1,#v[.asg 2<|.call 11 #[Ff],.ret<|.ite (.cmp .ge (.call 2 #[Ff]) Fe) FD<|.bin .add (.bin .add (Da "(") FD)<|Da ")"]⟩
abbrev NP:Fn:=⟨1,5,#v[.asgT [1,2] #[.idx Ff<|EY 2,.call 0 #[.idx Ff<|EY 2]],.asg 3<|.ite (.or (.cmp .eq Fe<|Da "=>")<|.cmp .eq FD<|.glb<|.int 6) (.bin .add FD<|EY 1)<|.ite (.cmp .eq Fe<|Da ".") (.glb<|.int 15) FD,.asg 4<|.ite (.cmp .eq Fe<|Da "=>") FD<|.bin .add FD<|EY 1,.asg 5<|.ite (.cmp .eq Fe<|Da ".") (Da [])<|Da " ",.ret<|.bin .add (.bin .add (.bin .add (.bin .add (.call 3 #[.idx Ff<|EY 3,GU]) G_) Fe) G_)<|.call 3 #[.idx Ff<|EY 4,Iq]]⟩
abbrev NQ:Fn:=⟨1,2,#v[.asgT [1,2] #[.idx Ff<|EY 2,.call 1 #[.idx Ff<|EY 2]],.ret<|.bin .add (.bin .add Fe<|.ite (.cmp .isin Fe<|.glb<|.tup [(.str Fx),(.str "no"),(.str Fy),(.str FN),(.str Gv)]) (Da " ")<|Da [])<|.call 3 #[.idx Ff<|EY 3,.ite (.cmp .ne Fe<|Da "-") FD<|.bin .add FD<|EY 1]]⟩
abbrev M3:Fn:=⟨1,2,#v[.asg 1<|.ite (.cmp .ne (.idx Ff<|EY 2)<|Da []) (.bin .add (Da " ")<|.idx Ff<|EY 2)<|Da [],.asg 2<|.ite (.cmp .ne (.idx Ff<|EY 3)<|Da []) (.bin .add (.idx Ff<|EY 3)<|Da " ")<|Da [],.ret<|.bin .add (.bin .add (.bin .add (.bin .add (.call 3 #[.idx Ff<|EY 4,.glb<|.int 12]) Fe)<|Da " -> ") FD)<|.call 3 #[.idx Ff<|EY 5,.bin .add (.glb<|.int 12)<|EY 1]]⟩
abbrev Nv:Fn:=⟨1,5,#v[.unp [1,2,3,4]<|.slc Ff (EY 1)<|.lit .none,.asg 5<|.ite (.cmp .ne GU<|Da []) (.bin .add GU<|Da " ")<|Da [],.ret<|.bin .add (.bin .add (.bin .add (.bin .add (.ite Fe (Da "disj ")<|Da [])<|.join (Da ", ") FD)<|Da ": ") G_)<|.call 3 #[Iq,.bin .add (.glb<|.int 7)<|EY 1]]⟩
abbrev M4:Fn:=⟨1,0,#v[.ret<|.join (Da ", ")<|.comp 0 Ff<|.call 7 #[Ff]]⟩
abbrev M5:Fn:=⟨1,1,#v[.asg 1<|.comp 0 Ff<|.call 11 #[Ff],.ret<|.join (Da " ")<|.comp 0 Fe<|.ite (.stw Ff<|Da "-") (.bin .add (.bin .add (Da "(") Ff)<|Da ")") Ff]⟩
abbrev IJ:Fn:=⟨1,0,#v[.ret<|.ite (.cmp .gt (.b1 .len Ff)<|EY 0) (.bin .add (.bin .add (Da "{ ")<|.call 9 #[Ff])<|Da " }")<|Da "{ }"]⟩
abbrev FY:Fn:=⟨1,1,#v[.asg 1<|.idx Ff<|EY 0,.ite (.cmp .isin Fe<|.tupD #[Da Fz,Da HF]) #v[.ret<|.b1 .str<|.idx Ff<|EY 2] .skip,.ite (.cmp .isin Fe<|.tupD #[Da Ho,Da Hq,Da Hr]) #v[.ret Fe] .skip,.ite (.cmp .eq Fe<|Da "un") #v[.ret<|.call 5 #[Ff]] .skip,.ite (.cmp .eq Fe<|Da "bin") #v[.ret<|.call 4 #[Ff]] .skip,.ite (.cmp .eq Fe<|Da Iv) #v[.ret<|.call 6 #[Ff]] .skip,.ite (.cmp .eq Fe<|Da "box") #v[.ret<|.bin .add (.bin .add (.bin .add (.call 3 #[.idx Ff<|EY 2,.glb<|.int 15])<|Da "[")<|.join (Da ", ")<|.comp 0 (.idx Ff<|EY 3)<|.call 11 #[Ff])<|Da "]"] .skip,.ite (.cmp .eq Fe<|Da "if") #v[.ret<|.bin .add (.bin .add (.bin .add (.bin .add (.call 3 #[.idx Ff<|EY 2,.bin .add (.glb<|.int 3)<|EY 1])<|Da " => ")<|.call 3 #[.idx Ff<|EY 3,.bin .add (.glb<|.int 3)<|EY 1])<|Da " else ")<|.call 3 #[.idx Ff<|EY 4,.glb<|.int 3]] .skip,.ite (.cmp .eq Fe<|Da Iu) #v[.ret<|.bin .add (.bin .add (.bin .add (.bin .add (.idx Ff<|EY 2)<|Da " ")<|.call 8 #[.idx Ff<|EY 3])<|Da " | ")<|.call 11 #[.idx Ff<|EY 4]] .skip,.ite (.cmp .eq Fe<|Da HE) #v[.ret<|.bin .add (.bin .add (.bin .add (.bin .add (.bin .add (Da "let ")<|.idx Ff<|EY 2)<|Da " = ")<|.call 11 #[.idx Ff<|EY 3])<|Da " | ")<|.call 11 #[.idx Ff<|EY 4]] .skip,.ite (.cmp .eq Fe<|Da "compr") #v[.ret<|.bin .add (.bin .add (.bin .add (.bin .add (Da "{ ")<|.call 8 #[.idx Ff<|EY 2])<|Da " | ")<|.call 11 #[.idx Ff<|EY 3])<|Da " }"] .skip,.ret<|.call 10 #[.idx Ff<|EY 2]]⟩
abbrev IK:Fn:=⟨1,9,#v[.unp [1,2,3,4,5,6,7]<|.slc Ff (EY 2)<|.lit .none,.asg 8<|.bin .add (.bin .add (.bin .add (.ite FD (Da "abstract ")<|Da [])<|.ite (.cmp .ne GU<|Da []) (.bin .add GU<|Da " ")<|Da [])<|Da "sig ")<|.join (Da ", ") Fe,.ite (.cmp .ne Iq<|Da []) #v[.asg 8<|.bin .add (.bin .add Ru<|Da " extends ") Iq] #v[.ite (.cmp .gt (.b1 .len G_)<|EY 0) #v[.asg 8<|.bin .add (.bin .add Ru<|Da " in ")<|.join (Da " + ") G_] .skip],.asg 9<|.ite (.cmp .gt (.b1 .len Im)<|EY 0) (.bin .add (.bin .add (Da " { ")<|.call 8 #[Im])<|Da " }")<|Da " { }",.ret<|.bin .add (.bin .add Ru lY)<|.ite (.cmp .gt (.b1 .len OO)<|EY 0) (.bin .add (Da " ")<|.call 10 #[OO])<|Da []]⟩
abbrev ML:Fn:=⟨1,0,#v[.ret<|.ite (.cmp .gt (.b1 .len Ff)<|EY 0) (.bin .add (.bin .add (Da "[")<|.call 8 #[Ff])<|Da "]")<|Da []]⟩
abbrev Ol:Fn:=⟨1,3,#v[.unp [1,2] Ff,.asg 3<|.comp 3 FD<|.bin .add (.bin .add (.bin .add (.ite Ff (Da "exactly ")<|Da [])<|.b1 .str Fe)<|Da " ") FD,.ite (.cmp .lt Fe<|EY 0) #v[.ret<|.ite (.cmp .gt (.b1 .len GU)<|EY 0) (.bin .add (Da " for ")<|.join (Da ", ") GU)<|Da []] .skip,.ret<|.bin .add (.bin .add (Da " for ")<|.b1 .str Fe)<|.ite (.cmp .gt (.b1 .len GU)<|EY 0) (.bin .add (Da " but ")<|.join (Da ", ") GU)<|Da []]⟩
abbrev Mc:Fn:=⟨1,6,#v[.asgT [1,2,3,4,5] #[.idx Ff<|EY 0,.idx Ff<|EY 2,.idx Ff<|EY 3,.idx Ff<|EY 4,.idx Ff<|EY 5],.asg 6<|.ite (.isN GU) FD<|.call 10 #[GU],.ret<|.bin .add (.bin .add (.bin .add (.bin .add Fe<|Da " ") Im)<|.call 14 #[Iq])<|.ite (.cmp .ge G_<|EY 0) (.bin .add (Da " expect ")<|.b1 .str G_)<|Da []]⟩
abbrev Gj:Fn:=⟨1,4,#v[.asg 1<|.idx Ff<|EY 0,.ite (.cmp .eq Fe<|Da HQ) #v[.asg 2<|.ite (.cmp .gt (.b1 .len<|.idx Ff<|EY 3)<|EY 0) (.bin .add (.bin .add (Da "[")<|.join (Da ", ")<|.idx Ff<|EY 3)<|Da "]")<|Da [],.ret<|.bin .add (.bin .add (.bin .add (Da "open ")<|.idx Ff<|EY 2) FD)<|.ite (.cmp .ne (.idx Ff<|EY 4)<|Da []) (.bin .add (Da " as ")<|.idx Ff<|EY 4)<|Da []] .skip,.ite (.cmp .eq Fe<|Da G2) #v[.ret<|.call 12 #[Ff]] .skip,.ite (.cmp .isin Fe<|.tupD #[Da "run",Da H0]) #v[.ret<|.call 15 #[Ff]] .skip,.asg 3<|.ite (.cmp .ne (.idx Ff<|EY 2)<|Da []) (.bin .add (.bin .add Fe<|Da " ")<|.idx Ff<|EY 2) Fe,.ite (.cmp .isin Fe<|.tupD #[Da HR,Da GI]) #v[.ret<|.bin .add (.bin .add GU<|Da " ")<|.call 10 #[.idx Ff<|EY 3]] .skip,.ite (.cmp .eq Fe<|Da HS) #v[.ret<|.bin .add (.bin .add (.bin .add GU<|.call 13 #[.idx Ff<|EY 3])<|Da " ")<|.call 10 #[.idx Ff<|EY 4]] .skip,.asg 4<|.ite (.cmp .ne (.idx Ff<|EY 4)<|Da []) (.bin .add (.idx Ff<|EY 4)<|Da " ")<|Da [],.ret<|.bin .add (.bin .add (.bin .add (.bin .add (.bin .add (.bin .add (.bin .add GU<|.call 13 #[.idx Ff<|EY 3])<|Da ": ") Iq)<|.call 3 #[.idx Ff<|EY 5,.bin .add (.glb<|.int 7)<|EY 1])<|Da " { ")<|.call 11 #[.idx Ff<|EY 6])<|Da " }"]⟩
abbrev M6:Fn:=⟨1,0,#v[.ret<|.join (Da [])<|.comp 0 Ff<|.bin .add (.call 16 #[Ff])<|Da "\n"]⟩
abbrev MM:Fn:=⟨1,2,#v[.asgT [1,2] #[.lstD #[Ff],EY 0],.whl (.and (.cmp .gt (.b1 .len Fe)<|EY 0)<|.cmp .le FD<|.glb<|.int 120) #v[.asg 1<|.flat Fe,.aug 2 .add<|EY 1],.ret<|.cmp .gt FD<|.glb<|.int 120]⟩
abbrev H2:Fn:=⟨2,0,#v[.setF 1 0 0 Fe,.setF 1 0 1<|EY 0]⟩
abbrev Me:Fn:=⟨2,0,#v[.ret<|.slc (.fld 1 0 0) (.bin .add (.fld 1 0 1) Fe)<|.bin .add (.bin .add (.fld 1 0 1) Fe)<|EY 1]⟩
abbrev MS:Fn:=⟨1,0,#v[.whl (.cmp .notin (.meth 0 1 #[EY 0])<|.tupD #[Da [],Da "\n"]) #v[.augF 1 0 1 .add<|EY 1]]⟩
abbrev H3:Fn:=⟨1,2,#v[.whl (.cmp .ne (.meth 0 1 #[EY 0])<|Da []) #v[.asg 1<|.bin .add (.meth 0 1 #[EY 0])<|.meth 0 1 #[EY 1],.ite (.cmp .isin (.meth 0 1 #[EY 0])<|.glb<|.str [32,9,13,10]) #v[.augF 1 0 1 .add<|EY 1] #v[.ite (.or (.cmp .eq Fe<|Da "//")<|.cmp .eq Fe<|Da "--") #v[.exp<|.meth 0 2 .nil] #v[.ite (.cmp .eq Fe<|Da "/*") .bad #v[.ret<|.lit .none]]]]]⟩
abbrev IA:Fn:=⟨2,1,#v[.asg 2<|.fld 1 0 1,.whl (.and (.cmp .ne (.meth 0 1 #[EY 0])<|Da [])<|.cmp .isin (.meth 0 1 #[EY 0]) Fe) #v[.augF 1 0 1 .add<|EY 1],.ret<|.slc (.fld 1 0 0) FD<|.fld 1 0 1]⟩
abbrev IB:Fn:=⟨1,2,#v[.asg 1<|.fld 1 0 1,.asg 2<|.meth 0 4 #[.glb<|.str "0123456789"],.ite (.cmp .gt (.b1 .len FD)<|.glb<|.int 1000) #v[.bad] .skip,.ite (.and (.cmp .ne (.meth 0 1 #[EY 0])<|Da [])<|.cmp .isin (.meth 0 1 #[EY 0])<|.glb<|.str E3) #v[.bad] .skip,.ret<|.tupD #[Da HF,FD,Fe]]⟩
abbrev H4:Fn:=⟨1,1,#v[.asg 1<|.fld 1 0 1,.exp<|.meth 0 4 #[.bin .add (.glb<|.str E3)<|.glb<|.str "0123456789"],.whl (.and (.cmp .eq (.meth 0 1 #[EY 0])<|Da "/")<|.and (.cmp .ne (.meth 0 1 #[EY 1])<|Da [])<|.cmp .isin (.meth 0 1 #[EY 1])<|.glb<|.str E3) #v[.augF 1 0 1 .add<|EY 1,.exp<|.meth 0 4 #[.bin .add (.glb<|.str E3)<|.glb<|.str "0123456789"]],.ret<|.tupD #[Da Fz,.slc (.fld 1 0 0) Fe<|.fld 1 0 1,Fe]]⟩
abbrev Mf:Fn:=⟨1,1,#v[.forT 1 [(.str "("),(.str ")"),(.str "["),(.str "]"),(.str "{"),(.str "}"),(.str ","),(.str "~"),(.str "^"),(.str "*"),(.str "#"),(.str "<=>"),(.str "<:"),(.str ":>"),(.str "=>"),(.str "=<"),(.str "<="),(.str ">="),(.str "!="),(.str "&&"),(.str "||"),(.str "->"),(.str "++"),(.str "-"),(.str "!"),(.str "+"),(.str "&"),(.str "."),(.str "="),(.str "<"),(.str ">"),(.str ":"),(.str "|")] #v[.ite (.stw3 (.fld 1 0 0) Fe<|.fld 1 0 1) #v[.augF 1 0 1 .add<|.b1 .len Fe,.ret<|.tupD #[Da Gn,Fe,.bin .sub (.fld 1 0 1)<|.b1 .len Fe]] .skip],.bad]⟩
abbrev F_:Fn:=⟨1,0,#v[.exp<|.meth 0 3 .nil,.ite (.cmp .eq (.meth 0 1 #[EY 0])<|Da []) #v[.ret<|.tupD #[Da HG,Da [],.fld 1 0 1]] .skip,.ite (.cmp .isin (.meth 0 1 #[EY 0])<|.glb<|.str "0123456789") #v[.ret<|.meth 0 5 .nil] .skip,.ret<|.ite (.cmp .isin (.meth 0 1 #[EY 0])<|.glb<|.str E3) (.meth 0 6 .nil)<|.meth 0 7 .nil]⟩
abbrev Mg:Fn:=⟨1,2,#v[.asg 1<|.new 1 #[Ff],.asg 2<|.lstD #[.meth 1 8 .nil],.whl (.cmp .ne (.idx (.idx FD<|.neg<|EY 1)<|EY 0)<|Da HG) #v[.app 2<|.meth 1 8 .nil],.ret<|.mv 2]⟩
abbrev HN:Fn:=⟨2,0,#v[.setF 2 0 0 Fe,.setF 2 0 1<|EY 0,.setF 2 0 2<|EY 0]⟩
abbrev IS:Fn:=⟨1,0,#v[.ret<|.idx (.idx (.fld 2 0 0)<|.fld 2 0 1)<|EY 0]⟩
abbrev IT:Fn:=⟨2,1,#v[.asg 2<|.min2 (.bin .add (.fld 2 0 1) Fe)<|.bin .sub (.b1 .len<|.fld 2 0 0)<|EY 1,.ret<|.dget 0 (.idx (.idx (.fld 2 0 0) FD)<|EY 1)<|.idx (.idx (.fld 2 0 0) FD)<|EY 1]⟩
abbrev IU:Fn:=⟨1,0,#v[.ret<|.idx (.idx (.fld 2 0 0)<|.fld 2 0 1)<|EY 2]⟩
abbrev IV:Fn:=⟨1,0,#v[.augF 2 0 1 .add<|EY 1,.ret<|.idx (.idx (.fld 2 0 0)<|.bin .sub (.fld 2 0 1)<|EY 1)<|EY 1]⟩
abbrev GR:Fn:=⟨2,0,#v[.ite (.and (.cmp .ne (.meth 0 9 .nil)<|Da HG)<|.cmp .eq (.idx (.idx (.fld 2 0 0)<|.fld 2 0 1)<|EY 1) Fe) #v[.augF 2 0 1 .add<|EY 1,.ret<|.lit<|.bool f'] .skip,.ret<|.lit<|.bool La]⟩
abbrev IW:Fn:=⟨2,0,#v[.ite (.not<|.meth 0 13 #[Fe]) #v[.bad] .skip]⟩
abbrev H5:Fn:=⟨2,1,#v[.asg 2<|.min2 (.bin .add (.fld 2 0 1) Fe)<|.bin .sub (.b1 .len<|.fld 2 0 0)<|EY 1,.ret<|.and (.cmp .eq (.idx (.idx (.fld 2 0 0) FD)<|EY 0)<|Da Fz)<|.cmp .notin (.idx (.idx (.fld 2 0 0) FD)<|EY 1)<|.glb<|.tup [(.str GA),(.str "all"),(.str "and"),(.str "as"),(.str GI),(.str "but"),(.str H0),(.str GF),(.str GH),(.str Mu),(.str Hh),(.str Ix),(.str H1),(.str HR),(.str "for"),(.str Ma),(.str Hr),(.str "iff"),(.str "implies"),(.str "in"),(.str HE),(.str Fy),(.str "module"),(.str "no"),(.str Ho),(.str "not"),(.str FN),(.str HQ),(.str "or"),(.str HS),(.str "run"),(.str Gv),(.str G2),(.str Fx),(.str "sum"),(.str Hq)]]⟩
abbrev Hy:Fn:=⟨1,0,#v[.ite (.not<|.meth 0 15 #[EY 0]) #v[.bad] .skip,.ret<|.meth 0 12 .nil]⟩
abbrev G3:Fn:=⟨1,0,#v[.ite (.cmp .ne (.meth 0 9 .nil)<|Da HF) #v[.bad] .skip,.ret<|.b1 .int<|.meth 0 12 .nil]⟩
abbrev IC:Fn:=⟨1,1,#v[.asg 1<|.lstD #[.meth 0 16 .nil],.whl (.meth 0 13 #[Da ","]) #v[.app 1<|.meth 0 16 .nil],.ret<|.b1 .tuple Fe]⟩
abbrev G4:Fn:=⟨2,1,#v[.asg 2<|.bin .add Fe<|.ite (.cmp .eq (.meth 0 10 #[Fe])<|Da GF) (EY 1)<|EY 0,.whl (.and (.meth 0 15 #[FD])<|.cmp .eq (.meth 0 10 #[.bin .add FD<|EY 1])<|Da ",") #v[.aug 2 .add<|EY 2],.ret<|.and (.meth 0 15 #[FD])<|.cmp .eq (.meth 0 10 #[.bin .add FD<|EY 1])<|Da ":"]⟩
abbrev GV:Fn:=⟨1,3,#v[.augF 2 0 2 .add<|EY 1,.ite (.cmp .gt (.fld 2 0 2)<|.glb<|.int 25) #v[.bad] .skip,.asgT [1,2] #[.lstD .nil,.lstD .nil],.asg 3<|.lit<|.bool f',.whl GU #v[.exp<|.meth 0 22 #[FD],.app 1<|.meth 0 31 .nil,.asg 3<|.meth 0 23 #[Fe,FD]],.whl (.cmp .gt (.b1 .len FD)<|EY 0) #v[.exp<|.meth 0 29 #[Fe,.pop 2]],.augF 2 0 2 .sub<|EY 1,.ret<|.idx Fe<|EY 0]⟩
abbrev GC:Fn:=⟨1,0,#v[.ret<|.and (.cmp .eq (.meth 0 9 .nil)<|Da Fz)<|.and (.cmp .isin (.meth 0 10 #[EY 0])<|.glb<|.tup [(.str "all"),(.str Fx),(.str "no"),(.str Fy),(.str FN),(.str "sum")])<|.meth 0 19 #[EY 1]]⟩
abbrev FV:Fn:=⟨2,2,#v[.whl (.and (.cmp .isin (.meth 0 9 .nil)<|.tupD #[Da Fz,Da Gn])<|.and (.din 1<|.meth 0 10 #[EY 0])<|.not<|.meth 0 21 .nil) #v[.asgT [2,3] #[.meth 0 10 #[EY 0],.meth 0 11 .nil],.exp<|.meth 0 12 .nil,.app 1<|.tupD #[.didx 1 FD,.bin .add (Da "ahead ") FD,GU,Da [],Da []]]]⟩
abbrev Hz:Fn:=⟨3,5,#v[.whl (.and (.cmp .eq (.meth 0 9 .nil)<|Da Gn)<|.cmp .eq (.meth 0 10 #[EY 0])<|Da "[") #v[.exp<|.meth 0 24 #[Fe,FD,.bin .sub (.glb<|.int 15)<|EY 1],.asg 3<|.meth 0 11 .nil,.exp<|.meth 0 12 .nil,.app 1<|.tupD #[Da "box",GU,.pop 1,.meth 0 30 #[Da "]"]]],.ite (.and (.cmp .eq (.meth 0 9 .nil)<|Da Fz)<|.cmp .eq (.meth 0 10 #[EY 0])<|Da GH) #v[.ret<|.meth 0 28 #[Fe,FD]] .skip,.asg 3<|.meth 0 11 .nil,.unp [4,5]<|.meth 0 25 .nil,.ite (.cmp .eq G_<|Da []) #v[.ret<|.lit<|.bool La] .skip,.asg 6<|.ite (.cmp .eq G_<|Da "!in") (.glb<|.int 6)<|.didx 2 G_,.exp<|.meth 0 24 #[Fe,FD,Im],.ite (.and (.cmp .gt (.b1 .len FD)<|EY 0)<|.and (.cmp .eq (.idx (.idx FD<|.neg<|EY 1)<|EY 0) Im)<|.cmp .ne Im<|.glb<|.int 3) #v[.ite (.cmp .eq Im<|.glb<|.int 6) #v[.bad] .skip,.exp<|.meth 0 29 #[Fe,.pop 2]] .skip,.asg 7<|.ite (.cmp .eq G_<|Da "->") (.meth 0 27 .nil)<|Da [],.app 2<|.tupD #[Im,G_,GU,Iq,OO],.ret<|.lit<|.bool f']⟩
abbrev HO:Fn:=⟨4,0,#v[.whl (.and (.cmp .gt (.b1 .len FD)<|EY 0)<|.cmp .gt (.idx (.idx FD<|.neg<|EY 1)<|EY 0) GU) #v[.exp<|.meth 0 29 #[Fe,.pop 2]]]⟩
abbrev FF:Fn:=⟨1,1,#v[.ite (.cmp .notin (.meth 0 9 .nil)<|.tupD #[Da Fz,Da Gn]) #v[.ret<|.tupD #[Da [],Da []]] .skip,.asg 1<|.meth 0 10 #[EY 0],.ite (.and (.cmp .eq (.meth 0 9 .nil)<|Da Fz)<|.and (.cmp .isin Fe<|.glb<|.tup [(.str FN),(.str Fy),(.str Fx),(.str Gv)])<|.cmp .eq (.meth 0 10 #[EY 1])<|Da "->") #v[.exp<|.meth 0 12 .nil,.exp<|.meth 0 12 .nil,.ret<|.tupD #[.ite (.cmp .eq Fe<|Da Gv) (Da []) Fe,Da "->"]] .skip,.ite (.and (.cmp .eq Fe<|Da "!")<|.din 3<|.meth 0 10 #[EY 1]) #v[.exp<|.meth 0 12 .nil,.ret<|.tupD #[Da [],.didx 3<|.meth 0 26 .nil]] .skip,.ret<|.ite (.din 2 Fe) (.tupD #[Da [],.meth 0 26 .nil])<|.tupD #[Da [],Da []]]⟩
abbrev GW:Fn:=⟨1,1,#v[.asg 1<|.meth 0 10 #[EY 0],.exp<|.meth 0 12 .nil,.ret Fe]⟩
abbrev G5:Fn:=⟨1,1,#v[.ite (.and (.cmp .eq (.meth 0 9 .nil)<|Da Fz)<|.cmp .isin (.meth 0 10 #[EY 0])<|.glb<|.tup [(.str FN),(.str Fy),(.str Fx),(.str Gv)]) #v[.asg 1<|.meth 0 12 .nil,.ret<|.ite (.cmp .eq Fe<|Da Gv) (Da []) Fe] .skip,.ret<|Da []]⟩
abbrev G6:Fn:=⟨3,5,#v[.exp<|.meth 0 24 #[Fe,FD,.glb<|.int 3],.whl (.and (.cmp .gt (.b1 .len FD)<|EY 0)<|.cmp .eq (.idx (.idx FD<|.neg<|EY 1)<|EY 1)<|Da GH) #v[.exp<|.meth 0 29 #[Fe,.pop 2]],.ite (.or (.cmp .eq (.b1 .len FD)<|EY 0)<|.cmp .ne (.idx (.idx FD<|.neg<|EY 1)<|EY 1)<|Da "=>") #v[.ret<|.lit<|.bool La] .skip,.exp<|.meth 0 12 .nil,.unp [3,4,5,6,7]<|.pop 2,.app 2<|.tupD #[GU,Da GH,G_,Da [],Da []],.ret<|.lit<|.bool f']⟩
abbrev FH:Fn:=⟨3,7,#v[.unp [3,4,5,6,7] FD,.asg 8<|.pop 1,.ite (.cmp .eq (.slc Iq (.lit .none)<|EY 6)<|Da "ahead ") #v[.app 1<|.tupD #[Da "un",G_,.slc Iq (EY 6)<|.lit .none,Ru]] #v[.ite (.cmp .eq Iq<|Da GH) #v[.asg 9<|.pop 1,.app 1<|.tupD #[Da "if",G_,.pop 1,lY,Ru]] #v[.ite (.cmp .eq Iq<|Da "->") #v[.app 1<|.tupD #[Da Iv,G_,Im,OO,.pop 1,Ru]] #v[.app 1<|.tupD #[Da "bin",G_,Iq,.pop 1,Ru]]]]]⟩
abbrev GP:Fn:=⟨2,1,#v[.asg 2<|.lstD .nil,.whl (.not<|.meth 0 13 #[Fe]) #v[.app 2<|.meth 0 20 .nil,.ite (.cmp .ne (.meth 0 10 #[EY 0]) Fe) #v[.exp<|.meth 0 14 #[Da ","]] .skip],.ret<|.b1 .tuple FD]⟩
abbrev Ft:Fn:=⟨1,5,#v[.unp [1,2,3]<|.idx (.fld 2 0 0)<|.fld 2 0 1,.ite (.cmp .eq Fe<|Da HF) #v[.ret<|.tupD #[Da HF,GU,.meth 0 17 .nil]] .skip,.ite (.meth 0 15 #[EY 0]) #v[.ret<|.tupD #[Da Fz,GU,.meth 0 12 .nil]] .skip,.ite (.cmp .isin FD<|.tupD #[Da Ho,Da Hq,Da Hr]) #v[.ret<|.tupD #[.meth 0 12 .nil,GU]] .skip,.ite (.meth 0 21 .nil) #v[.asg 4<|.meth 0 12 .nil,.ret<|.tupD #[Da Iu,GU,Iq,.meth 0 33 .nil,.meth 0 34 .nil]] .skip,.ite (.meth 0 13 #[Da HE]) #v[.ret<|.meth 0 36 #[GU]] .skip,.ite (.meth 0 13 #[Da "("]) #v[.asg 5<|.meth 0 20 .nil,.exp<|.meth 0 14 #[Da ")"],.ret G_] .skip,.ite (.meth 0 13 #[Da "{"]) #v[.ret<|.meth 0 37 #[GU]] .skip,.bad]⟩
abbrev Ie:Fn:=⟨1,4,#v[.asgT [1,2,3] #[.meth 0 11 .nil,.meth 0 13 #[Da GF],.meth 0 18 .nil],.exp<|.meth 0 14 #[Da ":"],.asg 4<|Da [],.ite (.and (.cmp .eq (.meth 0 9 .nil)<|Da Fz)<|.cmp .isin (.meth 0 10 #[EY 0])<|.glb<|.tup [(.str FN),(.str Fy),(.str Fx),(.str Gv)]) #v[.asg 4<|.meth 0 12 .nil] .skip,.ret<|.tupD #[Fe,FD,GU,Iq,.meth 0 20 .nil]]⟩
abbrev H6:Fn:=⟨1,1,#v[.asg 1<|.lstD #[.meth 0 32 .nil],.whl (.meth 0 13 #[Da ","]) #v[.app 1<|.meth 0 32 .nil],.ret<|.b1 .tuple Fe]⟩
abbrev Ig:Fn:=⟨1,1,#v[.ite (.meth 0 13 #[Da "|"]) #v[.ret<|.meth 0 20 .nil] .skip,.asg 1<|.meth 0 11 .nil,.ret<|.tupD #[Da Iw,Fe,.meth 0 35 .nil]]⟩
abbrev H7:Fn:=⟨1,1,#v[.exp<|.meth 0 14 #[Da "{"],.asg 1<|.lstD .nil,.whl (.not<|.meth 0 13 #[Da "}"]) #v[.app 1<|.meth 0 20 .nil],.ret<|.b1 .tuple Fe]⟩
abbrev ID:Fn:=⟨2,4,#v[.asg 2<|.lstD .nil,.whl (.lit<|.bool f') #v[.app 2<|.tupD #[.meth 0 11 .nil,.meth 0 16 .nil],.exp<|.meth 0 14 #[Da "="],.app 2<|.meth 0 20 .nil,.ite (.not<|.meth 0 13 #[Da ","]) #v[.brk] .skip],.asg 3<|.meth 0 34 .nil,.whl (.cmp .gt (.b1 .len FD)<|EY 0) #v[.asgT [4,5] #[.pop 2,.pop 2],.asg 3<|.tupD #[Da HE,.ite (.cmp .eq (.b1 .len FD)<|EY 0) Fe<|.idx G_<|EY 0,.idx G_<|EY 1,Iq,GU]],.ret GU]⟩
abbrev GN:Fn:=⟨2,2,#v[.ite (.not<|.meth 0 19 #[EY 0]) #v[.augF 2 0 1 .sub<|EY 1,.ret<|.tupD #[Da Iw,Fe,.meth 0 35 .nil]] .skip,.asgT [2,3] #[.meth 0 33 .nil,.tupD #[Da Iw,Fe,.tupD .nil]],.ite (.cmp .ne (.meth 0 10 #[EY 0])<|Da "}") #v[.asg 3<|.meth 0 34 .nil] .skip,.exp<|.meth 0 14 #[Da "}"],.ret<|.tupD #[Da "compr",Fe,FD,GU]]⟩
abbrev Mh:Fn:=⟨1,2,#v[.asg 1<|.lstD .nil,.ite (.meth 0 13 #[Da "module"]) #v[.exp<|.meth 0 16 .nil] .skip,.whl (.cmp .ne (.meth 0 9 .nil)<|Da HG) #v[.asg 2<|.meth 0 11 .nil,.ext 1 (.ite (.meth 0 13 #[Da Mu]) (.meth 0 40 #[FD])<|.lstD #[.meth 0 39 .nil]),.ite (.call 18 #[.idx Fe<|.neg<|EY 1]) #v[.bad] .skip],.ret<|.mv 1]⟩
abbrev F8:Fn:=⟨1,1,#v[.asg 1<|.meth 0 11 .nil,.ite (.meth 0 13 #[Da HQ]) #v[.ret<|.meth 0 41 #[Fe]] .skip,.ite (.meth 0 13 #[Da HR]) #v[.ret<|.tupD #[Da HR,Fe,.ite (.meth 0 15 #[EY 0]) (.meth 0 12 .nil)<|Da [],.meth 0 35 .nil]] .skip,.ite (.meth 0 13 #[Da GI]) #v[.ret<|.tupD #[Da GI,Fe,.meth 0 16 .nil,.meth 0 35 .nil]] .skip,.ite (.meth 0 13 #[Da HS]) #v[.ret<|.tupD #[Da HS,Fe,.meth 0 16 .nil,.meth 0 42 .nil,.meth 0 35 .nil]] .skip,.ite (.meth 0 13 #[Da Ma]) #v[.ret<|.meth 0 43 #[Fe]] .skip,.ite (.and (.cmp .eq (.meth 0 9 .nil)<|Da Fz)<|.cmp .isin (.meth 0 10 #[EY 0])<|.tupD #[Da "run",Da H0]) #v[.ret<|.meth 0 44 #[Fe]] .skip,.ret<|.meth 0 46 #[Fe]]⟩
abbrev ME:Fn:=⟨2,2,#v[.asg 2<|.meth 0 16 .nil,.exp<|.meth 0 14 #[Da "{"],.asg 3<|.meth 0 18 .nil,.exp<|.meth 0 14 #[Da "}"],.ret<|.lstD #[.tupD #[Da G2,Fe,.tupD #[FD],.lit<|.bool f',Da [],Da [],.tupD .nil,.tupD .nil,.tupD .nil],.tupD #[Da G2,Fe,GU,.lit<|.bool La,Da FN,FD,.tupD .nil,.tupD .nil,.tupD .nil]]]⟩
abbrev IX:Fn:=⟨2,2,#v[.asg 2<|.meth 0 16 .nil,.ite (.cmp .ne FD<|Da Hj) #v[.bad] .skip,.exp<|.meth 0 14 #[Da "["],.asg 3<|.meth 0 18 .nil,.exp<|.meth 0 14 #[Da "]"],.ret<|.tupD #[Da HQ,Fe,FD,GU,.ite (.meth 0 13 #[Da "as"]) (.meth 0 16 .nil)<|Da []]]⟩
abbrev HJ:Fn:=⟨1,2,#v[.asg 1<|.lstD .nil,.ite (.and (.cmp .eq (.meth 0 9 .nil)<|Da Gn)<|.cmp .isin (.meth 0 10 #[EY 0])<|.tupD #[Da "[",Da "("]) #v[.asg 2<|.ite (.cmp .eq (.meth 0 12 .nil)<|Da "[") (Da "]")<|Da ")",.whl (.not<|.meth 0 13 #[FD]) #v[.app 1<|.meth 0 32 .nil,.ite (.cmp .ne (.meth 0 10 #[EY 0]) FD) #v[.exp<|.meth 0 14 #[Da ","]] .skip]] .skip,.ret<|.b1 .tuple Fe]⟩
abbrev Ih:Fn:=⟨2,5,#v[.asgT [2,3] #[.meth 0 16 .nil,.meth 0 42 .nil],.exp<|.meth 0 14 #[Da ":"],.asg 4<|.ite (.and (.cmp .eq (.meth 0 9 .nil)<|Da Fz)<|.cmp .isin (.meth 0 10 #[EY 0])<|.glb<|.tup [(.str FN),(.str Fy),(.str Fx),(.str Gv)]) (.meth 0 12 .nil)<|Da [],.asg 5<|.meth 0 20 .nil,.exp<|.meth 0 14 #[Da "{"],.asg 6<|.meth 0 20 .nil,.exp<|.meth 0 14 #[Da "}"],.ret<|.tupD #[Da Ma,Fe,FD,GU,Iq,G_,Im]]⟩
abbrev IE:Fn:=⟨2,5,#v[.asgT [2,3,4] #[.meth 0 12 .nil,Da [],.lit .none],.ite (.meth 0 15 #[EY 0]) #v[.asg 3<|.meth 0 12 .nil] #v[.asg 4<|.meth 0 35 .nil],.asg 5<|.ite (.meth 0 13 #[Da "for"]) (.meth 0 45 .nil)<|.tupD #[.neg<|EY 1,.tupD .nil],.asg 6<|.neg<|EY 1,.ite (.meth 0 13 #[Da Ix]) #v[.asg 6<|.meth 0 17 .nil,.ite (.cmp .gt Im<|EY 1) #v[.bad] .skip] .skip,.ret<|.tupD #[FD,Fe,GU,Iq,G_,Im]]⟩
abbrev G7:Fn:=⟨1,4,#v[.asg 1<|.neg<|EY 1,.ite (.and (.cmp .eq (.meth 0 9 .nil)<|Da HF)<|.not<|.meth 0 15 #[EY 1]) #v[.asg 1<|.meth 0 17 .nil,.ite (.not<|.meth 0 13 #[Da "but"]) #v[.ret<|.tupD #[Fe,.tupD .nil]] .skip] .skip,.asg 2<|.lstD .nil,.whl (.lit<|.bool f') #v[.asg 3<|.meth 0 13 #[Da Hh],.asg 4<|.meth 0 17 .nil,.app 2<|.tupD #[GU,Iq,.meth 0 16 .nil],.ite (.not<|.meth 0 13 #[Da ","]) #v[.ret<|.tupD #[Fe,.b1 .tuple FD]] .skip]]⟩
abbrev H8:Fn:=⟨2,7,#v[.asgT [2,3] #[.lit<|.bool La,Da []],.whl (.and (.cmp .eq (.meth 0 9 .nil)<|Da Fz)<|.cmp .isin (.meth 0 10 #[EY 0])<|.tupD #[Da GA,Da FN,Da Fy,Da Fx]) #v[.ite (.cmp .eq (.meth 0 10 #[EY 0])<|Da GA) #v[.asg 2<|.lit<|.bool f'] #v[.ite (.cmp .ne GU<|Da []) #v[.bad] #v[.asg 3<|.meth 0 10 #[EY 0]]],.exp<|.meth 0 12 .nil],.ite (.not<|.meth 0 13 #[Da G2]) #v[.bad] .skip,.asgT [4,5,6] #[.meth 0 18 .nil,Da [],.lstD .nil],.ite (.meth 0 13 #[Da H1]) #v[.asg 5<|.meth 0 16 .nil] #v[.ite (.meth 0 13 #[Da "in"]) #v[.app 6<|.meth 0 16 .nil,.whl (.meth 0 13 #[Da "+"]) #v[.app 6<|.meth 0 16 .nil]] .skip],.exp<|.meth 0 14 #[Da "{"],.asg 7<|.lstD .nil,.whl (.not<|.meth 0 13 #[Da "}"]) #v[.app 7<|.meth 0 32 .nil,.ite (.cmp .ne (.meth 0 10 #[EY 0])<|Da "}") #v[.exp<|.meth 0 14 #[Da ","]] .skip],.asg 8<|.ite (.cmp .eq (.meth 0 10 #[EY 0])<|Da "{") (.meth 0 35 .nil)<|.tupD .nil,.ret<|.tupD #[Da G2,Fe,Iq,FD,GU,G_,.b1 .tuple Im,.b1 .tuple OO,Ru]]⟩
abbrev M7:Fn:=⟨1,0,#v[.ret<|.methT (.new 3 #[.call 28 #[Ff]]) 38 .nil]⟩
abbrev Mi:Fn:=⟨1,2,#v[.asg 1<|.new 2 #[.call 28 #[Ff]],.asg 2<|.meth 1 20 .nil,.ite (.cmp .ne (.meth 1 9 .nil)<|Da HG) #v[.bad] .skip,.ite (.call 18 #[FD]) #v[.bad] .skip,.ret FD]⟩
abbrev Om:Fn:=⟨0,0,#v[.ret<|.lstD #[Da "a",Da "b",Da "this",Da "o/next",Da Io]]⟩
abbrev On:Fn:=⟨0,0,#v[.ret<|.lstD #[Da "+",Da "-",Da "&",Da ".",Da "++",Da "<:",Da ":>",Da "=",Da "!=",Da "in",Da "!in",Da "<",Da ">",Da "<=",Da ">=",Da "&&",Da "||",Da "=>",Da "<=>"]]⟩
abbrev Oo:Fn:=⟨0,0,#v[.ret<|.lstD #[Da "~",Da "^",Da "*",Da "#",Da "-",Da "!",Da Fx,Da "no",Da Fy,Da FN,Da Gv]]⟩
abbrev Op:Fn:=⟨0,0,#v[.ret<|.lstD #[Da [],Da FN,Da Fy,Da Fx,Da Gv]]⟩
abbrev Oq:Fn:=⟨0,0,#v[.ret<|.lstD #[Da HQ,Da G2,Da HR,Da GI,Da HS,Da Ma,Da "run",Da H0]]⟩
abbrev Mj:Fn:=⟨2,1,#v[.asg 2<|.fld 0 0 1,.setF 0 0 1<|.bin .add FD<|EY 1,.ite (.cmp .lt FD<|.b1 .len<|.fld 0 0 0) #v[.ret<|.bin .mod (.idx (.fld 0 0 0) FD) Fe] .skip,.ret<|.bin .mod (.bin .mod (.bin .add (.bin .add (.bin .add (.bin .mul (.bin .mul (EY 5) FD) FD)<|.bin .mul (EY 3) FD)<|.bin .mul (EY 7)<|.b1 .len<|.fld 0 0 0)<|EY 2)<|EY 101) Fe]⟩
abbrev Mk:Fn:=⟨2,10,#v[.setF 0 0 2<|.bin .sub (.fld 0 0 2)<|EY 1,.asg 2<|.ite (.and (.cmp .gt Fe<|EY 0)<|.cmp .gt (.fld 0 0 2)<|EY 0) (.call 75 #[Ff,EY 12])<|.call 75 #[Ff,EY 3],.ite (.cmp .eq FD<|EY 0) #v[.ret<|.tupD #[Da Fz,EY 0,.idx (.call 70 .nil)<|.call 75 #[Ff,EY 5]]] .skip,.ite (.cmp .eq FD<|EY 1) #v[.ret<|.tupD #[Da HF,EY 0,.call 75 #[Ff,EY 20]]] .skip,.ite (.cmp .eq FD<|EY 2) #v[.ret<|.tupD #[.idx (.lstD #[Da Ho,Da Hq,Da Hr])<|.call 75 #[Ff,EY 3],EY 0]] .skip,.ite (.cmp .eq FD<|EY 3) #v[.ret<|.tupD #[Da "un",EY 0,.idx (.call 72 .nil)<|.call 75 #[Ff,EY 11],.call 76 #[Ff,.bin .sub Fe<|EY 1]]] .skip,.ite (.cmp .lt FD<|EY 6) #v[.asgT [3,4] #[.idx (.call 71 .nil)<|.call 75 #[Ff,EY 19],.call 76 #[Ff,.bin .sub Fe<|EY 1]],.ret<|.tupD #[Da "bin",EY 0,GU,Iq,.call 76 #[Ff,.bin .sub Fe<|EY 1]]] .skip,.ite (.cmp .eq FD<|EY 6) #v[.asgT [5,6] #[.idx (.call 73 .nil)<|.call 75 #[Ff,EY 4],.idx (.call 73 .nil)<|.call 75 #[Ff,EY 4]],.asg 4<|.call 76 #[Ff,.bin .sub Fe<|EY 1],.ret<|.tupD #[Da Iv,EY 0,G_,Im,Iq,.call 76 #[Ff,.bin .sub Fe<|EY 1]]] .skip,.ite (.cmp .eq FD<|EY 7) #v[.asg 7<|.call 76 #[Ff,.bin .sub Fe<|EY 1],.ret<|.tupD #[Da "box",EY 0,OO,.call 77 #[Ff,.bin .sub Fe<|EY 1,.call 75 #[Ff,EY 3]]]] .skip,.ite (.cmp .eq FD<|EY 8) #v[.asg 8<|.call 77 #[Ff,.bin .sub Fe<|EY 1,EY 3],.ret<|.tupD #[Da "if",EY 0,.idx Ru<|EY 0,.idx Ru<|EY 1,.idx Ru<|EY 2]] .skip,.ite (.cmp .eq FD<|EY 9) #v[.asgT [9,10] #[.idx (.lstD #[Da "all",Da Fx,Da "no",Da Fy,Da FN,Da "sum"])<|.call 75 #[Ff,EY 6],.call 78 #[Ff,.bin .sub Fe<|EY 1]],.ret<|.tupD #[Da Iu,EY 0,lY,.var 10,.call 76 #[Ff,.bin .sub Fe<|EY 1]]] .skip,.ite (.cmp .eq FD<|EY 10) #v[.asg 11<|.call 76 #[Ff,.bin .sub Fe<|EY 1],.ret<|.tupD #[Da HE,EY 0,.idx (.lstD #[Da "x",Da "y"])<|.call 75 #[Ff,EY 2],.var 11,.call 76 #[Ff,.bin .sub Fe<|EY 1]]] .skip,.ite (.cmp .eq (.call 75 #[Ff,EY 2])<|EY 0) #v[.ret<|.tupD #[Da Iw,EY 0,.call 77 #[Ff,.bin .sub Fe<|EY 1,.call 75 #[Ff,EY 3]]]] .skip,.asg 10<|.call 78 #[Ff,.bin .sub Fe<|EY 1],.ret<|.tupD #[Da "compr",EY 0,.var 10,.call 76 #[Ff,.bin .sub Fe<|EY 1]]]⟩
abbrev M8:Fn:=⟨3,2,#v[.asg 3<|.lstD .nil,.forR 4 FD #v[.app 3<|.call 76 #[Ff,Fe]],.ret<|.b1 .tuple GU]⟩
abbrev M9:Fn:=⟨2,5,#v[.asg 2<|.lstD .nil,.forR 3 (.bin .add (EY 1)<|.call 75 #[Ff,EY 2]) #v[.asg 4<|.idx (.lstD #[.tupD #[Da "x"],.tupD #[Da "y",Da "z"],.tupD #[Da "z"]])<|.call 75 #[Ff,EY 3],.asgT [5,6] #[.cmp .eq (.call 75 #[Ff,EY 4])<|EY 0,.idx (.call 73 .nil)<|.call 75 #[Ff,EY 5]],.app 2<|.tupD #[EY 0,G_,Iq,Im,.call 76 #[Ff,Fe]]],.ret<|.b1 .tuple FD]⟩
abbrev M_:Fn:=⟨1,2,#v[.asg 1<|.lstD .nil,.forR 2 (.call 75 #[Ff,EY 3]) #v[.app 1<|.tupD #[.cmp .eq (.call 75 #[Ff,EY 2])<|EY 0,.call 75 #[Ff,EY 5],.idx (.lstD #[Da Io,Da "Hat"]) FD]],.ret<|.tupD #[.bin .sub (.call 75 #[Ff,EY 6])<|EY 1,.b1 .tuple Fe]]⟩
abbrev NR:Fn:=⟨1,6,#v[.asgT [1,2] #[.idx (.lstD #[.tupD #[Da Io],.tupD #[Da Io,Da "Hat"]])<|.call 75 #[Ff,EY 2],.idx (.call 73 .nil)<|.call 75 #[Ff,EY 4]],.asg 3<|.call 75 #[Ff,EY 4],.asgT [4,5] #[.ite (.cmp .eq GU<|EY 1) (Da "Top")<|Da [],.idx (.lstD #[.tupD .nil,.tupD .nil,.tupD #[Da "Top"],.tupD #[Da "Top",Da "Hat"]]) GU],.asg 6<|.ite (.cmp .eq (.call 75 #[Ff,EY 2])<|EY 0) (.call 78 #[Ff,EY 1])<|.tupD .nil,.ret<|.tupD #[Da G2,EY 0,Fe,.cmp .eq (.call 75 #[Ff,EY 2])<|EY 0,FD,Iq,G_,Im,.call 77 #[Ff,EY 1,.call 75 #[Ff,EY 3]]]]⟩
abbrev Gc:Fn:=⟨2,6,#v[.ite (.cmp .eq Fe<|Da HQ) #v[.ret<|.tupD #[Fe,EY 0,Da Hj,.tupD #[Da Io],.idx (.lstD #[Da [],Da "o"])<|.call 75 #[Ff,EY 2]]] .skip,.ite (.cmp .eq Fe<|Da G2) #v[.ret<|.call 80 #[Ff]] .skip,.ite (.cmp .eq Fe<|Da HR) #v[.ret<|.tupD #[Fe,EY 0,.idx (.lstD #[Da [],Da "told"])<|.call 75 #[Ff,EY 2],.call 77 #[Ff,EY 2,.call 75 #[Ff,EY 3]]]] .skip,.ite (.cmp .eq Fe<|Da GI) #v[.ret<|.tupD #[Fe,EY 0,Da "told",.call 77 #[Ff,EY 2,.call 75 #[Ff,EY 3]]]] .skip,.ite (.cmp .eq Fe<|Da HS) #v[.asg 2<|.ite (.cmp .eq (.call 75 #[Ff,EY 2])<|EY 0) (.call 78 #[Ff,EY 1])<|.tupD .nil,.ret<|.tupD #[Fe,EY 0,Da "p",FD,.call 77 #[Ff,EY 2,.call 75 #[Ff,EY 3]]]] .skip,.ite (.cmp .eq Fe<|Da Ma) #v[.asgT [2,3] #[.ite (.cmp .eq (.call 75 #[Ff,EY 2])<|EY 0) (.call 78 #[Ff,EY 1])<|.tupD .nil,.idx (.call 73 .nil)<|.call 75 #[Ff,EY 4]],.asg 4<|.call 76 #[Ff,EY 1],.ret<|.tupD #[Fe,EY 0,Da "f",FD,GU,Iq,.call 76 #[Ff,EY 2]]] .skip,.unp [5,6]<|.ite (.cmp .eq (.call 75 #[Ff,EY 2])<|EY 0) (.tupD #[Da "p",.lit .none])<|.tupD #[Da [],.call 77 #[Ff,EY 1,.call 75 #[Ff,EY 3]]],.asg 7<|.call 79 #[Ff],.ret<|.tupD #[Fe,EY 0,G_,Im,OO,.bin .sub (.call 75 #[Ff,EY 3])<|EY 1]]⟩
abbrev FW:Fn:=⟨1,1,#v[.asg 1<|.idx Ff<|EY 0,.ite (.cmp .isin Fe<|.tupD #[Da Fz,Da HF]) #v[.ret<|.tupD #[Fe,EY 0,.idx Ff<|EY 2]] .skip,.ite (.cmp .isin Fe<|.tupD #[Da Ho,Da Hq,Da Hr]) #v[.ret<|.tupD #[Fe,EY 0]] .skip,.ite (.cmp .isin Fe<|.tupD #[Da "un",Da "bin",Da HE]) #v[.ret<|.bin .add (.tupD #[Fe,EY 0,.idx Ff<|EY 2])<|.b1 .tuple<|.comp 0 (.slc Ff (EY 3)<|.lit .none)<|.call 82 #[Ff]] .skip,.ite (.cmp .eq Fe<|Da Iv) #v[.ret<|.tupD #[Fe,EY 0,.idx Ff<|EY 2,.idx Ff<|EY 3,.call 82 #[.idx Ff<|EY 4],.call 82 #[.idx Ff<|EY 5]]] .skip,.ite (.cmp .eq Fe<|Da "box") #v[.ret<|.tupD #[Fe,EY 0,.call 82 #[.idx Ff<|EY 2],.b1 .tuple<|.comp 0 (.idx Ff<|EY 3)<|.call 82 #[Ff]]] .skip,.ite (.cmp .eq Fe<|Da "if") #v[.ret<|.bin .add (.tupD #[Fe,EY 0])<|.b1 .tuple<|.comp 0 (.slc Ff (EY 2)<|.lit .none)<|.call 82 #[Ff]] .skip,.ite (.cmp .eq Fe<|Da Iu) #v[.ret<|.tupD #[Fe,EY 0,.idx Ff<|EY 2,.call 83 #[.idx Ff<|EY 3],.call 82 #[.idx Ff<|EY 4]]] .skip,.ite (.cmp .eq Fe<|Da "compr") #v[.ret<|.tupD #[Fe,EY 0,.call 83 #[.idx Ff<|EY 2],.call 82 #[.idx Ff<|EY 3]]] .skip,.ret<|.tupD #[Fe,EY 0,.b1 .tuple<|.comp 0 (.idx Ff<|EY 2)<|.call 82 #[Ff]]]⟩
abbrev H_:Fn:=⟨1,0,#v[.ret<|.b1 .tuple<|.comp 0 Ff<|.bin .add (.bin .add (.tupD #[EY 0])<|.slc Ff (EY 1)<|EY 4)<|.tupD #[.call 82 #[.idx Ff<|EY 4]]]⟩
abbrev FL:Fn:=⟨1,2,#v[.asg 1<|.idx Ff<|EY 0,.ite (.cmp .eq Fe<|Da HQ) #v[.ret<|.bin .add (.tupD #[Fe,EY 0])<|.slc Ff (EY 2)<|.lit .none] .skip,.ite (.cmp .eq Fe<|Da G2) #v[.ret<|.bin .add (.bin .add (.tupD #[Fe,EY 0])<|.slc Ff (EY 2)<|EY 7)<|.tupD #[.call 83 #[.idx Ff<|EY 7],.b1 .tuple<|.comp 0 (.idx Ff<|EY 8)<|.call 82 #[Ff]]] .skip,.ite (.cmp .isin Fe<|.tupD #[Da HR,Da GI]) #v[.ret<|.tupD #[Fe,EY 0,.idx Ff<|EY 2,.b1 .tuple<|.comp 0 (.idx Ff<|EY 3)<|.call 82 #[Ff]]] .skip,.ite (.cmp .eq Fe<|Da HS) #v[.ret<|.tupD #[Fe,EY 0,.idx Ff<|EY 2,.call 83 #[.idx Ff<|EY 3],.b1 .tuple<|.comp 0 (.idx Ff<|EY 4)<|.call 82 #[Ff]]] .skip,.ite (.cmp .eq Fe<|Da Ma) #v[.ret<|.tupD #[Fe,EY 0,.idx Ff<|EY 2,.call 83 #[.idx Ff<|EY 3],.idx Ff<|EY 4,.call 82 #[.idx Ff<|EY 5],.call 82 #[.idx Ff<|EY 6]]] .skip,.asg 2<|.ite (.isN<|.idx Ff<|EY 3) (.lit .none)<|.b1 .tuple<|.comp 0 (.idx Ff<|EY 3)<|.call 82 #[Ff],.ret<|.bin .add (.tupD #[Fe,EY 0,.idx Ff<|EY 2,FD])<|.slc Ff (EY 4)<|.lit .none]⟩
abbrev NS:Fn:=⟨1,0,#v[.ret<|.didx 4 Ff]⟩
abbrev PP:S:=#v[.forR 2 (EY 2) #v[.setF 0 1 2<|EY 9,.asg 3<|.call 76 #[Fe,EY 3],.asg 4<|.call 11 #[GU],.asg 5<|.call 69 #[Iq],.ite (.or (.cmp .ne (.call 82 #[G_]) GU)<|.cmp .ne (.call 11 #[G_]) Iq) #v[.ret<|.lit<|.bool La] .skip],.asg 6<|.lstD .nil,.forR 2 (EY 2) #v[.setF 0 1 2<|EY 6,.app 6<|.call 81 #[Fe,.idx (.call 74 .nil)<|.call 75 #[Fe,EY 8]]],.asg 4<|.call 17 #[Im],.asg 5<|.call 68 #[Iq],.ret<|.and (.cmp .eq (.comp 0 G_<|.call 84 #[Ff]) Im)<|.cmp .eq (.call 17 #[G_]) Iq]
abbrev Na {α:Type}:D α→Q→Lc α
 |[],_=>Z
 |a::_,0=>R a
 |_::l,n+1=>Na l n
abbrev fnL:D Fn:=[NS,NO,Pn,TF,NP,NQ,M3,Nv,M4,M5,IJ,FY,IK,ML,Ol,Mc,Gj,M6,MM,H2,Me,MS,H3,IA,IB,H4,Mf,F_,Mg,HN,IS,IT,IU,IV,GR,IW,H5,Hy,G3,IC,G4,GV,GC,FV,Hz,HO,FF,GW,G5,G6,FH,GP,Ft,Ie,H6,Ig,H7,ID,GN,Mh,F8,ME,IX,HJ,Ih,IE,G7,H8,M7,Mi,Om,On,Oo,Op,Oq,Mj,Mk,M8,M9,M_,NR,Gc,FW,H_,FL]
abbrev gE (f:Q):Lc Fn:=Na fnL f
abbrev ad:D<|Lc Q:=[]
abbrev ae:D<|Lc Q:=[Z,R 20,R 21,R 22,R 23,R 24,R 25,R 26,R 27]
abbrev ag:D<|Lc Q:=[Z,Z,Z,Z,Z,Z,Z,Z,Z,R 30,R 31,R 32,R 33,R 34,R 35,R 36,R 37,R 38,R 39,R 40,R 41,R 42,R 43,R 44,R 45,R 46,R 47,R 48,R 49,R 50,R 51,R 52,R 53,R 54,R 55,R 56,R 57,R 58]
abbrev ah:D<|Lc Q:=[Z,Z,Z,Z,Z,Z,Z,Z,Z,R 30,R 31,R 32,R 33,R 34,R 35,R 36,R 37,R 38,R 39,R 40,R 41,R 42,R 43,R 44,R 45,R 46,R 47,R 48,R 49,R 50,R 51,R 52,R 53,R 54,R 55,R 56,R 57,R 58,R 59,R 60,R 61,R 62,R 63,R 64,R 65,R 66,R 67]
abbrev Kr (c m:Q):Lc Q:=((Na [ad,ae,ag,ah] c).bind λr=>Na r m).join
abbrev Os:Q→Lc Q
 |1=>R 19
 |2=>R 29
 |3=>R 29
 |_=>Z
abbrev Hd:Q→D (D Q×MV)
 |0=>[("and",.str "&&"),("or",.str "||"),("implies",.str "=>"),("iff",.str "<=>"),("not",.str "!"),("=<",.str "<=")]
 |1=>[("!",.int 5),(Fx,.int 7),("no",.int 7),(Fy,.int 7),(FN,.int 7),(Gv,.int 7),("#",.int 9),("-",.int 9),("~",.int 17),("^",.int 17),("*",.int 17)]
 |2=>[("||",.int 1),("<=>",.int 2),("=>",.int 3),("&&",.int 4),("=",.int 6),("!=",.int 6),("in",.int 6),("<",.int 6),(">",.int 6),("<=",.int 6),(">=",.int 6),("+",.int 8),("-",.int 8),("++",.int 10),("&",.int 11),("->",.int 12),("<:",.int 13),(":>",.int 14),(".",.int 16)]
 |3=>[("=",.str "!="),("in",.str "!in"),("<",.str ">="),(">",.str "<="),("<=",.str ">"),(">=",.str "<")]
 |4=>[("||",.int 1),("<=>",.int 2),("=>",.int 3),("&&",.int 4),("=",.int 6),("!=",.int 6),("in",.int 6),("!in",.int 6),("<",.int 6),(">",.int 6),("<=",.int 6),(">=",.int 6),("+",.int 8),("-",.int 8),("++",.int 10),("&",.int 11),("<:",.int 13),(":>",.int 14),(".",.int 16)]
 |_=>[]
abbrev pg:Pg:=⟨gE,Kr,Os,Hd⟩
abbrev faL:D Q:=[20,27,34,41,48,55,62,69,74,79,86,91,98,105,110,117,124,129,212,226,233,240,247,254,261,268,275,282,296,310,317,324,331,338,345,352,359,366,373,380,387,408,415,422,429,436,443,450,457,464,471,478,485,492,499,506,513,520,527,546,553,560,567,574,581,588,595,602,614,621,628,635,642,649,656,663,670,677,684,691,698,705,710,715,720]
abbrev Ss (f:Q):w_:=(Na faL f).getD 20
abbrev Po (c:Q):w_:=(Na [605,285,530] c).getD 605
abbrev ai (m:Q):D Q:=(Na ["__init__","sign","pass_row","skip","run_of","number","name","mark","next_one","kind","word","spot","take","took","want","is_name","want_name","want_number","names","begins_decl","expression","is_quantifier","signs_ahead","between","settle","operation","taken_word","mult","otherwise","put_together","expressions","operand","decl","decls","body","block","let","braced","items","item","enumerated","opened","params","function","command","scope","signature"] m).getD []
abbrev aI (m:Q):D Q:=(Na ["level_of_two","level_of_one","level_of","put","two_text","one_text","arrow_text","decl_text","decls_text","nodes_text","block_text","node_text","sig_text","params_text","scope_text","command_text","item_text","model_text","is_too_high",[],[],[],[],[],[],[],[],[],"tokens_of",[],[],[],[],[],[],[],[],[],[],[],[],[],[],[],[],[],[],[],[],[],[],[],[],[],[],[],[],[],[],[],[],[],[],[],[],[],[],[],"read_model","read_formula","_law_names","_law_signs","_law_heads","_law_mults","_law_kinds","_law_draw","_law_node","_law_nodes","_law_decls","_law_scope","_law_sig","_law_item","_law_plain","_law_plain_decls","_law_plain_item"] m).getD []
abbrev aJ (m:Q):D Q:=(Na ["Scanner","ExprReader","Reader"] m).getD []
abbrev SB (m:Q):D Q:=(Na ["SAME","AHEAD","BETWEEN","DENIED"] m).getD []
abbrev Ot (m:Q):D Q:=(Na ["str","int","tuple","isinstance","len","min","range","list"] m).getD []
abbrev mw (m:Q):q4:=(Na [.type s!"str",.type s!"int",.type s!"tuple",.builtin s!"isinstance",.builtin s!"len",.builtin s!"min",.type s!"range",.type s!"list"] m).getD .none
abbrev mx:D<|D Q×MV:=[("MULT",(.int 7)),("MULTS_printer",(.tup [(.str "some"),(.str "no"),(.str "lone"),(.str "one"),(.str "set")])),("BOX",(.int 15)),("TIMES",(.int 12)),("ARROW",(.int 3)),("WHOLE",(.int 18)),("LOOSE",(.int 0)),("COMPARED",(.int 6)),("MOST_HEIGHT",(.int 120)),("BLANKS",(.str [32,9,13,10])),("LETTERS",(.str "abcdefghijklmnopqrstuvwxyzABCDEFGHIJKLMNOPQRSTUVWXYZ_")),("MOST_FIGURES",(.int 1000)),("FIGURES",(.str "0123456789")),("SIGNS",(.tup [(.str "("),(.str ")"),(.str "["),(.str "]"),(.str "{"),(.str "}"),(.str ","),(.str "~"),(.str "^"),(.str "*"),(.str "#"),(.str "<=>"),(.str "<:"),(.str ":>"),(.str "=>"),(.str "=<"),(.str "<="),(.str ">="),(.str "!="),(.str "&&"),(.str "||"),(.str "->"),(.str "++"),(.str "-"),(.str "!"),(.str "+"),(.str "&"),(.str "."),(.str "="),(.str "<"),(.str ">"),(.str ":"),(.str "|")])),("RESERVED",(.tup [(.str "abstract"),(.str "all"),(.str "and"),(.str "as"),(.str "assert"),(.str "but"),(.str "check"),(.str "disj"),(.str "else"),(.str "enum"),(.str "exactly"),(.str "expect"),(.str "extends"),(.str "fact"),(.str "for"),(.str "fun"),(.str "iden"),(.str "iff"),(.str "implies"),(.str "in"),(.str "let"),(.str "lone"),(.str "module"),(.str "no"),(.str "none"),(.str "not"),(.str "one"),(.str "open"),(.str "or"),(.str "pred"),(.str "run"),(.str "set"),(.str "sig"),(.str "some"),(.str "sum"),(.str "univ")])),("MOST_DEPTH",(.int 25)),("QUANTS",(.tup [(.str "all"),(.str "some"),(.str "no"),(.str "lone"),(.str "one"),(.str "sum")])),("COMPARES_LEVEL",(.int 6)),("IMPLIES_LEVEL",(.int 3)),("BOX_LEVEL",(.int 15)),("MULTS_reader",(.tup [(.str "one"),(.str "lone"),(.str "some"),(.str "set")]))]
abbrev Pp (m:Q):D<|D Q:=(Na [[],["sign"],["node","op"],["node","least","text"],["node","sign","level","left","right","gap"],["node","sign","level"],["node","left","right"],["decl","is_disj","names","mult","node","many"],["decls"],["nodes","texts"],["nodes"],["node","op"],["item","names","is_abstract","mult","parent","supers","fields","facts","head","body"],["params"],["scope","default","numbers","texts"],["item","kind","name","nodes","scope","expect","what"],["item","kind","args","head","many"],["items"],["node","level","count"],["self","text"],["self","ahead"],["self"],["self","pair","close"],["self","signs","begin"],["self","begin","figures"],["self","begin"],["self","sign"],["self"],["text","scanner","found"],["self","tokens"],["self"],["self","ahead","place"],["self"],["self"],["self","text"],["self","text"],["self","ahead","place"],["self"],["self"],["self","found"],["self","ahead","place"],["self","parts","waiting","goes_on"],["self"],["self","waiting","sign","spot"],["self","parts","waiting","spot","left","sign","level","right"],["self","parts","waiting","level"],["self","word"],["self","word"],["self","word"],["self","parts","waiting","level","sign","spot","left","right"],["self","parts","one","level","sign","spot","left","right","last","middle"],["self","close","found"],["self","kind","text","spot","quantifier","node"],["self","spot","is_disj","names","mult"],["self","found"],["self","spot"],["self","found"],["self","spot","begun","node","value","named"],["self","spot","decls","body"],["self","found","spot"],["self","spot"],["self","spot","name","names"],["self","spot","name","args"],["self","found","close"],["self","spot","name","params","mult","result","body"],["self","spot","kind","name","nodes","scope","expect"],["self","default","found","is_exact","number"],["self","spot","is_abstract","mult","names","parent","supers","fields","facts"],["text"],["text","reader","node"],[],[],[],[],[],["tape","many","spot"],["tape","depth","kind","sign","left","one","other","base","parts","q","decls","value"],["tape","depth","many","found","k"],["tape","depth","found","k","names","is_disj","mult"],["tape","numbers","k"],["tape","names","mult","above","parent","supers","fields"],["tape","kind","params","mult","result","name","nodes","scope"],["node","op"],["decls"],["item","kind","nodes"]] m).getD []
abbrev PQ:D<|D Q:=["script","tape","lap","node","text","back","items"]
def Gp {a b:Ld} (h:(a&&b)=f') {G:Prop} (k:a=f'→b=f'→G):G:=k (w8.mp h).1 (w8.mp h).2
def Ml {a b c:Ld} (h:(a&&(b&&c))=f') {G:Prop} (k:a=f'→b=f'→c=f'→G):G:=Gp h λx h=>Gp h λy z=>k x y z
def PR {a b c d:Ld} (h:(a&&(b&&(c&&d)))=f') {G:Prop} (k:a=f'→b=f'→c=f'→d=f'→G):G:=Gp h λx h=>Ml h λy z u=>k x y z u
abbrev sB (x:Lf) (l:D Q):Ld:=K4 x.cps.toList l
def ju {x:Lf} {l:D Q} (h:sB x l=f'):x=E5 l:=by
 replace h:=B0.mp h
 subst h
 rfl
abbrev OD {α:Type} (e:Lb) (d:α) (a1:BoolOp→D Lb→Pos→α:=λH H H=>d) (a2:Lb→Y2→Lb→Pos→α:=λH H H H=>d) (a3:UnaryOp→Lb→Pos→α:=λH H H=>d) (a4:Lb→Lb→Lb→Pos→α:=λH H H H=>d) (a5:D (Lc Lb)→D Lb→Pos→α:=λH H H=>d) (a6:Lb→D K7→w7→Pos→α:=λH H H H=>d) (a7:Lb→D Dw→D Lb→Pos→α:=λH H H H=>d) (a8:Lb→D Lb→D Keyword→Pos→α:=λH H H H=>d) (a9:Ew→Q→Pos→α:=λH H H=>d) (b1:Lb→Lf→Pos→α:=λH H H=>d) (b2:Lb→Lb→Pos→α:=λH H H=>d) (b3:Lf→Pos→α:=λH H=>d) (b4:D Lb→Pos→α:=λH H=>d) (b5:D Lb→Q→Pos→α:=λH H H=>d) (b6:Lc Lb→Lc Lb→Lc Lb→Pos→α:=λH H H H=>d):α:=Lb.casesOn (motive_1:=λH=>α) e a1 (λH H H=>d) a2 a3 (λH H H H=>d) a4 a5 (λH H H=>d) a6 (λH H H H=>d) (λH H H H H=>d) (λH H H H=>d) (λH H=>d) (λH H=>d) (λH H=>d) a7 a8 (λH H H H=>d) (λH H=>d) a9 b1 b2 (λH H=>d) b3 b4 b5 b6
abbrev o4 (e:Lb):Q:=OD e 0 (a1:=λop es p=>13) (a2:=λl op r p=>5) (a3:=λop a p=>6) (a4:=λt l r p=>8) (a5:=λks es p=>14) (a6:=λa g s p=>15) (a7:=λl os rs p=>j7 os 0 λH os=>j7 os (j7 rs 0 λH rs=>j7 rs 7 λH H=>0) λH H=>0) (a8:=λf es kw p=>j7 kw 4 λH H=>0) (a9:=λc k p=>2) (b1:=λv a p=>3) (b2:=λv s p=>11) (b3:=λx p=>1) (b4:=λes p=>10) (b5:=λes k p=>9) (b6:=λl u t p=>J1 t 12 λH=>0)
abbrev e1 (e:Lb):Lb:=OD e e (a2:=λl op r p=>l) (a3:=λop a p=>a) (a4:=λt l r p=>t) (a6:=λa g s p=>a) (a7:=λl os rs p=>l) (a8:=λf es kw p=>f) (b1:=λv a p=>v) (b2:=λv s p=>v)
abbrev e2 (e:Lb):Lb:=OD e e (a2:=λl op r p=>r) (a4:=λt l r p=>l) (a7:=λl os rs p=>rs.headD e) (b2:=λv s p=>s)
abbrev e3 (e:Lb):Lb:=OD e e (a4:=λt l r p=>r)
abbrev eL (e:Lb):D Lb:=OD e [] (a1:=λop es p=>es) (a5:=λks es p=>es) (a8:=λf es kw p=>es) (b4:=λes p=>es) (b5:=λes k p=>es)
abbrev eS (e:Lb):Lf:=OD e default (b1:=λv a p=>a) (b3:=λx p=>x)
abbrev eC (e:Lb):Ew:=OD e .none (a9:=λc k p=>c)
abbrev eO (e:Lb):Y2:=OD e .Add (a2:=λl op r p=>op)
abbrev eU (e:Lb):UnaryOp:=OD e .Not (a3:=λop a p=>op)
abbrev eM (e:Lb):Dw:=OD e .Eq (a7:=λl os rs p=>os.headD .Eq)
abbrev eB (e:Lb):BoolOp:=OD e .And (a1:=λop es p=>op)
abbrev eK (e:Lb):D<|Lc Lb:=OD e [] (a5:=λks es p=>ks)
abbrev eP (e:Lb):Lc Lb×Lc Lb:=OD e (Z,Z) (b6:=λl u t p=>(l,u))
abbrev eG (e:Lb):D K7:=OD e [] (a6:=λa g s p=>g)
abbrev o5 (e:Lb):w7:=OD e default (a6:=λa g s p=>s)
abbrev gT (e:Lb):Ld:=OD e La (a8:=λf es kw p=>f') (a9:=λc k p=>f') (b1:=λv a p=>f') (b3:=λx p=>f')
abbrev o6 (e:Lb):Ld:=OD e La (a5:=λks es p=>f') (a8:=λf es kw p=>j7 es La λH H=>f') (a9:=λc k p=>f') (b1:=λv a p=>f') (b3:=λx p=>f')
abbrev iQ (e:Lb):Ld:=OD e La (a1:=λop es p=>f') (a2:=λl op r p=>f') (a3:=λop a p=>f') (a4:=λt l r p=>f') (a5:=λks es p=>f') (a6:=λa g s p=>f') (a7:=λl os rs p=>f') (a8:=λf es kw p=>f') (a9:=λc k p=>f') (b1:=λv a p=>f') (b2:=λv s p=>f') (b3:=λx p=>f') (b4:=λes p=>f') (b5:=λes k p=>f')
abbrev RL:D<|Lb→Prop:=[λH=>True,λe=>∀P:Lb→Prop,(∀x p,P<|.Name x p)→P e,λe=>∀P:Lb→Prop,(∀c q p,P<|.Constant c q p)→P e,λe=>∀P:Lb→Prop,(∀v a p,P<|.Attribute v a p)→P e,λe=>∀P:Lb→Prop,(∀g as p,P<|.Call g as [] p)→P e,λe=>∀P:Lb→Prop,(∀l o r p,P<|.BinOp l o r p)→P e,λe=>∀P:Lb→Prop,(∀o a p,P<|.UnaryOp o a p)→P e,λe=>∀P:Lb→Prop,(∀l o r p,P<|.Compare l [o] [r] p)→P e,λe=>∀P:Lb→Prop,(∀t l r p,P<|.IfExp t l r p)→P e,λe=>∀P:Lb→Prop,(∀es q p,P<|.Tuple es q p)→P e,λe=>∀P:Lb→Prop,(∀es p,P<|.List es p)→P e,λe=>∀P:Lb→Prop,(∀v s p,P<|.Subscript v s p)→P e,λe=>∀P:Lb→Prop,(∀l u p,P<|.Slice l u Z p)→P e,λe=>∀P:Lb→Prop,(∀o es p,P<|.BoolOp o es p)→P e,λe=>∀P:Lb→Prop,(∀ks vs p,P<|.Dict ks vs p)→P e,λe=>∀P:Lb→Prop,(∀a g s p,P<|.ListComp a g s p)→P e]
abbrev RR (n:Q) (e:Lb):Prop:=(Na RL n).casesOn True λf=>f e
def zp7 (e:Lb):RR (o4 e) e:=by
 cases e with
 |BoolOp op es p=>exact λP kk=>kk op es p
 |BinOp l op r p=>exact λP kk=>kk l op r p
 |UnaryOp op a p=>exact λP kk=>kk op a p
 |IfExp t l r p=>exact λP kk=>kk t l r p
 |Dict ks es p=>exact λP kk=>kk ks es p
 |ListComp a g s p=>exact λP kk=>kk a g s p
 |Constant c k p=>exact λP kk=>kk c k p
 |Attribute v a p=>exact λP kk=>kk v a p
 |Subscript v s p=>exact λP kk=>kk v s p
 |Name x p=>exact λP kk=>kk x p
 |D es p=>exact λP kk=>kk es p
 |Tuple es k p=>exact λP kk=>kk es k p
 |Call f es kw p=>cases kw with
  |nil=>exact λP k=>k f es p
  |cons _ _=>exact trivial
 |Slice l u t p=>cases t with
  |Z=>exact λP k=>k l u p
  |R _=>exact trivial
 |Compare l os rs p=>cases os with
  |nil=>exact trivial
  |cons o os=>cases os with
   |cons _ _=>exact trivial
   |nil=>cases rs with
    |nil=>exact trivial
    |cons r rs=>cases rs with
     |nil=>exact λP k=>k l o r p
     |cons _ _=>exact trivial
 |_=>exact trivial
abbrev tg (n:Q) (e:Lb):Ld:=Bh n<|o4 e
def wN {n:Q} {e:Lb} (h:tg n e=f'):RR n e:=Q5 h▸zp7 e
abbrev zP (e:Lb) (k:Lf→Ld):Ld:=tg 1 e&&k (eS e)
def zL {P:Lb→Prop} {e:Lb} {k} (h:zP e k=f') (f:∀x p,k x=f'→P (.Name x p)):P e:=Gp h λY T'=>wN Y (λe=>(k<|eS e)=f'→P e) f T'
abbrev QW (e:Lb) (k:Ew→Ld):Ld:=tg 2 e&&k (eC e)
def Zi {P:Lb→Prop} {e:Lb} {k} (h:QW e k=f') (f:∀c q p,k c=f'→P (.Constant c q p)):P e:=Gp h λY T'=>wN Y (λe=>(k<|eC e)=f'→P e) f T'
abbrev iR (e:Lb) (k:Lb→Lf→Pos→Ld):Ld:=tg 3 e&&k (e1 e) (eS e) e.pos
def my {P:Lb→Prop} {e:Lb} {k} (h:iR e k=f') (f:∀v a p,k v a p=f'→P (.Attribute v a p)):P e:=Gp h λY T'=>wN Y (λe=>(k (e1 e) (eS e) e.pos)=f'→P e) f T'
abbrev mz (e:Lb) (k:Lb→D Lb→Pos→Ld):Ld:=tg 4 e&&k (e1 e) (eL e) e.pos
def o7 {P:Lb→Prop} {e:Lb} {k} (h:mz e k=f') (f:∀g as p,k g as p=f'→P (.Call g as [] p)):P e:=Gp h λY T'=>wN Y (λe=>(k (e1 e) (eL e) e.pos)=f'→P e) f T'
abbrev o8 (e:Lb) (k:Lb→Y2→Lb→Ld):Ld:=tg 5 e&&k (e1 e) (eO e) (e2 e)
def zp9 {P:Lb→Prop} {e:Lb} {k} (h:o8 e k=f') (f:∀l o r p,k l o r=f'→P (.BinOp l o r p)):P e:=Gp h λY T'=>wN Y (λe=>(k (e1 e) (eO e)<|e2 e)=f'→P e) f T'
abbrev iS (e:Lb) (k:UnaryOp→Lb→Ld):Ld:=tg 6 e&&k (eU e) (e1 e)
def mA {P:Lb→Prop} {e:Lb} {k} (h:iS e k=f') (f:∀o a p,k o a=f'→P (.UnaryOp o a p)):P e:=Gp h λY T'=>wN Y (λe=>(k (eU e)<|e1 e)=f'→P e) f T'
abbrev Ks (e:Lb) (k:Lb→Dw→Lb→Ld):Ld:=tg 7 e&&k (e1 e) (eM e) (e2 e)
def Wh {P:Lb→Prop} {e:Lb} {k} (h:Ks e k=f') (f:∀l o r p,k l o r=f'→P (.Compare l [o] [r] p)):P e:=Gp h λY T'=>wN Y (λe=>(k (e1 e) (eM e)<|e2 e)=f'→P e) f T'
abbrev o9 (e:Lb) (k:Lb→Lb→Lb→Ld):Ld:=tg 8 e&&k (e1 e) (e2 e) (e3 e)
def zqb {P:Lb→Prop} {e:Lb} {k} (h:o9 e k=f') (f:∀t l r p,k t l r=f'→P (.IfExp t l r p)):P e:=Gp h λY T'=>wN Y (λe=>(k (e1 e) (e2 e)<|e3 e)=f'→P e) f T'
abbrev gF (e:Lb) (k:D Lb→Ld):Ld:=tg 9 e&&k (eL e)
def QX {P:Lb→Prop} {e:Lb} {k} (h:gF e k=f') (f:∀es q p,k es=f'→P (.Tuple es q p)):P e:=Gp h λY T'=>wN Y (λe=>(k<|eL e)=f'→P e) f T'
abbrev o_ (e:Lb) (k:D Lb→Ld):Ld:=tg 10 e&&k (eL e)
def zqd {P:Lb→Prop} {e:Lb} {k} (h:o_ e k=f') (f:∀es p,k es=f'→P (.List es p)):P e:=Gp h λY T'=>wN Y (λe=>(k<|eL e)=f'→P e) f T'
abbrev Yb (e:Lb) (k:Lb→Lb→Ld):Ld:=tg 11 e&&k (e1 e) (e2 e)
def QY {P:Lb→Prop} {e:Lb} {k} (h:Yb e k=f') (f:∀v s p,k v s=f'→P (.Subscript v s p)):P e:=Gp h λY T'=>wN Y (λe=>(k (e1 e)<|e2 e)=f'→P e) f T'
abbrev pc (e:Lb) (k:Lc Lb→Lc Lb→Ld):Ld:=tg 12 e&&k (eP e).1 (eP e).2
def zqf {P:Lb→Prop} {e:Lb} {k} (h:pc e k=f') (f:∀l u p,k l u=f'→P (.Slice l u Z p)):P e:=Gp h λY T'=>wN Y (λe=>(k (eP e).1 (eP e).2)=f'→P e) f T'
abbrev mB (e:Lb) (k:BoolOp→D Lb→Ld):Ld:=tg 13 e&&k (eB e) (eL e)
def pd {P:Lb→Prop} {e:Lb} {k} (h:mB e k=f') (f:∀o es p,k o es=f'→P (.BoolOp o es p)):P e:=Gp h λY T'=>wN Y (λe=>(k (eB e)<|eL e)=f'→P e) f T'
abbrev pf (e:Lb) (k:D (Lc Lb)→D Lb→Ld):Ld:=tg 14 e&&k (eK e) (eL e)
def zqh {P:Lb→Prop} {e:Lb} {k} (h:pf e k=f') (f:∀ks vs p,k ks vs=f'→P (.Dict ks vs p)):P e:=Gp h λY T'=>wN Y (λe=>(k (eK e)<|eL e)=f'→P e) f T'
abbrev mD (e:Lb) (k:Lb→D K7→w7→Pos→Ld):Ld:=tg 15 e&&k (e1 e) (eG e) (o5 e) e.pos
def ph {P:Lb→Prop} {e:Lb} {k} (h:mD e k=f') (f:∀a g s p,k a g s p=f'→P (.ListComp a g s p)):P e:=Gp h λY T'=>wN Y (λe=>(k (e1 e) (eG e) (o5 e) e.pos)=f'→P e) f T'
abbrev TG {α:Type} (x:Q9) (d:α) (a1:Lc Lb→Pos→α:=λH H=>d) (a2:D Lb→Lb→Pos→α:=λH H H=>d) (a3:Lb→Y2→Lb→Pos→α:=λH H H H=>d) (a4:Lb→Lb→D Q9→D Q9→Pos→α:=λH H H H H=>d) (a5:Lb→D Q9→D Q9→Pos→α:=λH H H H=>d) (a6:Lb→D Q9→D Q9→Pos→α:=λH H H H=>d) (a7:Lb→Pos→α:=λH H=>d) (a8:Pos→α:=λH=>d):α:=Stmt.casesOn (motive_2:=λH=>α) x (λH H H H H H H H H H=>d) (λH H H H H H H H H H=>d) (λH H H H H H H H H H H=>d) a1 (λH H=>d) a2 (λH H H H H H H=>d) a3 (λH H H H H=>d) a4 (λH H H H H=>d) a5 a6 (λH H H=>d) (λH H H=>d) (λH H H=>d) (λH H H=>d) (λH H H H H=>d) (λH H H H H=>d) (λH H H=>d) (λH H=>d) (λH H H H=>d) (λH H=>d) (λH H=>d) a7 (λH=>d) a8 λH=>d
abbrev sg (x:Q9):Q:=TG x 0 (a1:=λo p=>1) (a2:=λU e p=>j7 U 0 λH r=>j7 r 2 λH H=>0) (a3:=λt op e p=>3) (a4:=λt i b ow p=>j7 ow 4 λH H=>0) (a5:=λt b ow p=>j7 ow 5 λH H=>0) (a6:=λt b b2 p=>6) (a7:=λe p=>7) (a8:=λp=>8)
abbrev nE:Lb:=.Tuple [] 0 default
abbrev sO (x:Q9):Lc Lb:=TG x Z (a1:=λo p=>o)
abbrev s1 (x:Q9):Lb:=TG x nE (a2:=λU e p=>U.headD nE) (a3:=λt op e p=>t) (a4:=λt i b ow p=>t) (a5:=λt b ow p=>t) (a6:=λt b b2 p=>t) (a7:=λe p=>e)
abbrev s2 (x:Q9):Lb:=TG x nE (a2:=λU e p=>e) (a3:=λt op e p=>e) (a4:=λt i b ow p=>i)
abbrev pm (x:Q9):Y2:=TG x .Add (a3:=λt op e p=>op)
abbrev aK (x:Q9):D Q9:=TG x [] (a4:=λt i b ow p=>b) (a5:=λt b ow p=>b) (a6:=λt b b2 p=>b)
abbrev pn (x:Q9):D Q9:=TG x [] (a6:=λt b b2 p=>b2)
abbrev sP (x:Q9):Pos:=TG x default (a2:=λU e p=>p) (a7:=λe p=>p)
abbrev SL:D<|Q9→Prop:=[λH=>True,λx=>∀P:Q9→Prop,(∀o p,P<|.Return o p)→P x,λx=>∀P:Q9→Prop,(∀t e p,P<|.Assign [t] e p)→P x,λx=>∀P:Q9→Prop,(∀t o e p,P<|.AugAssign t o e p)→P x,λx=>∀P:Q9→Prop,(∀t i b p,P<|.For t i b [] p)→P x,λx=>∀P:Q9→Prop,(∀t b p,P<|.While t b [] p)→P x,λx=>∀P:Q9→Prop,(∀t b b2 p,P<|.If t b b2 p)→P x,λx=>∀P:Q9→Prop,(∀e p,P<|.Expr e p)→P x,λx=>∀P:Q9→Prop,(∀p,P<|.Break p)→P x]
abbrev SR (n:Q) (x:Q9):Prop:=(Na SL n).casesOn True λf=>f x
def zs2 (x:Q9):SR (sg x) x:=by
 cases x with
 |Return o p=>exact λP k=>k o p
 |AugAssign t o e p=>exact λP k=>k t o e p
 |If t b b2 p=>exact λP k=>k t b b2 p
 |Lb e p=>exact λP k=>k e p
 |Break p=>exact λP k=>k p
 |Assign U e p=>cases U with
  |nil=>exact trivial
  |cons t r=>cases r with
   |nil=>exact λP k=>k t e p
   |cons _ _=>exact trivial
 |For t i b o p=>cases o with
  |nil=>exact λP k=>k t i b p
  |cons _ _=>exact trivial
 |While t b o p=>cases o with
  |nil=>exact λP k=>k t b p
  |cons _ _=>exact trivial
 |_=>exact trivial
abbrev Su (n:Q) (x:Q9):Ld:=Bh n<|sg x
def yi {n:Q} {x:Q9} (h:Su n x=f'):SR n x:=Q5 h▸zs2 x
abbrev pq (x:Q9) (k:Lc Lb→Ld):Ld:=Su 1 x&&k (sO x)
def zqj {P:Q9→Prop} {x:Q9} {k} (h:pq x k=f') (f:∀o p,k o=f'→P (.Return o p)):P x:=Gp h λY T'=>yi Y (λx=>(k<|sO x)=f'→P x) f T'
abbrev gG (x:Q9) (k:Lb→Lb→Pos→Ld):Ld:=Su 2 x&&k (s1 x) (s2 x) (sP x)
def Wi {P:Q9→Prop} {x:Q9} {k} (h:gG x k=f') (f:∀t e p,k t e p=f'→P (.Assign [t] e p)):P x:=Gp h λY T'=>yi Y (λx=>(k (s1 x) (s2 x)<|sP x)=f'→P x) f T'
abbrev mE (x:Q9) (k:Lb→Y2→Lb→Ld):Ld:=Su 3 x&&k (s1 x) (pm x) (s2 x)
def pt {P:Q9→Prop} {x:Q9} {k} (h:mE x k=f') (f:∀t o e p,k t o e=f'→P (.AugAssign t o e p)):P x:=Gp h λY T'=>yi Y (λx=>(k (s1 x) (pm x)<|s2 x)=f'→P x) f T'
abbrev mF (x:Q9) (k:Lb→Lb→D Q9→Ld):Ld:=Su 4 x&&k (s1 x) (s2 x) (aK x)
def pv {P:Q9→Prop} {x:Q9} {k} (h:mF x k=f') (f:∀t i b p,k t i b=f'→P (.For t i b [] p)):P x:=Gp h λY T'=>yi Y (λx=>(k (s1 x) (s2 x)<|aK x)=f'→P x) f T'
abbrev pw (x:Q9) (k:Lb→D Q9→Ld):Ld:=Su 5 x&&k (s1 x) (aK x)
def zql {P:Q9→Prop} {x:Q9} {k} (h:pw x k=f') (f:∀t b p,k t b=f'→P (.While t b [] p)):P x:=Gp h λY T'=>yi Y (λx=>(k (s1 x)<|aK x)=f'→P x) f T'
abbrev px (x:Q9) (k:Lb→D Q9→D Q9→Ld):Ld:=Su 6 x&&k (s1 x) (aK x) (pn x)
def zqn {P:Q9→Prop} {x:Q9} {k} (h:px x k=f') (f:∀t b b2 p,k t b b2=f'→P (.If t b b2 p)):P x:=Gp h λY T'=>yi Y (λx=>(k (s1 x) (aK x)<|pn x)=f'→P x) f T'
abbrev iT (x:Q9) (k:Lb→Pos→Ld):Ld:=Su 7 x&&k (s1 x) (sP x)
def mG {P:Q9→Prop} {x:Q9} {k} (h:iT x k=f') (f:∀e p,k e p=f'→P (.Expr e p)):P x:=Gp h λY T'=>yi Y (λx=>(k (s1 x)<|sP x)=f'→P x) f T'
def zqo {P:Q9→Prop} {x:Q9} (h:Su 8 x=f') (f:∀p,P<|.Break p):P x:=yi h P f
abbrev SD:D Q:="__debug__"
abbrev vB (vs:D<|D Q) (i:Q) (x:Lf):Ld:=J1 (Na vs i) La λl=>sB x l&&!K4 l SD
abbrev gH (k:ER) (x:D Q) (l:D<|Lf×ER):Ld:=D.rec La (λp r ih=>CX (K4 p.1.cps.toList x) ih<|decide (p.2=k)) l
def yx {α:Type} {l:D α} {i:Q} {a:α} (h:Na l i=R a):l[i]?=R a:=by
 induction l generalizing i with
 |nil=>exact nO h
 |cons b l ih=>induction i with
  |zero=>exact h
  |succ i=>exact ih h
def py {l:D Q} (h:(!K4 l SD)=f'):(E5 l==(s!"__debug__":Lf))=La:=by
 (refine rq (show(s!"__debug__":Lf)=E5 SD from C) ?_;rw[JT])
 refine Lk λe=>?_
 rw[B0.mpr e]at h
 exact nB h
def jk {vs:D<|D Q} {i:Q} {x:Lf} (h:vB vs i x=f') {G:Prop} (k:(vs.map E5)[i]?=R x→(x==(s!"__debug__":Lf))=La→G):G:=by
 unfold vB at h
 induction e:Na vs i with
 |Z=>rw[e]at h;exact nB h
 |R l=>
  rw[e]at h
  refine Gp h λY T'=>?_
  have e1:=ju Y
  clear h Y;subst e1
  exact k (by(refine rq (D.getElem?_map) ?_;refine rq (yx e) ?_);rfl)<|py T'
def mH {k:ER} {x:D Q} {l:D<|Lf×ER} (h:gH k x l=f'):l.lookup (E5 x)=R k:=by
 induction l with
 |nil=>exact nB h
 |cons p l ih=>
  obtain⟨y,q⟩:=p
  refine rq EK ?_
  change (CX (K4 y.cps.toList x) (gH k x l) (decide (q=k)):Ld)=f' at h
  induction e:K4 y.cps.toList x with
  |f'=>
   rw[e]at h
   (refine rq (ju (x:=y) e) ?_;rw[beq_self_eq_true])
   exact Li R<|Lm h
  |La=>
   rw[e]at h
   have:(E5 x==y)=La:=by
    refine beq_eq_false_iff_ne.mpr λq=>?_
    rw[←q]at e
    rw[show K4 (E5 x).cps.toList x=f' from B0.mpr C]at e
    exact nB e.symm
   refine rq this ?_
   exact ih h
abbrev gB (sc:w7) (x:Lf) (l:D Q):Ld:=sB x l&&(!l.isEmpty&&(!K4 l SD&&gH .globalImplicit l sc.names))
abbrev mI (sc:w7) (x:Lf) (m:MV):Ld:=mx.any λp=>gB sc x p.1&&MV.eqb p.2 m
abbrev Kt (c:Ew) (k:Lf→Ld):Ld:=Const.casesOn (motive:=λH=>Ld) c La (λH=>La) (λH=>La) (λH=>La) (λH H=>La) k (λH=>La) La
def yZ {P:Ew→Prop} {c:Ew} {k} (h:Kt c k=f') (f:∀x,k x=f'→P (.str x)):P c:=by
 induction c with
 |str x=>exact f x h
 |_=>exact nB h
abbrev mJ (m:MV) (c:Ew):Ld:=MV.casesOn (motive_1:=λH=>Ld) m (match c with| .none=>f'|_=>La) (λb=>match c with| .bool x=>decide (x=b)|_=>La) (λi=>match c with| .int x=>decide (x=i)|_=>La) (λl=>Kt c λx=>sB x l) (λH=>La) λH=>La
abbrev iU (o:Ph) (p:Y2):Ld:=decide (p=Ph.casesOn (motive:=λH=>Y2) o .Add .Sub .Mult .Mod)
abbrev mK (o:Oh) (p:Dw):Ld:=decide (p=Oh.casesOn (motive:=λH=>Dw) o .Eq .NotEq .Lt .LtE .Gt .GtE .In .NotIn)
abbrev fB (k i:Q) (a:Lf):Ld:=J1 (Na (FS k) i) La λl=>sB a l
abbrev pz (o:B1):Q:=B1.casesOn (motive:=λH=>Q) o 0 1 2 3 4
abbrev RW (es:D Lb) (k:Lb→Ld):Ld:=j7 es La λe r=>j7 r (k e) λH H=>La
abbrev TH (es:D Lb) (k:Lb→Lb→Ld):Ld:=j7 es La λe r=>RW r<|k e
def vo {P:D Lb→Prop} {es:D Lb} {k} (h:RW es k=f') (f:∀e,k e=f'→P [e]):P es:=by
 induction es with
 |nil=>exact nB h
 |cons e r=>clear tail_ih;induction r with
  |nil=>exact f e h
  |cons _ _=>exact nB h
def Zj {P:D Lb→Prop} {es:D Lb} {k} (h:TH es k=f') (f:∀e e',k e e'=f'→P [e,e']):P es:=by
 induction es with
 |nil=>exact nB h
 |cons e r=>exact vo (P:=λr=>P<|e::r) (k:=k e) h λe' h=>f e e' h
abbrev pA (o:Lb) (r q:Pos) (as:D Lb):Ld:=o6 o&&(Bh r.endLine q.line&&(as.all iQ&&w0 as.length 29))
abbrev xa (e:Lb) (k:Lb→Lf→D Lb→Ld):Ld:=mz e λg as q=>iR g λo name r=>pA o r q as&&k o name as
abbrev QZ (e:Lb) (k:Lf→D Lb→Ld):Ld:=mz e λg as q=>zP g λx=>k x as
def Zk {P:Lb→Prop} {e:Lb} {k} (h:QZ e k=f') (f:∀x xp as p,k x as=f'→P (.Call (.Name x xp) as [] p)):P e:=o7 h λg as p h=>zL (P:=λg=>P<|.Call g as [] p) h λx xp h=>f x xp as p h
inductive Md where
 |E (e:Lb)
 |T (e:Lb)
 |A (es:D Lb)
 |L (es:D Lb)
 |Vs (es:D Lb)
 |Bo (o:BoolOp) (es:D Lb)
 |P (ks:D<|D Q) (keys:D<|Lc Lb) (es:D Lb)
 |V (e:Lb)
 |As (np i:Q) (x:Lf) (q:Pos) (e:Lb) (p:Pos)
abbrev gI (sc:w7):Env:={scope:=sc,locals:=0,globals:=0,cells:=[]}
abbrev aL (sc:w7) (b:Ld) (e:Lb) (t:Lc Lb) (l:Q):Ld:=decide (pureOf (K8 e t l<|gI sc)=R b)
def Ja {sc:w7} {b:Ld} {e:Lb} {t:Lc Lb} {l:Q} {Ln:D Lf} (h:aL sc b e t l=f'):∀Lo,Fs Lo sc Ln→K8 e t l Lo=pure b:=λLo O=>by
 have:=Em<|Lm h
 rw[←O.es]at this
 exact this
abbrev et (sc:w7) (vs:D<|D Q) (md:Md) (kE kT:Lb→Ld):Ld:=Md.casesOn (motive:=λH=>Ld) md kE kT (λH=>La) (λH=>La) (λH=>La) (λH es=>RW es λe=>kE e&&kT e) (λH H H=>La) kE λnp i x q e p=>aL sc La e (R<|.Name x q) p.line&&(kE e&&vB vs i x)
abbrev OT (sc:w7) (vs:D<|D Q) (md:Md) (kE:Lb→Ld):Ld:=et sc vs md kE λe=>gT e&&kE e
abbrev iV (x:X) (k:Lb→Ld) (o:Lc Lb):Ld:=J1 o (X.casesOn (motive:=λH=>Ld) x La (λm=>MV.casesOn (motive_1:=λH=>Ld) m f' (λH=>La) (λH=>La) (λH=>La) (λH=>La) λH=>La) (λH=>La) (λH=>La) (λH=>La) (λH H H=>La) (λH H H=>La) (λH=>La) (λH=>La) (λH=>La) (λH H=>La) (λH H=>La) (λH H H=>La) (λH=>La) (λH=>La) (λH H=>La) (λH H H=>La) (λH H H=>La) (λH H=>La) (λH H H=>La) (λH H H=>La) (λH H=>La) (λH H=>La) (λH H=>La) (λH H=>La) (λH H=>La) (λH H H=>La) (λH=>La) (λH H H=>La) (λH H=>La) (λH H=>La) (λH H H H=>La) (λH H H=>La) (λH=>La) La λH H=>La) k
abbrev tgN (es:D Lb):D<|D Q:=es.map λe=>(eS e).cps.toList
abbrev mL (e:Lb):D<|D Q:=CX (tg 9 e) [(eS e).cps.toList]<|tgN<|eL e
abbrev Jb (vs:D<|D Q):D Lb→D Q→Ld:=λes=>D.rec (motive:=λH=>D Q→Ld) (λis=>j7 is f' λH H=>La) (λe H ih is=>j7 is La λi is=>(zP e λx=>vB vs i x)&&ih is) es
abbrev pB (np:Q) (vs:D<|D Q) (e:Lb):Ld:=Di np (zP e λx=>vB vs 0 x) λn=>gF e λes=>Jb vs es<|j5<|n+1
abbrev TI (sc:w7) (vs:D<|D Q):Ld:=decide (sc.kind=.function)&&(sc.names.all (λp=>!decide (p.2=.free)&&(!decide (p.2=.cell)&&(!decide (p.2=.local)||gH .local p.1.cps.toList sc.names)))&&(vs.all (λx=>gH .local x sc.names)&&decide vs.Nodup))
abbrev pC (a:X) (vs:D<|D Q) (e:Lb):Ld:=X.casesOn (motive:=λH=>Ld) a f' (λH=>f') (λH=>f') (λi=>zP e λx=>vB vs i x) (λH=>f') (λH H H=>f') (λH H H=>f') (λH=>f') (λH=>f') (λH=>f') (λH H=>f') (λH H=>f') (λH H H=>f') (λH=>f') (λH=>f') (λH H=>f') (λH H H=>f') (λH H H=>f') (λH H=>f') (λH H H=>f') (λH H H=>f') (λH H=>f') (λH H=>f') (λH H=>f') (λH H=>f') (λH H=>f') (λH H H=>f') (λH=>f') (λH H H=>f') (λH H=>f') (λH H=>f') (λH H H H=>f') (λH H H=>f') (λH=>f') f' λH H=>f'
abbrev pD (g:D K7) (k:Lb→Lb→Ld):Ld:=j7 g La λc r=>j7 r (c.ifs.isEmpty&&(decide (c.is_async=0)&&k c.target c.iter)) λH H=>La
abbrev pE (g:D K7) (k:Lb→Lb→Lb→Lb→Lb→Ld):Ld:=j7 g La λc r=>j7 r La λd r=>j7 r (c.ifs.isEmpty&&(decide (c.is_async=0)&&(decide (d.is_async=0)&&RW d.ifs (k c.target c.iter d.target d.iter)))) λH H=>La
def mM {P:K7→Prop} {c:K7} (T':decide (c.is_async=0)=f') (f:P ⟨c.target,c.iter,c.ifs,0⟩):P c:=by
 have e:c=⟨c.target,c.iter,c.ifs,0⟩:=by
  have:=Lm T'
  clear T';cases c with
  |mk t i f a=>exact Li _ this
 refine rq e ?_;exact f
def zje {P:D K7→Prop} {g:D K7} {k} (h:pD g k=f') (f:∀t i,k t i=f'→P [⟨t,i,[],0⟩]):P g:=by
 induction g with
 |nil=>exact nB h
 |cons c r=>clear tail_ih;induction r with
  |cons _ _=>exact nB h
  |nil=>exact Ml h λY T' h=>mM (P:=λc=>P [c]) T'<|C9.mp Y▸f c.target c.iter h
def zjf {P:D K7→Prop} {g:D K7} {k} (h:pE g k=f') (f:∀t i t2 i2 d,k t i t2 i2 d=f'→P [⟨t,i,[],0⟩,⟨t2,i2,[d],0⟩]):P g:=by
 induction g with
 |nil=>exact nB h
 |cons c r=>clear tail_ih;induction r with
  |nil=>exact nB h
  |cons d r=>clear tail_ih;induction r with
   |cons _ _=>exact nB h
   |nil=>exact PR h λY T' h3 h=>mM (P:=λc=>P [c,d]) T'<|mM (P:=λd=>P [_,d]) h3<|C9.mp Y▸vo (P:=λl=>P [⟨c.target,c.iter,[],0⟩,⟨d.target,d.iter,l,0⟩]) h λe h=>f _ _ _ _ e h
abbrev mN (np:Q) (it:Lb→Ld) (bd:D (D Q)→w7→Lb→Ld) (e:Lb):Ld:=mD e λelt g sc2 pos=>pD g λt i=>TI sc2 (mL t)&&(pB np (mL t) t&&(it i&&bd (mL t) sc2 elt))
abbrev OU (a b:Lb):D<|D Q:=[(eS a).cps.toList,(eS b).cps.toList]
abbrev flK (it:Lb→Ld) (e:Lb):Ld:=mD e λelt g sc2 pos=>pE g λt i t2 i2 d=>(TI sc2 (OU t t2)&&(it i&&
 (zP t (λx=>vB (OU t t2) 0 x&&zP i2 λy=>sB y x.cps.toList)&&(zP t2 (λx=>vB (OU t t2) 1 x&&zP elt λy=>sB y x.cps.toList)&&QZ d λy as=>gB sc2 y (Ot 3)&&TH as λa z=>zP z (λz=>gB sc2 z<|Ot 2)&&zP a λq=>vB (OU t t2) 1 q))))
nonrec abbrev pF:=D (D Q)→w7→Md→Ld
abbrev zs3 (e:Lb) (k:Lb→Ld):Ld:=Ks e λl o r=>decide (o=.Is)&&(QW r (λc=>mJ .none c)&&k l)
abbrev gJ:D Q:="get"
abbrev mO:D Q:="pop"
abbrev gK:D Q:="join"
abbrev gL:D Q:="startswith"
abbrev SE:D Q:="append"
abbrev SF:D Q:="extend"
abbrev mP (sc:w7) (vs:D<|D Q) (op:BoolOp) (md:Md) (ka kt:Lb→Ld) (kb:D Lb→Ld):Ld:=
 et sc vs md (λe=>mB e λo es=>decide (o=op)&&j7 es La λe r=>j7 r La λH H=>ka e&&(kt e&&kb r)) (λe=>mB e λo es=>decide (o=op)&&j7 es La λe r=>j7 r La λH H=>ka e&&(kt e&&kb r))||
 Md.casesOn (motive:=λH=>Ld) md (λH=>La) (λH=>La) (λH=>La) (λH=>La) (λH=>La) (λo es=>decide (o=op)&&j7 es La λe r=>j7 r La λH H=>ka e&&(kt e&&kb r)) (λH H H=>La) (λH=>La) (λH H H H H H=>La)
abbrev NG (x:X):pF:=X.rec (motive:=λH=>pF)
  (λH H H=>La)
  (λm=>λvs sc md=>OT sc vs md λe=>QW e λc=>mJ m c)
  (λm=>λvs sc md=>OT sc vs md λe=>zP e λx=>mI sc x m)
  (λi=>λvs sc md=>OT sc vs md λe=>zP e λx=>vB vs i x)
  (λi=>λvs sc md=>OT sc vs md λe=>zP e λx=>vB vs i x)
  (λo a b i_a i_b=>λvs sc md=>et sc vs md (λe=>o8 e λl p r=>iU o p&&(i_a vs sc (.E l)&&i_b vs sc (.E r))) λH=>La)
  (λo a b i_a i_b=>λvs sc md=>et sc vs md (λe=>Ks e λl p r=>mK o p&&(!C8 p r&&(i_a vs sc (.E l)&&i_b vs sc (.E r)))) λe=>Ks e λl p r=>mK o p&&(!C8 p r&&(i_a vs sc (.E l)&&i_b vs sc (.E r))))
  (λa i_a=>λvs sc md=>et sc vs md (λH=>La) λe=>zs3 e λl=>i_a vs sc<|.E l)
  (λa i_a=>λvs sc md=>et sc vs md (λe=>iS e λo l=>decide (o=.USub)&&i_a vs sc (.E l)) λH=>La)
  (λa i_a=>λvs sc md=>et sc vs md (λe=>iS e λo l=>decide (o=.Not)&&i_a vs sc (.E l)) λe=>iS e λo l=>decide (o=.Not)&&i_a vs sc (.T l))
  (λa b i_a i_b=>λvs sc md=>mP sc vs .And md (λe=>i_a vs sc<|.E e) (λe=>i_a vs sc<|.T e) λes=>i_b vs sc (.Bo .And es))
  (λa b i_a i_b=>λvs sc md=>mP sc vs .Or md (λe=>i_a vs sc<|.E e) (λe=>i_a vs sc<|.T e) λes=>i_b vs sc (.Bo .Or es))
  (λt a b i_t i_a i_b=>λvs sc md=>et sc vs md (λe=>o9 e λc l r=>i_t vs sc (.T c)&&(i_a vs sc (.E l)&&i_b vs sc (.E r))) λH=>La)
  (λes i_es=>λvs sc md=>et sc vs md (λe=>gF e λl=>i_es vs sc<|.L l) λH=>La)
  (λes i_es=>λvs sc md=>et sc vs md (λe=>o_ e λl=>i_es vs sc<|.L l) λH=>La)
  (λa i i_a i_i=>λvs sc md=>et sc vs md (λe=>Yb e λv s=>i_a vs sc (.E v)&&i_i vs sc (.E s)) λH=>La)
  (λa lo hi i_a i_lo i_hi=>λvs sc md=>et sc vs md (λe=>Yb e λv s=>pc s λl u=>i_a vs sc (.E v)&&(iV lo (λe=>i_lo vs sc<|.E e) l&&iV hi (λe=>i_hi vs sc<|.E e) u)) λH=>La)
  (λk j i=>λvs sc md=>et sc vs md (λe=>Di k (Yb e λv s=>zP v λx=>QW s λc=>Kt c λkey=>vB vs j x&&fB 0 i key) λk=>iR e λv a q=>zP v λx=>vB vs j x&&fB (k+1) i a) λH=>La)
  (λf es i_es=>λvs sc md=>OT sc vs md λe=>QZ e λx as=>(pg.fn f).isSome&&(gB sc x (aI f)&&i_es vs sc (.A as)))
  (λj m es i_es=>λvs sc md=>OT sc vs md λe=>xa e λo name as=>zP o λx=>vB vs j x&&(sB name (ai m)&&i_es vs sc (.A as)))
  (λa m es i_a i_es=>λvs sc md=>OT sc vs md λe=>xa e λo name as=>(Oc es&&(as.isEmpty&&(sB name (ai m)&&i_a vs sc (.E o)))))
  (λc es i_es=>λvs sc md=>OT sc vs md λe=>QZ e λx as=>Di c La λc=>gB sc x (aJ c)&&i_es vs sc (.A as))
  (λo a i_a=>λvs sc md=>OT sc vs md λe=>QZ e λx as=>gB sc x (Ot<|pz o)&&CX (Bh (pz o) 3) (RW as λe=>i_a vs sc<|.E e) (TH as λe y=>zP y (λy=>gB sc y<|Ot 2)&&i_a vs sc (.E e)))
  (λa b i_a i_b=>λvs sc md=>OT sc vs md λe=>QZ e λx as=>gB sc x (Ot 5)&&TH as λl r=>i_a vs sc (.E l)&&i_b vs sc (.E r))
  (λa b i_a i_b=>λvs sc md=>OT sc vs md λe=>xa e λo name as=>(sB name gK&&(i_a vs sc (.E o)&&RW as λe=>i_b vs sc<|.E e)))
  (λa b i_a i_b=>λvs sc md=>OT sc vs md λe=>xa e λo name as=>(sB name gL&&(i_a vs sc (.E o)&&RW as λe=>i_b vs sc<|.E e)))
  (λa b c i_a i_b i_c=>λvs sc md=>OT sc vs md λe=>xa e λo name as=>(sB name gL&&(i_a vs sc (.E o)&&TH as λe f=>i_b vs sc (.E e)&&i_c vs sc (.E f))))
  (λj=>λvs sc md=>OT sc vs md λe=>xa e λo name as=>(as.isEmpty&&zP o λx=>vB vs j x&&sB name mO))
  (λM' k d i_k i_d=>λvs sc md=>OT sc vs md λe=>xa e λo name as=>(sB name gJ&&(zP o (λx=>gB sc x<|SB M')&&TH as λl r=>i_k vs sc (.E l)&&i_d vs sc (.E r))))
  (λM' k i_k=>λvs sc md=>et sc vs md (λe=>Yb e λv s=>zP v λx=>gB sc x (SB M')&&i_k vs sc (.E s)) λH=>La)
  (λM' k i_k=>λvs sc md=>et sc vs md (λe=>Ks e λl o r=>decide (o=.In)&&(zP r (λx=>gB sc x<|SB M')&&i_k vs sc (.E l))) λe=>Ks e λl o r=>decide (o=.In)&&(zP r (λx=>gB sc x<|SB M')&&i_k vs sc (.E l)))
  (λks vs' k d i_vs i_k i_d=>λvs sc md=>OT sc vs md λe=>xa e λo name as=>pf o λkeys values=>sB name gJ&&(decide (ks.Nodup∧keys.all (·.isSome)=f'∧keys.length=values.length∧keys.isEmpty=La∧keys.length≤15)&&(i_vs vs sc (.P ks keys values)&&TH as λl r=>i_k vs sc (.E l)&&i_d vs sc (.E r))))
  (λnp it body i_it i_body=>λvs sc md=>Md.casesOn (motive:=λH=>Ld) md (mN np (λi=>i_it vs sc<|.E i) λvs2 sc2 e=>i_body vs2 sc2 (.E e)) (λH=>La) (λH=>La) (λH=>La) (λH=>La) (λH es=>La) (λH H H=>La) (λH=>La) λH i x q e p=>aL sc f' e (R<|.Name x q) p.line&&(vB vs i x&&mN np (λi=>i_it vs sc<|.E i) (λvs2 sc2 e=>i_body vs2 sc2<|.E e) e))
  (λa i_a=>λvs sc md=>Md.casesOn (motive:=λH=>Ld) md (λH=>La) (λH=>La) (λH=>La) (λH=>La) (λH=>La) (λH es=>La) (λH H H=>La) (λH=>La) λH i x q e p=>aL sc f' e (R<|.Name x q) p.line&&(vB vs i x&&flK (λi=>i_a vs sc<|.E i) e))
  (λvs sc md=>Md.casesOn (motive:=λH=>Ld) md (λH=>La) (λH=>La) (λes=>es.isEmpty) (λes=>es.isEmpty) (λes=>es.isEmpty) (λH H=>La) (λks keys es=>ks.isEmpty&&(keys.isEmpty&&es.isEmpty)) (λH=>La) λH H H H H H=>La)
  (λa b i_a i_b=>λvs sc md=>Md.casesOn (motive:=λH=>Ld) md (λH=>La) (λH=>La) (λes=>j7 es La λe es=>pC a vs e&&(i_a vs sc (.E e)&&i_b vs sc (.A es))) (λes=>j7 es La λe es=>i_a vs sc (.E e)&&i_b vs sc (.L es)) (λes=>j7 es La λe es=>i_a vs sc (.E e)&&i_b vs sc (.Vs es)) (λH H=>La) (λks keys es=>j7 ks La λk ks=>j7 keys La λc keys=>j7 es La λe es=>J1 c La λc=>QW c (λc=>Kt c λx=>sB x k)&&(i_a vs sc (.E e)&&i_b vs sc (.P ks keys es))) (λH=>La) λH H H H H H=>La) x
abbrev QE (e:Lb):Prop:=(∀es,qw e es)∧vg e∧∀Lo x,J4 e Lo x=pure x
abbrev PK (B:Gu) (n:Q) (sc:w7) (Ln:D Lf) (x:X) (e:Lb):Prop:=Fj B n sc Ln x e∧HT B n sc Ln x e∧QE e
abbrev Yc (B:Gu) (n:Q) (sc:w7) (Ln:D Lf) (x:X) (md:Md):Prop:=
 Md.casesOn (motive:=λH=>Prop) md (PK B n sc Ln x) (Go B n sc Ln x) (Ok B n sc Ln x) (No B n sc Ln x) (QK B n sc Ln x) (λo es=>Gx B n sc Ln o x es) (λks keys es=>ZP B n sc Ln ks x keys es) (VO B n sc Ln x) (λnp i y q e p=>qo B n np sc Ln (.asg i x)<|.Assign [.Name y q] e p)
def Jc {e:Lb} (h:iQ e=f'):QE e:=by
 cases e<;>first|exact⟨λes Lo=>C,λo i=>C,λLo x=>C⟩|exact nB h
abbrev QT (e:Lb):Prop:=∀Lo whole,DF e Lo whole=(do let v ←whole;Cg e.pos;Dp [v] (truthy v))
def zs4 {e:Lb} (h:gT e=f'):QT e:=by
 cases e<;>first|exact λLo w=>C|exact nB h
def za3 {as:D Lb} {Lo:Env} {p:Pos} (h:as.all iQ=f'):(BH p<|W9 as Lo).all (λq=>!q.1)=f':=by
 induction as with
 |nil=>rfl
 |cons e as ih=>
  rw[DO]at h
  refine Gp h λY T'=>?_
  refine rq ((Jc Y).1 as Lo) ?_
  exact ih T'
abbrev QA (o:Lb):Prop:=∀name Lo w,attributeBase o name Lo w=w
def zjh {o:Lb} (h:o6 o=f'):QA o:=by
 cases o with
 |Call f es kw p=>cases es with
  |nil=>exact nB h
  |cons _ _=>cases f<;>exact λname Lo w=>C
 |_=>first|exact λname Lo w=>C|exact nB h
def za4 {o:Lb} {name:Lf} {r q:Pos} {as:D Lb} (h:pA o r q as=f'):qs o name r as q:=λLo=>PR h λY T' h3 h4=>by
 refine⟨(do return (←importBound o Lo).getD f'),?_⟩
 refine(?_:(attributeBase o name Lo (V8 o Lo)>>=λov=>Cg r.atName>>=λH=>methodCall o name r q Lo ov (as.length+0) (BH q<|W9 as Lo) [])=_)
 have hf:methodCallForm (as.length+0) (BH q<|W9 as Lo) []=f':=by
  show((BH q<|W9 as Lo).all (λq=>!q.1)&&f'&&decide (as.length+0+0<30))=f'
  (refine rq (za3 h3) ?_;refine rq (Ll (p:=as.length+0+0<30)<|C2<|Z5 h4) ?_)
  rfl
 have hp:methodCallPos f' o Lo r q=pure q:=by
  show(if(!f'||r.endLine==q.line)=f' then pure q else _)=_
  (refine rq (Q5 T') ?_;rw[beq_self_eq_true])
  rfl
 rw[zjh Y name Lo]
 unfold methodCall
 (refine rq hf ?_;refine rq hp ?_)
 rfl
def wD {P:Lb→Prop} {e:Lb} {k} (h:xa e k=f') (f:∀o name r as p,qs o name r as p→k o name as=f'→P (.Call (.Attribute o name r) as [] p)):P e:=o7 h λg as p h=>my (P:=λg=>P<|.Call g as [] p) h λo name r h=>Gp h λh0 h=>f o name r as p (za4 h0) h
def mQ {o:Ph} {p:Y2} (h:iU o p=f'):MK o p:=by
 have h:=Lm h
 subst h
 clear h;induction o<;>constructor
def pG {o:Oh} {p:Dw} (h:mK o p=f'):Iy o p:=by
 have h:=Lm h
 subst h
 clear h;induction o<;>constructor
end
mutual section
variable {B:Gu} {n:Q} {sc:w7} {Ln:D Lf} {vs:D<|D Q} {x:X}
def pk {e:Lb} (hp:Hw x=La) (t:iQ e=f') (h:Fj B n sc Ln x e):PK B n sc Ln x e:=⟨h,Xo hp h,Jc t⟩
abbrev QV (x:X):Prop:=∀ev J,Qv x ev J=ev J
def zek (h:OS x=La):QV x:=by
 induction x with
 |var=>exact nB h.symm
 |_=>exact λev J=>C
def pH {md:Md} {kE kT:Lb→Ld} (h:et sc vs md kE kT=f') (fE:∀e,kE e=f'→PK B n sc (vs.map E5) x e) (fT:∀e,kT e=f'→Go B n sc (vs.map E5) x e) (fV:∀e,kE e=f'→VO B n sc (vs.map E5) x e):Yc B n sc (vs.map E5) x md:=by
 induction md with
 |E e=>exact fE e h
 |T e=>exact fT e h
 |V e=>exact fV e h
 |As np i y q e p=>exact Ml h λY T' h3=>jk h3 λa b=>XX (Ja Y) a (fE e T').1
 |Bo o es=>
  refine vo (P:=λes=>Gx B n sc (vs.map E5) o x es) (k:=λe=>kE e&&kT e) h λe h=>Gp h λY T'=>?_
  induction o with
  |And=>exact Kd (fE e Y).1<|fT e T'
  |Or=>exact VA (fE e Y).1<|fT e T'
 |_=>exact nB h
def xb {md:Md} {kE kT:Lb→Ld} (hv:OS x=La) (h:et sc vs md kE kT=f') (fE:∀e,kE e=f'→PK B n sc (vs.map E5) x e) (fT:∀e,kT e=f'→Go B n sc (vs.map E5) x e):Yc B n sc (vs.map E5) x md:=pH h fE fT λe h=>zab (zek hv) (fE e h).1
def jH {md:Md} {kE:Lb→Ld} (hv:OS x=La) (h:OT sc vs md kE=f') (fE:∀e,kE e=f'→PK B n sc (vs.map E5) x e):Yc B n sc (vs.map E5) x md:=xb hv h fE λe h=>Gp h λg h=>yM (fE e h).1<|zs4 g
def vq {md:Md} {kE:Lb→Ld} (hv:OS x=La) (h:et sc vs md kE (λH=>La)=f') (fE:∀e,kE e=f'→PK B n sc (vs.map E5) x e):Yc B n sc (vs.map E5) x md:=xb hv h fE λe h=>nB h
def PU {α:Type} {l:D α} (h:l.isEmpty=f') {P:D α→Prop} (p:P []):P l:=C9.mp h▸p
def Nc {α:Type} [DecidableEq α] {a b:α} (h:decide (a=b)=f') {P:α→Prop} (p:P b):P a:=Lm h▸p
def zji {m:MV} {c:Ew} {k:Q} {p:Pos} (h:mJ m c=f'):Fj B n sc Ln (.lit m)<|.Constant c k p:=by
 cases m with
 |Z=>cases c with
  |Z=>exact ZL
  |_=>exact nB h
 |bool b=>cases c with
  |bool x=>refine rq (Lm h) ?_;exact ZM
  |_=>exact nB h
 |int i=>cases c with
  |int x=>refine rq (Lm h) ?_;exact Qy
  |_=>exact nB h
 |str l=>exact yZ (P:=λc=>Fj B n sc Ln (.lit<|.str l)<|.Constant c k p) h λx h=>yg<|ju h
 |_=>exact nB h
def iW {k i:Q} {a:Lf} (h:fB k i a=f') {G:Prop} (q:∀l,(FS k)[i]?=R l→a=E5 l→G):G:=by
 unfold fB at h
 induction e:Na (FS k) i with
 |Z=>rw[e]at h;exact nB h
 |R l=>rw[e]at h;exact q l (yx e)<|ju h
def pI {k:Lb→Ld} {o:Lc Lb} (h:iV x k o=f') (f:∀e,k e=f'→Fj B n sc Ln x e):NN B n sc Ln x o:=by
 cases o with
 |R e=>exact Kg<|f e h
 |Z=>clear f;cases x with
  |lit m=>cases m with
   |Z=>exact Pm
   |_=>exact nB h
  |_=>exact nB h
def Ku {es:D Lb} {is:D Q} (h:Jb vs es is=f'):NF (vs.map E5) es is:=by
 induction es generalizing is with
 |nil=>induction is with
  |nil=>exact .nil
  |cons _ _=>exact nB h
 |cons e es ih=>induction is with
  |nil=>exact nB h
  |cons i is=>exact Gp h λY T'=>zL (P:=λe=>NF (vs.map E5) (e::es)<|i::is) Y λx p h=>jk h λhv hd=>.cons hv<|ih T'
def zjj {np:Q} {e:Lb} (h:pB np vs e=f'):TE (vs.map E5) np e:=by
 induction np with
 |zero=>exact zL h λx p h=>jk h λhv hd=>.name hv
 |succ n=>exact QX (k:=λes=>Jb vs es<|j5<|n+1) h λes q p h=>.tup<|Ku h
def zqu {a:X} {e:Lb} (h:pC a vs e=f'):∀i,a=.var i→∃x p,e=.Name x p∧(vs.map E5)[i]?=R x∧(x==(s!"__debug__":Lf))=La:=λi q=>by
 subst q
 exact zL (P:=λe=>∃x p,e=.Name x p∧(vs.map E5)[i]?=R x∧(x==(s!"__debug__":Lf))=La) h λx p h=>jk h λhv hd=>⟨x,p,C,hv,hd⟩
abbrev mR (sc:w7) (vs:D Lf):Prop:=(∀x∈sc.names,x.2≠.free)∧sc.kind=.function∧(∀x∈sc.names,x.2=.local→sc.names.lookup x.1=R .local)∧(∀x∈sc.names,x.2≠.cell)∧(∀x∈vs,sc.names.lookup x=R .local)∧vs.Nodup
def Wj {p:Prop} [Decidable p] (h:(!decide p)=f'):¬p:=λq=>by rw[Ll q]at h;exact nB h
def Jd (h:TI sc vs=f'):mR sc<|vs.map E5:=PR h λY T' h3 h4=>by
 have a:=Q7.mp T'
 refine⟨λx hx=>Gp (a x hx) λp q=>Wj p,Lm Y,λx hx e=>Ml (a x hx) λp q r=>?_,λx hx=>Ml (a x hx) λp q r=>Wj q,λx hx=>?_,D.pairwise_map.mpr<|(Lm h4:vs.Nodup).imp λne e=>ne (kn e)⟩
 ·rcases BJ.mp r with r|r
  ·exact Lg e<|Wj r
  ·exact mH r
 ·clear h Y T' h4 a;obtain⟨l,hl,C⟩:=J9.mp hx
  exact mH<|Q7.mp h3 l hl
def pJ {P:Lb→Prop} {np:Q} {it:Lb→Ld} {bd:D (D Q)→w7→Lb→Ld} {e:Lb} (h:mN np it bd e=f') (f:∀elt t i sc2 pos vs2,mR sc2 (vs2.map E5)→TE (vs2.map E5) np t→it i=f'→bd vs2 sc2 elt=f'→P (.ListComp elt [⟨t,i,[],0⟩] sc2 pos)):P e:=
 ph h λelt g sc2 pos h=>zje (P:=λg=>P<|.ListComp elt g sc2 pos) h λt i h=>PR h λY T' h4 h5=>f elt t i sc2 pos _ (Jd Y) (zjj T') h4 h5
end
mutual namespace A
abbrev iX (B:Gu):Prop:=B.P=pg∧(∀i,(aI i).isEmpty=La→CC B.G.K x_ (E5<|aI i)=R (R<|.ref<|B.fa i))∧(∀i,(aJ i).isEmpty=La→CC B.G.K x_ (E5<|aJ i)=R (R<|.ref<|B.ca<|i+1))∧
 (∀i,(SB i).isEmpty=La→∃a,CC B.G.K x_ (E5<|SB i)=R (R<|.ref a)∧HH B i a)∧(∀i,(Ot i).isEmpty=La→CC B.G.K x_ (E5<|Ot i)=R Z∧BY (E5<|Ot i)=R (mw i)∧E5 (Ot i)≠s!"__name__")∧∀p∈mx,∃v,CC B.G.K x_ (E5 p.1)=R (R v)∧FP B.G.h0 v p.2
end
mutual section
variable {B:Gu} {n:Q}
def gM {sc:w7} {x:Lf} {l:D Q} (h:gB sc x l=f') {G:Prop} (k:x=E5 l→l.isEmpty=La→(x==(s!"__debug__":Lf))=La→sc.names.lookup x=R .globalImplicit→G):G:=PR h λY T' h3 h4=>by
 have e:=ju Y
 clear h Y;subst e
 exact k C (W8 _▸T') (py h3)<|mH h4
variable (z_:iX B)
include z_
def zs5 {sc:w7} {x:Lf} {f:Q} (h:gB sc x (aI f)=f'):vh B sc x<|.ref<|B.fa f:=gM h λe n d l=>⟨l,d,e▸z_.2.1 f n⟩
def zs6 {sc:w7} {x:Lf} {f:Q} (h:gB sc x (aJ f)=f'):vh B sc x<|.ref<|B.ca<|f+1:=gM h λe n d l=>⟨l,d,e▸z_.2.2.1 f n⟩
def Kv {sc:w7} {x:Lf} {f:Q} {v:q4} (h:gB sc x (Ot f)=f') (q:mw f=v):wC B sc x v:=gM h λe n d l=>yG (z_.2.2.2.2.1 f n) λa b c=>⟨l,d,e▸a,e▸q▸b,e▸c⟩
def mS {sc:w7} {x:Lf} {M':Q} (h:gB sc x (SB M')=f') {G:Prop} (k:∀a,vh B sc x (.ref a)→HH B M' a→G):G:=gM h λe n d l=>E7 (z_.2.2.2.1 M' n) λa p q=>k a ⟨l,d,e▸p⟩ q
def pK {sc:w7} {x:Lf} {m:MV} (h:mI sc x m=f') {G:Prop} (k:sc.names.lookup x=R .globalImplicit→(x==(s!"__debug__":Lf))=La→(∃v,CC B.G.K x_ x=R (R v)∧FP B.G.h0 v m)→G):G:=by
 refine E7 (C'.mp h) λp hp h=>Gp h λY T'=>gM Y λe n d l=>?_
 rw[←RT T']at k
 exact k l d<|e▸z_.2.2.2.2.2 p hp
variable (z9:zN B)
include z9
def flD {sc2:w7} {t i2 t2 elt d:Lb} (h:((zP t (λx=>vB (OU t t2) 0 x&&zP i2 λy=>sB y x.cps.toList)&&(zP t2 (λx=>vB (OU t t2) 1 x&&zP elt λy=>sB y x.cps.toList)&&QZ d λy as=>gB sc2 y (Ot 3)&&TH as λa z=>zP z (λz=>gB sc2 z<|Ot 2)&&zP a λq=>vB (OU t t2) 1 q)))=f') (s:mR sc2<|(OU t t2).map E5) {P:Lb→Lb→Prop}
  (k:∀x1 p1 x2 p2,QN B n sc2 ((OU t t2).map E5) x1 x2 elt i2 d→P (.Name x1 p1) (.Name x2 p2)):P t t2:=by
 refine Ml h λY T' h3=>?_
 have M':∀x1 x2,vB (OU t t2) 0 x1=f'→zP i2 (λy=>sB y x1.cps.toList)=f'→vB (OU t t2) 1 x2=f'→zP elt (λy=>sB y x2.cps.toList)=f'→QN B n sc2 ((OU t t2).map E5) x1 x2 elt i2 d:=λx1 x2 a1 a2 b1 b2=>
  jk a1 λv1 d1=>jk b1 λv2 d2=>⟨s.2.2.2.2.2,v1,v2,Zk (P:=Go B n sc2 ((OU t t2).map E5)<|.b1 .isTup<|.var 1) h3 λy yp as p h=>Gp h λg1 h=>Zj (P:=λas=>Go B n sc2 ((OU t t2).map E5) (.b1 .isTup<|.var 1)<|.Call (.Name y yp) as [] p) h λa z h=>Gp h λg2 h=>zL (P:=λa=>Go B n sc2 ((OU t t2).map E5) (.b1 .isTup<|.var 1)<|.Call (.Name y yp) [a,z] [] p) h λq qp h=>zL (P:=λz=>Go B n sc2 ((OU t t2).map E5) (.b1 .isTup<|.var 1)<|.Call (.Name y yp) [.Name q qp,z] [] p) g2 λz zp g2=>jk h λv d=>yM (Za z9 (Kv z_ g1 C) (Kv z_ g2 C) (λLo=>C)<|Qx v d) λLo w=>C,
   zL (P:=λe=>∃p,e=.Name x2 p) b2 λy p h=>⟨p,by exact rq (ju h) C⟩,zL (P:=λe=>∃p,e=.Name x1 p) a2 λy p h=>⟨p,by exact rq (ju h) C⟩,d1,d2,zL (P:=λe=>∀Lo x,J4 e Lo x=pure x) a2 λy p h Lo x=>C⟩
 generalize OU t t2=vs at*
 exact zL (P:=λt=>P t t2) Y λx1 p1 Y=>zL (P:=λt2=>P (.Name x1 p1) t2) T' λx2 p2 T'=>Gp Y λa1 a2=>Gp T' λb1 b2=>k x1 p1 x2 p2<|M' x1 x2 a1 a2 b1 b2
variable (z7:kQ B ai) (G':yq B n)
include z7 G'
def pL {op:BoolOp} {a b x:X} {sc:w7} {vs:D<|D Q} {md:Md} {ka kt:Lb→Ld} {kb:D Lb→Ld} (h:mP sc vs op md ka kt kb=f') (Ha:∀e,ka e=f'→Fj B n sc (vs.map E5) a e) (Ht:∀e,kt e=f'→Go B n sc (vs.map E5) a e)
  (Hb:∀es,kb es=f'→Gx B n sc (vs.map E5) op b es) (hp:Hw x=La) (hv:OS x=La) (hx:∀e e2 es,Fj B n sc (vs.map E5) a e→Go B n sc (vs.map E5) a e→Gx B n sc (vs.map E5) op b (e2::es)→Gx B n sc (vs.map E5) op x (e::e2::es))
  (hE:∀es p,Gx B n sc (vs.map E5) op x es→Fj B n sc (vs.map E5) x (.BoolOp op es p)) (hT:∀es p,Gx B n sc (vs.map E5) op x es→Go B n sc (vs.map E5) x (.BoolOp op es p)):Yc B n sc (vs.map E5) x md:=by
 have key:∀es,(j7 (motive:=λH=>Ld) es La λe r=>j7 (motive:=λH=>Ld) r La λH H=>ka e&&(kt e&&kb r))=f'→Gx B n sc (vs.map E5) op x es:=λes h=>by
  induction es with
  |nil=>exact nB h
  |cons e r=>clear tail_ih;induction r with
   |nil=>exact nB h
   |cons e2 es=>exact Ml h λY T' h3=>hx e e2 es (Ha e Y) (Ht e T')<|Hb _ h3
 rcases BJ.mp h with h|h
 ·refine xb hv h (λe h=>pd h λo es p h=>Gp h λY T'=>Nc Y (P:=λo=>PK B n sc (vs.map E5) x<|.BoolOp o es p)<|pk hp C<|hE es p<|key es T') λe h=>pd h λo es p h=>Gp h λY T'=>Nc Y (P:=λo=>Go B n sc (vs.map E5) x<|.BoolOp o es p)<|hT es p<|key es T'
 ·induction md with
  |Bo o es=>
   exact Gp h λY T'=>Nc Y (P:=λo=>Gx B n sc (vs.map E5) o x es)<|key es T'
  |_=>exact nB h
def zjm (x:X):∀(vs:D<|D Q) (sc:w7) (md:Md),NG x vs sc md=f'→Yc B n sc (vs.map E5) x md:=by
 induction x with
 |bad=>exact λvs sc md h=>nB h
 |lit m=>exact λvs sc md h=>jH C h λe h=>Zi h λc q p h=>pk C C<|zji h
 |glb m=>exact λvs sc md h=>jH C h λe h=>zL h λx p h=>pK z_ h λl d g=>pk C C<|zdq z9 l d g
 |var i=>exact λvs sc md h=>pH h (λe h=>zL h λx p h=>jk h λa b=>⟨KV a b,Qx a b,Jc C⟩) (λe h=>Gp h λg h=>zL h λx p h=>jk h λa b=>yM (KV a b) λLo w=>C) λe h=>zL h λx p h=>jk h λa b=>zac a b
 |mv i=>exact λvs sc md h=>jH C h λe h=>zL h λx p h=>jk h λa b=>pk C C<|zik a b
 |bin o a b ia ib=>exact λvs sc md h=>vq C h λe h=>zp9 h λl q r p h=>Ml h λY T' h3=>pk C C<|zdr (mQ Y) (ia _ _ _ T').1 (ib _ _ _ h3).1
 |cmp o a b ia ib=>exact λvs sc md h=>xb C h (λe h=>Wh h λl q r p h=>PR h λY T' h3 h4=>pk C C<|zds (pG Y) (W8 _▸T') (ia _ _ _ h3).2.1 (ib _ _ _ h4).1 λH=>(ib _ _ _ h4).2.1) λe h=>Wh h λl q r p h=>PR h λY T' h3 h4=>Xr (pG Y) (W8 _▸T') (ia _ _ _ h3).2.1 (ib _ _ _ h4).1 λH=>(ib _ _ _ h4).2.1
 |isN a ia=>
  exact λvs sc md h=>xb C h (λe h=>nB h) λe h=>Wh h λl o r p h=>Ml h λY T' h3=>Nc Y (P:=λo=>Go B n sc (vs.map E5) (.isN a)<|.Compare l [o] [r] p) (Zi (P:=λr=>Go B n sc (vs.map E5) (.isN a)<|.Compare l [.Is] [r] p) T' λc q p' h=>by
   induction c with
   |Z=>exact Xt (ia _ _ _ h3).1
   |_=>exact nB h)
 |neg a ia=>
  exact λvs sc md h=>vq C h λe h=>mA h λo l p h=>Gp h λY T'=>Nc Y (P:=λo=>PK B n sc (vs.map E5) (.neg a)<|.UnaryOp o l p)<|pk C C<|zdt (ia _ _ _ T').1
 |not a ia=>
  exact λvs sc md h=>xb C h (λe h=>mA h λo l p h=>Gp h λY T'=>Nc Y (P:=λo=>PK B n sc (vs.map E5) (.not a)<|.UnaryOp o l p)<|pk C C<|zef (ia _ _ _ T').1) λe h=>mA h λo l p h=>Gp h λY T'=>Nc Y (P:=λo=>Go B n sc (vs.map E5) (.not a)<|.UnaryOp o l p)<|Xu<|ia _ _ _ T'
 |and a b ia ib=>exact λvs sc md h=>pL z_ z9 z7 G' h (λe h=>(ia _ _ _ h).1) (λe h=>ia _ _ _ h) (λes h=>ib _ _ _ h) C C (λe e2 es=>QC) (λes p=>zdw) λes p=>Xy
 |or a b ia ib=>exact λvs sc md h=>pL z_ z9 z7 G' h (λe h=>(ia _ _ _ h).1) (λe h=>ia _ _ _ h) (λes h=>ib _ _ _ h) C C (λe e2 es=>Ke) (λes p=>zio) λes p=>zdx
 |ite t a b it ia ib=>exact λvs sc md h=>vq C h λe h=>zqb h λc l r p h=>Ml h λY T' h3=>pk C C<|zdu (it _ _ _ Y) (ia _ _ _ T').1 (ib _ _ _ h3).1
 |tupD es ie=>exact λvs sc md h=>vq C h λe h=>QX h λl q p h=>pk C C<|yP<|ie _ _ _ h
 |lstD es ie=>exact λvs sc md h=>vq C h λe h=>zqd h λl p h=>pk C C<|Xz<|ie _ _ _ h
 |idx a i ia ii=>exact λvs sc md h=>vq C h λe h=>QY h λv s p h=>Gp h λY T'=>pk C C<|zdy (ii _ _ _ T').2.2.2.1 (λH=>(ia _ _ _ Y).2.1) (λH=>(ia _ _ _ Y).1) (ii _ _ _ T').1
 |slc a lo hi ia il ih=>exact λvs sc md h=>vq C h λe h=>QY h λv s p h=>zqf (P:=λs=>PK B n sc (vs.map E5) (.slc a lo hi)<|.Subscript v s p) h λl u q h=>Ml h λY T' h3=>pk C C<|zdz (ia _ _ _ Y).1 (pI T' λe h=>(il _ _ _ h).1)<|pI h3 λe h=>(ih _ _ _ h).1
 |fld k j i=>
  exact λvs sc md h=>vq C h λe h=>by
   induction k with
   |zero=>exact QY h λv s p h=>zL (P:=λv=>PK B n sc (vs.map E5) (.fld 0 j i)<|.Subscript v s p) h λx xp h=>Zi (P:=λs=>PK B n sc (vs.map E5) (.fld 0 j i)<|.Subscript (.Name x xp) s p) h λc kk kp h=>yZ (P:=λc=>PK B n sc (vs.map E5) (.fld 0 j i)<|.Subscript (.Name x xp) (.Constant c kk kp) p) h λkey h=>Gp h λY T'=>jk Y λa b=>iW T' λl q e=>⟨XF a b q e,VC a b q e,Jc C⟩
   |succ k=>exact my h λv a p h=>zL (P:=λv=>PK B n sc (vs.map E5) (.fld (k+1) j i)<|.Attribute v a p) h λx xp h=>Gp h λY T'=>jk Y λa b=>iW T' λl q e=>⟨XD z9 a b (Ce k) q e,VB z9 a b (Ce k) q e,Jc C⟩
 |call f es ie=>exact λvs sc md h=>jH C h λe h=>Zk h λx xp as p h=>Ml h λY T' h3=>Fg (V3.mp Y) λF hF=>pk C C<|XM z9 z7 G' (z_.1▸hF) (zs5 z_ T')<|ie _ _ _ h3
 |meth j m es ie=>exact λvs sc md h=>jH C h λe h=>wD h λo name r as p h0 h=>zL (P:=λo=>qs o name r as p→PK B n sc (vs.map E5) (.meth j m es) (.Call (.Attribute o name r) as [] p)) h (λx xp h h0=>Ml h λY T' h3=>jk Y λa b=>pk C C<|XN z9 z7 G' h0 a b (ju T')<|ie _ _ _ h3) h0
 |methT a m es ia ie=>
  exact λvs sc md h=>jH C h λe h=>wD h λo name r as p h3 h=>PR h λY T' h4 h5=>PU T' (P:=λas=>qs o name r as p→PK B n sc (vs.map E5) (.methT a m es) (.Call (.Attribute o name r) as [] p)) (λh3=>(Wc Y).symm▸pk C C (VH z9 z7 G' h3 (ju h4) (ia _ _ _ h5).1)) h3
 |new c es ie=>
  exact λvs sc md h=>jH C h λe h=>Zk h λx xp as p h=>by
   induction c with
   |zero=>exact nB h
   |succ c=>exact Gp h λY T'=>pk C C<|zea z9 z7 G' (zs6 z_ Y)<|ie _ _ _ T'
 |b1 o a ia=>
  exact λvs sc md h=>jH C h λe h=>Zk h λx xp as p h=>Gp h λY T'=>by
   have g1:=(λv=>Kv z_ (v:=v) Y)
   have one:(ho:o≠.isTup)→wC B sc x (PN o)→(RW as λe=>NG a vs sc<|.E e)=f'→PK B n sc (vs.map E5) (.b1 o a) (.Call (.Name x xp) as [] p):=λho g h=>vo (P:=λas=>PK B n sc (vs.map E5) (.b1 o a)<|.Call (.Name x xp) as [] p) h λe h=>pk C C<|zir z9 ho g ((ia _ _ _ h).2.2.1 _) (ia _ _ _ h).2.1
   induction o with
   |isTup=>exact Zj (P:=λas=>PK B n sc (vs.map E5) (.b1 .isTup a)<|.Call (.Name x xp) as [] p) (k:=λe y=>zP y (λy=>gB sc y<|Ot 2)&&NG a vs sc (.E e)) T' λe y h=>Gp h λh3 h4=>zL (P:=λy=>PK B n sc (vs.map E5) (.b1 .isTup a)<|.Call (.Name x xp) [e,y] [] p) h3 λy yp h3=>pk C C<|Za z9 (g1 _ C) (Kv z_ h3 C) ((ia _ _ _ h4).2.2.1 _) (ia _ _ _ h4).2.1
   |_=>exact one (λe=>by contradiction) (g1 _ C) T'
 |min2 a b ia ib=>exact λvs sc md h=>jH C h λe h=>Zk h λx xp as p h=>Gp h λY h=>Zj (P:=λas=>PK B n sc (vs.map E5) (.min2 a b)<|.Call (.Name x xp) as [] p) h λl r h=>Gp h λT' h3=>pk C C<|XG z9 (Kv z_ Y C) ((ia _ _ _ T').2.2.1 _) ((ib _ _ _ h3).2.2.1 _) (ia _ _ _ T').1 (ib _ _ _ h3).1
 |join a b ia ib=>exact λvs sc md h=>jH C h λe h=>wD h λo name r as p Y h=>Ml h λT' h3 h=>vo (P:=λas=>qs o name r as p→PK B n sc (vs.map E5) (.join a b) (.Call (.Attribute o name r) as [] p)) h (λe h Y=>pk C C<|XH Y ((ib _ _ _ h).2.2.1 _) (ju T') (ia _ _ _ h3).1 (ib _ _ _ h).2.1) Y
 |stw a b ia ib=>exact λvs sc md h=>jH C h λe h=>wD h λo name r as p Y h=>Ml h λT' h3 h=>vo (P:=λas=>qs o name r as p→PK B n sc (vs.map E5) (.stw a b) (.Call (.Attribute o name r) as [] p)) h (λe h Y=>pk C C<|zd3 Y ((ib _ _ _ h).2.2.1 _) (ju T') (ia _ _ _ h3).1 (ib _ _ _ h).1) Y
 |stw3 a b c ia ib ic=>exact λvs sc md h=>jH C h λe h=>wD h λo name r as p Y h=>Ml h λT' h3 h=>Zj (P:=λas=>qs o name r as p→PK B n sc (vs.map E5) (.stw3 a b c) (.Call (.Attribute o name r) as [] p)) h (λe f h Y=>Gp h λh4 h5=>pk C C<|XI Y ((ib _ _ _ h4).2.2.1 _) ((ic _ _ _ h5).2.2.1 _) (ju T') (ia _ _ _ h3).1 (ib _ _ _ h4).1 (ic _ _ _ h5).1) Y
 |pop j=>
  exact λvs sc md h=>jH C h λe h=>wD h λo name r as p T' h=>Gp h λY h9=>PU Y (P:=λas=>qs o name r as p→PK B n sc (vs.map E5) (.pop j) (.Call (.Attribute o name r) as [] p)) (λT'=>zL (P:=λo=>qs o name r [] p→PK B n sc (vs.map E5) (.pop j) (.Call (.Attribute o name r) [] [] p)) h9 (λx xp h T'=>Gp h λh3 h4=>jk h3 λa b=>pk C C<|zd4 T' a b<|ju h4) T') T'
 |dget M' k d ik id=>exact λvs sc md h=>jH C h λe h=>wD h λo name r as p Y h=>Ml h λT' h3 h=>zL (P:=λo=>qs o name r as p→PK B n sc (vs.map E5) (.dget M' k d) (.Call (.Attribute o name r) as [] p)) h3 (λx xp h3 Y=>Zj (P:=λas=>qs (.Name x xp) name r as p→PK B n sc (vs.map E5) (.dget M' k d) (.Call (.Attribute (.Name x xp) name r) as [] p)) h (λl q h Y=>Gp h λh4 h5=>mS z_ h3 λa g d=>pk C C<|XL z9 Y ((ik _ _ _ h4).2.2.1 _) ((id _ _ _ h5).2.2.1 _) (ju T') g d (ik _ _ _ h4).1 (id _ _ _ h5).1) Y) Y
 |didx M' k ik=>exact λvs sc md h=>vq C h λe h=>QY h λv s p h=>zL (P:=λv=>PK B n sc (vs.map E5) (.didx M' k)<|.Subscript v s p) h λx xp h=>Gp h λY T'=>mS z_ Y λa g d=>pk C C<|XK z9 (ik _ _ _ T').2.2.2.1 g d (ik _ _ _ T').1
 |din M' k ik=>
  intro vs sc md h
  have key:∀e,(Ks e λl o r=>decide (o=.In)&&(zP r (λx=>gB sc x<|SB M')&&NG k vs sc (.E l)))=f'→PK B n sc (vs.map E5) (.din M' k) e∧Go B n sc (vs.map E5) (.din M' k) e:=λe h=>Wh (P:=λe=>PK B n sc (vs.map E5) (.din M' k) e∧Go B n sc (vs.map E5) (.din M' k) e) h λl o r p h=>Ml h λY T' h3=>Nc Y (P:=λo=>PK B n sc (vs.map E5) (.din M' k) (.Compare l [o] [r] p)∧Go B n sc (vs.map E5) (.din M' k) (.Compare l [o] [r] p))<|zL (P:=λr=>PK B n sc (vs.map E5) (.din M' k) (.Compare l [.In] [r] p)∧Go B n sc (vs.map E5) (.din M' k) (.Compare l [.In] [r] p)) T' λx xp T'=>mS z_ T' λa g d=>have q:=zd6 z9 g d (ik _ _ _ h3).1;⟨pk C C q.1,q.2⟩
  exact xb C h (λe h=>(key e h).1) λe h=>(key e h).2
 |dlit ks vl k d iv ik id=>exact λvs sc md h=>jH C h λe h=>wD h λo name r as p Y h=>zqh (P:=λo=>qs o name r as p→PK B n sc (vs.map E5) (.dlit ks vl k d) (.Call (.Attribute o name r) as [] p)) h (λkeys values dp h Y=>PR h λT' h3 h4 h=>Zj (P:=λas=>qs (.Dict keys values dp) name r as p→PK B n sc (vs.map E5) (.dlit ks vl k d) (.Call (.Attribute (.Dict keys values dp) name r) as [] p)) h (λl q h Y=>Gp h λh5 h6=>ZB (Lm h3) λa b c e f=>pk C C<|zaj z9 Y ((ik _ _ _ h5).2.2.1 _) ((id _ _ _ h6).2.2.1 _) (ju T') a b c (λq=>by rw[q]at e;exact nB e.symm) f (iv _ _ _ h4) (ik _ _ _ h5).1 (id _ _ _ h6).1) Y) Y
 |comp np it body ii ib=>
  intro vs sc md h
  induction md with
  |E e=>exact pJ (it:=λi=>NG it vs sc<|.E i) (bd:=λvs2 sc2 e=>NG body vs2 sc2<|.E e) h λelt t i sc2 pos vs2 s T' h4 h5=>pk C C<|XP z9 s.1 s.2.1 s.2.2.1 s.2.2.2.1 s.2.2.2.2.1 s.2.2.2.2.2 T' (ii _ _ _ h4).2.2.2.2 (ii _ _ _ h4).2.1 (ib _ _ _ h5).1
  |As np2 i y q e p=>exact Ml h λh0 hv h=>jk hv λa b=>pJ (P:=λe=>(∀Lo,Fs Lo sc (vs.map E5)→K8 e (R<|.Name y q) p.line Lo=pure f')→qo B n np2 sc (vs.map E5) (.asg i<|.comp np it body) (.Assign [.Name y q] e p)) (it:=λi=>NG it vs sc<|.E i) (bd:=λvs2 sc2 e=>NG body vs2 sc2<|.E e) h (λelt t i sc2 pos vs2 s T' h4 h5 h0=>VN z9 h0 s.1 s.2.1 s.2.2.1 s.2.2.2.1 s.2.2.2.2.1 s.2.2.2.2.2 T' (ii _ _ _ h4).2.2.2.2 a (ii _ _ _ h4).2.1 (ib _ _ _ h5).1)<|Ja h0
  |_=>exact nB h
 |flat a ia=>
  intro vs sc md h
  induction md with
  |As np2 i y q e p=>exact Ml h λh0 hv h=>jk hv λa b=>ph (P:=λe=>(∀Lo,Fs Lo sc (vs.map E5)→K8 e (R<|.Name y q) p.line Lo=pure f')→qo B n np2 sc (vs.map E5) (.asg i<|.flat _) (.Assign [.Name y q] e p)) h (λelt g sc2 pos h=>zjf (P:=λg=>(∀Lo,Fs Lo sc (vs.map E5)→K8 (.ListComp elt g sc2 pos) (R<|.Name y q) p.line Lo=pure f')→qo B n np2 sc (vs.map E5) (.asg i<|.flat _) (.Assign [.Name y q] (.ListComp elt g sc2 pos) p)) h λt ii t2 i2 d h=>Ml h λY h3 h=>flD z_ z9 (P:=λt t2=>(∀Lo,Fs Lo sc (vs.map E5)→K8 (N4 elt t ii t2 i2 d sc2 pos) (R<|.Name y q) p.line Lo=pure f')→qo B n np2 sc (vs.map E5) (.asg i<|.flat _) (.Assign [.Name y q] (N4 elt t ii t2 i2 d sc2 pos) p)) h (Jd Y) λx1 p1 x2 p2 M' h0=>let s:=Jd Y;VZ z9 h0 s.1 s.2.1 s.2.2.1 s.2.2.2.1 s.2.2.2.2.1 M' (ia _ _ _ h3).2.2.2.2 a (ia _ _ _ h3).2.1)<|Ja h0
  |_=>exact nB h
 |nil=>
  intro vs sc md h
  induction md with
  |A es=>exact PU h RU
  |L es=>exact PU h NM
  |Vs es=>exact PU h Rh
  |P ks keys es=>exact Ml h λY T' h3=>PU Y (P:=λks=>ZP B n sc (vs.map E5) ks .nil keys es)<|PU T' (P:=λkeys=>ZP B n sc (vs.map E5) [] .nil keys es)<|PU h3 RV
  |_=>exact nB h
 |cons a b ia ib=>
  intro vs sc md h
  induction md with
  |A es=>induction es with
   |nil=>exact nB h
   |cons e es=>exact Ml h λY T' h3=>VG ((ia _ _ _ T').2.2.1 _) (zqu Y) (ia _ _ _ T').1<|ib _ _ _ h3
  |L es=>induction es with
   |nil=>exact nB h
   |cons e es=>exact Gp h λT' h3=>vM ((ia _ _ _ T').2.2.1 _) (ia _ _ _ T').1<|ib _ _ _ h3
  |Vs es=>induction es with
   |nil=>exact nB h
   |cons e es=>exact Gp h λT' h3=>Kn ((ia _ _ _ T').2.2.1 _) (ia _ _ _ T').1<|ib _ _ _ h3
  |P ks keys es=>
   induction ks with
   |nil=>exact nB h
   |cons k ks=>clear tail_ih;induction keys with
    |nil=>exact nB h
    |cons c keys=>clear tail_ih;induction es with
     |nil=>exact nB h
     |cons e es=>clear tail_ih;induction c with
      |Z=>exact nB h
      |R c=>exact Ml h λY T' h3=>Zi (P:=λc=>ZP B n sc (vs.map E5) (k::ks) (.cons a b) (R c::keys)<|e::es) Y λc q p h=>yZ (P:=λc=>ZP B n sc (vs.map E5) (k::ks) (.cons a b) (R (.Constant c q p)::keys)<|e::es) h λx h=>VW (ju h) (ia _ _ _ T').1<|ib _ _ _ h3
  |_=>exact nB h
end
mutual namespace A
inductive Ri where
 |B (sts:D Q9)
 |S (st:Q9)
abbrev ss (md:Ri) (k:Q9→Ld):Ld:=Ri.casesOn (motive:=λH=>Ld) md (λH=>La) k
abbrev sb (md:Ri) (k:D Q9→Ld):Ld:=Ri.casesOn (motive:=λH=>Ld) md k λH=>La
abbrev zs7 (B:Gu) (n np:Q) (sc:w7) (Ln:D Lf) (x:S) (md:Ri):Prop:=Ri.casesOn (motive:=λH=>Prop) md (wL B n np sc Ln x)<|qo B n np sc Ln x
abbrev pM (vs:D<|D Q) (xs:D Lf):D Q→Ld:=D.rec (motive:=λH=>D Q→Ld) (λis=>is.isEmpty) (λx H ih is=>j7 is La λi is=>vB vs i x&&ih is) xs
abbrev gN (sc:w7) (vs:D<|D Q) (is:D Q) (t e:Lb):Ld:=J1 (pureOf<|Bk [t] e<|gI sc) La λow=>J1 ow f' λnames=>pM vs names.reverse is.reverse&&Bh names.length is.length
abbrev mT (sc:w7) (t e:Lb) (l:Q):Ld:=decide (pureOf (C6 [t] e l<|gI sc)=R La)&&decide (pureOf (Bk [t] e<|gI sc)=R Z)
abbrev mU (vs:D<|D Q) (k j i:Q) (e:Lb):Ld:=Di k (Yb e λv s=>zP v λx=>QW s λc=>Kt c λkey=>vB vs j x&&fB 0 i key) λk=>iR e λv a q=>zP v λx=>vB vs j x&&fB (k+1) i a
abbrev mV (x:S):Q→D (D Q)→w7→Ri→Ld:=S.rec (motive:=λH=>Q→D (D Q)→w7→Ri→Ld)
  (λnp vs sc md=>f')
  (λnp vs sc md=>sb md λl=>l.isEmpty)
  (λa b i_a i_b np vs sc md=>sb md λl=>j7 l La λst r=>i_a np vs sc (.S st)&&i_b np vs sc (.B r))
  (λi x np vs sc md=>ss md λst=>gG st λt e p=>zP t (λH=>f')&&NG x vs sc (.As np i (eS t) t.pos e p))
  (λis xs np vs sc md=>ss md λst=>gG st λt e p=>tg 9 t&&(tg 9 e&&(Jb vs (eL t) is&&(decide (is.Nodup∧is.length≤100)&&(gN sc vs is t e&&NG xs vs sc (.Vs<|eL e))))))
  (λis x np vs sc md=>ss md λst=>gG st λt e p=>tg 9 t&&(Jb vs (eL t) is&&(decide is.Nodup&&(mT sc t e p.line&&NG x vs sc (.E e)))))
  (λk j i x np vs sc md=>ss md λst=>gG st λt e p=>mU vs k j i t&&(aL sc La e (R t) p.line&&NG x vs sc (.V e)))
  (λk j i o x np vs sc md=>ss md λst=>mE st λt op e=>iU o op&&(!Bh k 0&&(mU vs k j i t&&NG x vs sc (.E e))))
  (λi o x np vs sc md=>ss md λst=>mE st λt op e=>iU o op&&(zP t (λy=>vB vs i y)&&NG x vs sc (.E e)))
  (λj x np vs sc md=>ss md λst=>iT st λc p=>xa c λo name as=>sB name SE&&(zP o (λy=>vB vs j y)&&RW as λe=>NG x vs sc<|.E e))
  (λj x np vs sc md=>ss md λst=>iT st λc p=>xa c λo name as=>sB name SF&&(zP o (λy=>vB vs j y)&&RW as λe=>NG x vs sc<|.E e))
  (λx np vs sc md=>ss md λst=>iT st λe p=>aL sc La e Z p.line&&NG x vs sc (.E e))
  (λt a b i_a i_b np vs sc md=>ss md λst=>px st λc l r=>NG t vs sc (.T c)&&(i_a np vs sc (.B l)&&i_b np vs sc (.B r)))
  (λt b i_b np vs sc md=>ss md λst=>pw st λc l=>NG t vs sc (.T c)&&i_b np vs sc (.B l))
  (λi x b i_b np vs sc md=>ss md λst=>mF st λt it l=>zP t (λy=>vB vs i y)&&(QZ it (λy as=>gB sc y (Ot 6)&&RW as λe=>NG x vs sc<|.E e)&&i_b np vs sc (.B l)))
  (λi m b i_b np vs sc md=>ss md λst=>mF st λt it l=>zP t (λy=>vB vs i y)&&(zP it (λy=>mI sc y<|.tup m)&&i_b np vs sc (.B l)))
  (λx np vs sc md=>ss md λst=>pq st λo=>iV x (λe=>NG x vs sc<|.E e) o)
  (λnp vs sc md=>ss md λst=>Su 8 st) x
end
mutual section
variable {B:Gu} {n:Q} {vs:D<|D Q} {sc:w7}
def zjo {xs:D Lf} {is:D Q} (h:pM vs xs is=f'):Ko (vs.map E5) xs is:=by
 induction xs generalizing is with
 |nil=>exact PU h .nil
 |cons x xs ih=>induction is with
  |nil=>exact nB h
  |cons i is=>exact Gp h λY T'=>jk Y λa b=>.cons a<|ih T'
def zqy {Ln:D Lf} {is:D Q} {t e:Lb} (h:gN sc vs is t e=f'):∃ow,(∀Lo,Fs Lo sc Ln→Bk [t] e Lo=pure ow)∧∀names,ow=R names→Ko (vs.map E5) names.reverse is.reverse∧names.length=is.length:=by
 unfold gN at h
 induction q:pureOf (Bk [t] e<|gI sc)with
 |Z=>rw[q]at h;exact nB h
 |R ow=>
  rw[q]at h
  refine⟨ow,λLo O=>?_,λnames e=>?_⟩
  ·have:=Em q
   rw[←O.es]at this
   exact this
  ·clear q;subst e
   exact Gp h λY T'=>⟨zjo Y,Q5 T'⟩
def pN {Ln:D Lf} {t e:Lb} {l:Q} (h:mT sc t e l=f'):(∀Lo,Fs Lo sc Ln→C6 [t] e l Lo=pure La)∧∀Lo,Fs Lo sc Ln→Bk [t] e Lo=pure Z:=Gp h λY T'=>⟨λLo O=>by
 have:=Em<|Lm Y
 rw[←O.es]at this
 exact this,λLo O=>by
 have:=Em<|Lm T'
 rw[←O.es]at this
 exact this⟩
def mW {P:Lb→Prop} {e:Lb} (h:tg 9 e=f') (f:∀es q p,P<|.Tuple es q p):P e:=QX (k:=λH=>f') (w8.mpr ⟨h,C⟩) λes q p H=>f es q p
def pO {P:Lb→Prop} {k j i:Q} {e:Lb} (h:mU vs k j i e=f') (h0:k=0→∀x xp key kk kp p l,(vs.map E5)[j]?=R x→(x==(s!"__debug__":Lf))=La→(FS 0)[i]?=R l→key=E5 l→P (.Subscript (.Name x xp) (.Constant (.str key) kk kp) p))
  (Y:k≠0→∀x xp a p l,(vs.map E5)[j]?=R x→(x==(s!"__debug__":Lf))=La→(FS k)[i]?=R l→a=E5 l→P (.Attribute (.Name x xp) a p)):P e:=by
 induction k with
 |zero=>exact QY (k:=λv s=>zP v λx=>QW s λc=>Kt c λkey=>vB vs j x&&fB 0 i key) h λv s p h=>zL (P:=λv=>P<|.Subscript v s p) h λx xp h=>Zi (P:=λs=>P<|.Subscript (.Name x xp) s p) h λc kk kp h=>yZ (P:=λc=>P<|.Subscript (.Name x xp) (.Constant c kk kp) p) h λkey h=>Gp h λg1 g2=>jk g1 λa b=>iW g2 λl q e=>h0 C x xp key kk kp p l a b q e
 |succ k=>exact my (k:=λv a q=>zP v λx=>vB vs j x&&fB (k+1) i a) h λv a p h=>zL (P:=λv=>P<|.Attribute v a p) h λx xp h=>Gp h λg1 g2=>jk g1 λc d=>iW g2 λl q e=>Y (Ce k) x xp a p l c d q e
variable (z_:iX B) (z9:zN B) (z7:kQ B ai) (G':yq B n)
def wQ {P:Ri→Prop} {md:Ri} {k:Q9→Ld} (h:ss md k=f') (f:∀st,k st=f'→P (.S st)):P md:=by
 induction md with
 |S st=>exact f st h
 |_=>exact nB h
def pP {P:Ri→Prop} {md:Ri} {k:D Q9→Ld} (h:sb md k=f') (f:∀st,k st=f'→P (.B st)):P md:=by
 induction md with
 |B st=>exact f st h
 |_=>exact nB h
include z_ z9 z7 G'
def pQ (x:S):∀(np:Q) (vs:D<|D Q) (sc:w7) (md:Ri),mV x np vs sc md=f'→zs7 B n np sc (vs.map E5) x md:=by
 have X:=@zjm B n z_ z9 z7 G'
 induction x with
 |bad=>exact λnp vs sc md h=>match md with| .B sts=>XQ| .S st=>XR
 |skip=>exact λnp vs sc md h=>pP h λl h=>PU h Rg
 |seq a b ia ib=>
  exact λnp vs sc md h=>pP h λl h=>by
   cases l with
   |nil=>exact nB h
   |cons st r=>exact Gp h λY T'=>XS (ia _ _ _ _ Y)<|ib _ _ _ _ T'
 |asg i x=>exact λnp vs sc md h=>wQ h λst h=>Wi h λt e p h=>Gp h λY T'=>zL (P:=λt=>NG x vs sc (.As np i (eS t) t.pos e p)=f'→qo B n np sc (vs.map E5) (.asg i x) (.Assign [t] e p)) Y (λy q H h=>X x _ _ _ h) T'
 |asgT is xs=>exact λnp vs sc md h=>wQ h λst h=>Wi h λt e p h=>Ml h λY T' h=>mW (P:=λt=>(Jb vs (eL t) is&&(decide (is.Nodup∧is.length≤100)&&(gN sc vs is t e&&NG xs vs sc (.Vs<|eL e))))=f'→qo B n np sc (vs.map E5) (.asgT is xs) (.Assign [t] e p)) Y (λelts k tp=>mW (P:=λe=>(Jb vs elts is&&(decide (is.Nodup∧is.length≤100)&&(gN sc vs is (.Tuple elts k tp) e&&NG xs vs sc (.Vs<|eL e))))=f'→qo B n np sc (vs.map E5) (.asgT is xs) (.Assign [.Tuple elts k tp] e p)) T' λvals k2 vp h=>PR h λa b c d=>E7 (zqy c) λow s1 s2=>VS (λLo=>C) s1 (Ku a) s2 (Lm b).1 (Lm b).2<|X xs _ _ _ d) h
 |unp is x=>exact λnp vs sc md h=>wQ h λst h=>Wi h λt e p h=>Gp h λY h=>mW (P:=λt=>(Jb vs (eL t) is&&(decide is.Nodup&&(mT sc t e p.line&&NG x vs sc (.E e))))=f'→qo B n np sc (vs.map E5) (.unp is x) (.Assign [t] e p)) Y (λelts k tp h=>PR h λY T' h3 h4=>zae (pN h3).1 (pN h3).2 (Ku Y) (Lm T') (X x _ _ _ h4).1) h
 |setF k j i x=>exact λnp vs sc md h=>wQ h λst h=>Wi h λt e p h=>Ml h λY T' h3=>pO (P:=λt=>(∀Lo,Fs Lo sc (vs.map E5)→K8 e (R t) p.line Lo=pure La)→qo B n np sc (vs.map E5) (.setF k j i x) (.Assign [t] e p)) Y (λe0=>e0.symm▸λx xp key kk kp q l a b c d s=>VQ s a b c d<|X _ _ _ _ h3) (λk0 x xp a q l c d f g s=>VP z9 s c d k0 f g<|X _ _ _ _ h3)<|Ja T'
 |augF k j i o x=>exact λnp vs sc md h=>wQ h λst h=>pt h λt op e p h=>PR h λY T' h3 h4=>pO (P:=λt=>qo B n np sc (vs.map E5) (.augF k j i o x)<|.AugAssign t op e p) h3 (λe0=>by subst e0;exact nB T') λk0 x xp a q l c d f g=>VR z9 (mQ Y) c d k0 f g (X _ _ _ _ h4).1
 |aug i o x=>exact λnp vs sc md h=>wQ h λst h=>pt h λt op e p h=>Ml h λY T' h3=>zL (P:=λt=>qo B n np sc (vs.map E5) (.aug i o x)<|.AugAssign t op e p) T' λy q h=>jk h λa b=>XY (mQ Y) a (X _ _ _ _ h3).1
 |app j x=>exact λnp vs sc md h=>wQ h λst h=>mG h λc p h=>wD (P:=λc=>qo B n np sc (vs.map E5) (.app j x)<|.Expr c p) h λo name r as q m h=>Ml h λY T' h=>zL (P:=λo=>qs o name r as q→qo B n np sc (vs.map E5) (.app j x) (.Expr (.Call (.Attribute o name r) as [] q) p)) T' (λy yp T' m=>vo (P:=λas=>qs (.Name y yp) name r as q→qo B n np sc (vs.map E5) (.app j x) (.Expr (.Call (.Attribute (.Name y yp) name r) as [] q) p)) h (λe h m=>jk T' λa b=>XZ m (λLo=>C) ((X _ _ _ _ h).2.2.1 _) a b (ju Y) (X _ _ _ _ h).1) m) m
 |ext j x=>exact λnp vs sc md h=>wQ h λst h=>mG h λc p h=>wD (P:=λc=>qo B n np sc (vs.map E5) (.ext j x)<|.Expr c p) h λo name r as q m h=>Ml h λY T' h=>zL (P:=λo=>qs o name r as q→qo B n np sc (vs.map E5) (.ext j x) (.Expr (.Call (.Attribute o name r) as [] q) p)) T' (λy yp T' m=>vo (P:=λas=>qs (.Name y yp) name r as q→qo B n np sc (vs.map E5) (.ext j x) (.Expr (.Call (.Attribute (.Name y yp) name r) as [] q) p)) h (λe h m=>jk T' λa b=>zaa m (λLo=>C) ((X _ _ _ _ h).2.2.1 _) a b (ju Y) (X _ _ _ _ h).1) m) m
 |exp x=>exact λnp vs sc md h=>wQ h λst h=>mG h λe p h=>Gp h λY T'=>XV (Ja Y) (X _ _ _ _ T').1
 |ite t a b ia ib=>exact λnp vs sc md h=>wQ h λst h=>zqn h λc l r p h=>Ml h λY T' h3=>XW (X _ _ _ _ Y) (ia _ _ _ _ T')<|ib _ _ _ _ h3
 |whl t b ib=>exact λnp vs sc md h=>wQ h λst h=>zql h λc l p h=>Gp h λY h3=>zaf (X _ _ _ _ Y)<|ib _ _ _ _ h3
 |forR i x b ib=>exact λnp vs sc md h=>wQ h λst h=>pv h λt it l p h=>Ml h λY T' h3=>zL (P:=λt=>qo B n np sc (vs.map E5) (.forR i x b)<|.For t it l [] p) Y λy yp Y=>jk Y λa c=>Zk (P:=λit=>qo B n np sc (vs.map E5) (.forR i x b)<|.For (.Name y yp) it l [] p) T' λz zp as q h=>Gp h λg1 h=>vo (P:=λas=>qo B n np sc (vs.map E5) (.forR i x b)<|.For (.Name y yp) (.Call (.Name z zp) as [] q) l [] p) h λe h=>VT z9 (Kv z_ g1 C) ((X _ _ _ _ h).2.2.1 _) a (X _ _ _ _ h).1<|ib _ _ _ _ h3
 |forT i m b ib=>exact λnp vs sc md h=>wQ h λst h=>pv h λt it l p h=>Ml h λY T' h3=>zL (P:=λt=>qo B n np sc (vs.map E5) (.forT i m b)<|.For t it l [] p) Y λy yp Y=>jk Y λa c=>zL (P:=λit=>qo B n np sc (vs.map E5) (.forT i m b)<|.For (.Name y yp) it l [] p) T' λz zp h=>pK z_ h λk d g=>VU z9 k d g a<|ib _ _ _ _ h3
 |ret x=>
  exact λnp vs sc md h=>wQ h λst h=>zqj h λo p h=>by
   cases o with
   |R e=>exact XT (X _ _ _ _ h).1
   |Z=>cases x with
    |lit m=>cases m with
     |Z=>exact VM
     |_=>exact nB h
    |_=>exact nB h
 |brk=>exact λnp vs sc md h=>wQ h λst h=>zqo h λp=>XU
end
mutual namespace A
def qO {p:Q→Ld} {n i:Q} (h:(j5 n).all p=f') (hi:i<n):p i=f':=Q7.mp h i<|Cv.mpr hi
def jl {α:Type} {f g:Q→α} {n i:Q} (h:(j5 n).map f=(j5 n).map g) (hi:i<n):f i=g i:=W5.mp h i<|Cv.mpr hi
def vO {α:Type} {l:D α} {i:Q} {a:α} (h:Na l i=R a):i<l.length:=(D.getElem?_eq_some_iff.mp<|yx h).1
def Wl {l:D<|D Q} {i:Q} (h:((Na l i).getD []).isEmpty=La):i<l.length:=by
 induction e:Na l i with
 |Z=>rw[e]at h;exact nB h.symm
 |R a=>exact vO e
abbrev Kw (o:Lc<|Lc q4) (a:w_):Ld:=match o with|R (R<|.ref b)=>Bh a b|_=>La
def xc {o:Lc<|Lc q4} {a:w_} (h:Kw o a=f'):o=R (R<|.ref a):=by
 induction o with
 |Z=>exact nB h
 |R o=>induction o with
  |Z=>exact nB h
  |R v=>induction v with
   |ref b=>exact rq (Q5 h) C
   |_=>exact nB h
abbrev mX (o:Lc<|Lc q4):Ld:=J1 o La λo=>o.isNone
def ZS {o:Lc<|Lc q4} (h:mX o=f'):o=R Z:=by
 induction o with
 |Z=>exact nB h
 |R o=>induction o with
  |Z=>rfl
  |R v=>exact nB h
abbrev pR (v:q4) (s:String):Ld:=match v with| .type x=>x==s|_=>La
abbrev pS (d:Data) (k:D q4→Ld):Ld:=match d with| .seq vs n=>k vs.toList|_=>La
abbrev pT (o:Obj) (k:D q4→Ld):Ld:=pR o.cls s!"tuple"&&(o.dict.isNone&&(o.slots.isEmpty&&pS o.data k))
abbrev pU (K:Frag) (v:q4) (k:D q4→Ld):Ld:=match v with| .ref a=>J1 (K.lookup a) La λo=>pT o k|_=>La
abbrev RX (v:q4) (l:D Q):Ld:=match v with| .str s t=>sB s l|_=>La
abbrev pV (l:D MV):D q4→Ld:=D.rec (motive:=λH=>D q4→Ld) (λvs=>vs.isEmpty) (λm H ih vs=>j7 vs La λv vs=>MV.casesOn (motive_1:=λH=>Ld) m La (λH=>La) (λH=>La) (λl=>RX v l) (λH=>La) (λH=>La)&&ih vs) l
abbrev mY (K:Frag) (v:q4) (m:MV):Ld:=MV.casesOn (motive_1:=λH=>Ld) m La (λH=>La) (λi=>match v with| .int j t=>decide (i=j)|_=>La) (λl=>RX v l) (λl=>pU K v<|pV l) λH=>La
def pW {h:y9} {v:q4} {l:D Q} (e:RX v l=f'):FP h v<|.str l:=by
 induction v with
 |str s t=>exact zp6<|ju e
 |_=>exact nB e
def zq4 {h:y9} {l:D MV}:∀{vs:D q4},pV l vs=f'→FJ h vs l:=by
 induction l with
 |nil=>exact λ{vs} e=>PU (P:=λvs=>FJ h vs []) e .nil
 |cons m l ih=>
  intro vs e
  cases vs with
  |nil=>exact nB e
  |cons v vs=>
   refine Gp e λa b=>.cons ?_<|ih b
   clear e;cases m with
   |str x=>exact pW a
   |_=>exact nB a
def zjr {v:q4} {s:String} (h:pR v s=f'):v=.type s:=by
 induction v with
 |type x=>exact rq (eq_of_beq h) C
 |_=>exact nB h
def zjs {d:Data} {k:D q4→Ld} (h:pS d k=f'):∃vs n,d=.seq vs.toArray n∧k vs=f':=by
 induction d with
 |seq vs n=>exact⟨vs.toList,n,C,h⟩
 |_=>exact nB h
def zjt {K:Frag} {v:q4} {k:D q4→Ld} (h:pU K v k=f') {G:Prop} (f:∀a vs n,v=.ref a→K.lookup a=R (ZC vs n)→k vs=f'→G):G:=by
 induction v with
 |ref a=>
  change (J1 (K.lookup a) La λo=>pT o k:Ld)=f' at h
  cases q:K.lookup a with
  |Z=>rw[q]at h;exact nB h
  |R o=>
   rw[q]at h
   refine PR h λY T' h3 h4=>F4 (zjs h4) λvs n e h=>f a vs n C ?_ h
   refine rq q ?_
   clear q h4;induction o with
   |mk c d dt sl=>(refine rq (show c=_ from zjr Y) ?_;refine rq (show d=Z from BN.mp T') ?_;refine rq (show sl=(D.toArray [])from Array.isEmpty_iff.mp h3) ?_;refine rq (show dt=_ from e) ?_);rfl
 |_=>exact nB h
def pX {K:Frag} {h:y9} (X:K.In h) {v:q4} {m:MV} (e:mY K v m=f'):FP h v m:=by
 cases m with
 |int i=>cases v with
  |int j t=>exact⟨t,by exact rq (Lm e) C⟩
  |_=>exact nB e
 |str l=>exact pW e
 |tup l=>
  refine zjt e ?_;clear e;intro a vs n ev hl e
  refine rq ev ?_
  exact .tup _ _ _ ⟨n,X _ _ hl⟩<|zq4 e
 |_=>exact nB e
abbrev pY (K:Frag):D J7→D (D Q×MV)→Ld:=λes l=>D.rec (motive:=λH=>D J7→Ld) (λes=>es.isEmpty) (λx H ih es=>j7 es La λe es=>(RX e.key x.1&&mY K e.val x.2)&&ih es) l es
def zju {K:Frag} {P:V6} {h:y9} (X:K.In h) {es:D J7} {l:D<|D Q×MV} (e:pY K es l=f') (q:es.map (·.hash)=l.map λx=>K2 P<|E5 x.1):Gy P h es l:=by
 induction l generalizing es with
 |nil=>exact PU (P:=λes=>Gy P h es []) e C
 |cons x l ih=>induction es with
  |nil=>exact nB e
  |cons d es=>
   replace q:=D.cons.inj q
   refine Gp e λa b=>Gp a λa c=>F2.cons ?_<|ih b q.2
   clear e;induction d with
   |mk hh k v=>
    induction k with
    |str s t=>exact⟨t,v,by(refine rp (ju a) ?_;refine rq (show hh=_ from q.1) ?_;exact rq (ju a) C),pX X c⟩
    |_=>exact nB a
end
mutual section
variable {P:V6}
nonrec abbrev KH (P:V6):Frag:=hx.heap_1_1 P
abbrev oT (P:V6) (f:Q):Obj:=((KH P).lookup<|Ss f).getD default
abbrev NJ (P:V6) (f:Q):CP:=match(oT P f).data with| .func fd=>fd|_=>default
abbrev TJ (P:V6) (f:Q):D Q9:=match(NJ P f).body with| .stmts b=>b|_=>[]
abbrev fT (f:Q):Fn:=(gE f).getD ⟨0,0,.bad⟩
abbrev aj (P:V6) (f:Q):Ld:=codeIn (KH P) (NJ P f).code (NJ P f).qualname&&(decide ((NJ P f).globals=x_∧(NJ P f).builtins=B9∧(NJ P f).scope.isCoroutine=La∧(NJ P f).scope.isGenerator=La∧(fT f).np≤(Pp f).length)&&(TI (NJ P f).scope (Pp f)&&mV (fT f).body (fT f).np (Pp f) (NJ P f).scope (.B<|TJ P f)))
def mZ:(j5 28).all (λi=>aj P<|i+1)=f':=by kernel_rfl
def m4:(j5 28).all (λi=>aj P<|i+29)=f':=by kernel_rfl
def m7:(j5 28).all (λi=>aj P<|i+57)=f':=by kernel_rfl
def zq6 {i:Q} (h:i<84):aj P (i+1)=f':=by
 by_cases Y:i<28
 ·exact qO (p:=λi=>aj P<|i+1) mZ Y
 ·by_cases T':i<56
  ·obtain⟨j,C⟩:=IH 28 (V_ Y) C
   exact qO (p:=λi=>aj P<|i+29) m4 (Q.lt_of_add_lt_add_right T':j<28)
  ·obtain⟨j,C⟩:=IH 56 (V_ T') C
   exact qO (p:=λi=>aj P<|i+57) m7 (Q.lt_of_add_lt_add_right h:j<28)
def RY:(j5 85).map (λi=>(KH P).lookup<|Ss i)=(j5 85).map λi=>R<|oT P i:=by kernel_rfl
def RZ:(j5 85).map (λi=>(oT P i).data)=(j5 85).map λi=>.func<|NJ P i:=by kernel_rfl
def R0:(j5 85).map (λi=>(NJ P i).body)=(j5 85).map λi=>.stmts<|TJ P i:=by kernel_rfl
abbrev R1 (k:Q):D Q:=(j5 85).filter λf=>w0 1 f&&Bh (fT f).np k
def bn0:(R1 0).map (λf=>Bl (NJ P f) ⟨[],[]⟩)=(R1 0).map λf=>pure<|(((Pp f).map E5).take 0).zip []:=by kernel_rfl
def bn1:(R1 1).map (λf a=>Bl (NJ P f) ⟨[a],[]⟩)=(R1 1).map λf a=>pure<|(((Pp f).map E5).take 1).zip [a]:=by kernel_rfl
def bn2:(R1 2).map (λf a b=>Bl (NJ P f) ⟨[a,b],[]⟩)=(R1 2).map λf a b=>pure<|(((Pp f).map E5).take 2).zip [a,b]:=by kernel_rfl
def bn3:(R1 3).map (λf a b c=>Bl (NJ P f) ⟨[a,b,c],[]⟩)=(R1 3).map λf a b c=>pure<|(((Pp f).map E5).take 3).zip [a,b,c]:=by kernel_rfl
def bn4:(R1 4).map (λf a b c d=>Bl (NJ P f) ⟨[a,b,c,d],[]⟩)=(R1 4).map λf a b c d=>pure<|(((Pp f).map E5).take 4).zip [a,b,c,d]:=by kernel_rfl
def ak:(j5 85).all (λf=>w0 (fT f).np 4)=f':=by kernel_rfl
def gl1:(j5 85).all (λi=>(aI i).isEmpty||Kw (CC (KH P) x_<|E5<|aI i) (Ss i))=f':=by kernel_rfl
def gl2:(j5 3).all (λi=>Kw (CC (KH P) x_<|E5<|aJ i)<|Po<|i+1)=f':=by kernel_rfl
abbrev aM (M':Q):w_:=(Na [203,204,205,207] M').getD 0
abbrev m8 (P:V6) (M':Q):Array J7:=match(KH P).lookup (aM M')with|R ⟨_,_,.dict es _,_⟩=>es|_=>(D.toArray [])
abbrev m9 (P:V6) (M':Q):Q:=match(KH P).lookup (aM M')with|R ⟨_,_,.dict _ n,_⟩=>n|_=>0
def ds1:(j5 4).all (λi=>Kw (CC (KH P) x_<|E5<|SB i) (aM i)&&(!(aM i==Dd)&&pY (KH P) (m8 P i).toList (Hd i)))=f':=by kernel_rfl
def ds2:(j5 4).map (λi=>(KH P).lookup<|aM i)=(j5 4).map λi=>R ⟨.type s!"dict",Z,.dict (m8 P i)<|m9 P i,(D.toArray [])⟩:=by kernel_rfl
def ds3:(j5 4).map (λi=>(m8 P i).toList.map (·.hash))=(j5 4).map λi=>(Hd i).map λx=>K2 P<|E5 x.1:=by kernel_rfl
def bs1:(j5 8).all (λi=>mX (CC (KH P) x_<|E5<|Ot i)&&!K4 (Ot i) "__name__")=f':=by kernel_rfl
def bs2:(j5 8).map (λi=>BY<|E5<|Ot i)=(j5 8).map λi=>R<|mw i:=by kernel_rfl
def gs1:mx.all (λp=>match CC (KH P) x_ (E5 p.1)with|R (R v)=>mY (KH P) v p.2|_=>La)=f':=by kernel_rfl
def R2:(j5 85).all (λi=>DE (KH P)<|.ref<|Ss i)=f':=by kernel_rfl
def R3:(j5 85).map (λi=>typeIn (KH P)<|.ref<|Ss i)=(j5 85).map λH=>R<|.type s!"function":=by kernel_rfl
abbrev pZ (P:V6) (c m:Q):Ld:=J1 (Kr (c+1) m) f' λf=>w0 (f+1) 85&&(Kw (B8 (KH P) (.ref<|Po<|c+1)<|E5<|ai m) (Ss f)&&!decide (ai m∈FS (c+1)))
def am:(j5 3).all (λc=>(j5 60).all<|pZ P c)=f':=by kernel_rfl
def an:[ad,ae,ag,ah].all (λr=>w0 r.length 60)=f':=by kernel_rfl
def R4:(j5 3).all (λc=>mX (B8 (KH P) (.ref<|Po<|c+1) s!"__getattr__")&&(makesIn (KH P) (Po<|c+1)&&DE (KH P) (.ref<|Po<|c+1)))=f':=by kernel_rfl
def ao:(j5 3).all (λc=>J1 (Os<|c+1) f' λf=>w0 (f+1) 85&&Kw (B8 (KH P) (.ref<|Po<|c+1) s!"__init__") (Ss f))=f':=by kernel_rfl
end
mutual namespace A
abbrev N5 (prog:CG) (w:Ep) (h0:y9) (os:EB) (W:Q):Gu:=⟨⟨prog,w,KH w.params,h0,os⟩,pg,W,Ss,Po⟩
abbrev Nw:D<|D<|D Q:=[["||"],["<=>"],["=>"],["&&"],[],["=","!=","in","!in","<",">","<=",">="],[],["+","-"],[],["++"],["&"],[],["<:"],[":>"],[],["."]]
abbrev p_ (r:D<|D Q):D Lb→Ld:=D.rec (motive:=λH=>D Lb→Ld) (λes=>es.isEmpty) (λl H ih es=>j7 es La λe es=>QW e (λc=>Kt c λx=>sB x l)&&ih es) r
abbrev re (r:D<|D<|D Q):D Lb→Ld:=D.rec (motive:=λH=>D Lb→Ld) (λes=>es.isEmpty) (λl H ih es=>j7 es La λe es=>gF e (λes=>p_ l es)&&ih es) r
abbrev rf (k:D Q) (m:MV):Ld:=MV.casesOn (motive_1:=λH=>Ld) m La (λH=>La) (λj=>J1 ((j5 Nw.length).filter λj=>decide (k∈Nw.getD j [])).head? La λi=>decide (j=(i:g')+1)) (λH=>La) (λH=>La) λH=>La
def aq:(Hd 4).all (λp=>rf p.1 p.2)=f':=by kernel_rfl
def zbc {k:D Q} {m:MV} {l:D<|D Q×MV} (h:zA k l=R m):(k,m)∈l:=by
 induction l with
 |nil=>exact nO h
 |cons p l ih=>
  by_cases e:k=p.1
  ·rw[show p=(p.1,p.2)from C,wK e.symm]at h
   (refine rq e ?_;refine rp (z' h) ?_)
   exact j0 ..
  ·rw[show p=(p.1,p.2)from C,kO λq=>e q.symm]at h
   exact q_ _<|ih h
def zen (k:D Q) (m:MV) (h:zA k (Hd 4)=R m):∃i:Q,m=.int ((i:g')+1)∧((j5 Nw.length).filter λj=>decide (k∈Nw.getD j [])).head?=R i:=by
 have e:rf k m=f':=Q7.mp aq _<|zbc h
 clear h;cases m with
 |int j=>
  change (J1 _ _ _:Ld)=f' at e
  cases q:((j5 Nw.length).filter λj=>decide (k∈Nw.getD j [])).head? with
  |Z=>rw[q]at e;exact nB e
  |R i=>rw[q]at e;exact⟨i,by exact rq (Lm e) C,C⟩
 |_=>exact nB e
end
mutual section
variable {B:Gu} {n:Q} {sc:w7} {Ln:D Lf}
def zq8 {r:D<|D Q} {es:D Lb} (h:p_ r es=f'):No B n sc Ln (N_ r) es:=by
 induction r generalizing es with
 |nil=>exact PU h NM
 |cons l r ih=>induction es with
  |nil=>exact nB h
  |cons e es=>exact Gp h λY T'=>Zi (P:=λe=>No B n sc Ln (N_<|l::r)<|e::es) Y λc q p h=>yZ (P:=λc=>No B n sc Ln (N_<|l::r)<|.Constant c q p::es) h λx h=>vM (λLo=>C) (yg<|ju h)<|ih T'
def zjv {r:D<|D<|D Q} {es:D Lb} (h:re r es=f'):No B n sc Ln (Nu r) es:=by
 induction r generalizing es with
 |nil=>exact PU h NM
 |cons l r ih=>induction es with
  |nil=>exact nB h
  |cons e es=>exact Gp h λY T'=>QX (P:=λe=>No B n sc Ln (Nu<|l::r)<|e::es) Y λes2 q p h=>vM (λLo=>C) (yP<|zq8 h)<|ih T'
end
mutual namespace A
def zq9 {body:D Q9} {te:Lb} {sc2:w7} {p1 p2 p3 p4 p5 p6 p7 p8 p9 p10 p11 p12 p13 p14 p15 p16 p17 p18 p19 p20:Pos} {k1 k2:Q} (h:body=[.Assign [.Name yS p1] te p2,.Return (R<|We (λi=>[p1,p1,p2,p3,p4,p5,p6,p7,p8,p9,p10,p11,p12,p13,p14,p15,p16,p17,p18,p19,p20].getD i p1) k1 k2 sc2) p20]) (hs:∀Lo,K8 te (R<|.Name yS p1) p2.line Lo=pure La):
  ∃(p:Q→Pos) (k1 k2:Q),body=[.Assign [.Name yS<|p 1] te<|p 2,.Return (R<|We p k1 k2 sc2)<|p 20]∧∀Lo,K8 te (R<|.Name yS<|p 1) (p 2).line Lo=pure La:=⟨λi=>[p1,p1,p2,p3,p4,p5,p6,p7,p8,p9,p10,p11,p12,p13,p14,p15,p16,p17,p18,p19,p20].getD i p1,k1,k2,h,hs⟩
end
section
mutual namespace A
variable {prog:CG} {w:Ep} {h0:y9} {os:EB} {W:Q}
end
local macro_rules |`(tactic|trivial)=>`(tactic|fail)
mutual namespace A
abbrev rg (P:V6):Lb:=s2<|(TJ P 0).headD default
def zra (P:V6):gF (rg P) (re Nw)=f':=by kernel_rfl
def gO:∃sc2,Wg (N5 prog w h0 os W) 0 4 (oT w.params 0) (NJ w.params 0) Nw (rg w.params) sc2<|TJ w.params 0:=by
 refine⟨_,⟨jl (i:=0) RY (by decide),jl (i:=0) RZ (by decide),jl (i:=0) R0 (by decide),?_,C,C,C,C,C,C,C,λv=>C,?_,?_,ZS ?_,ZS ?_,λn=>QX (zra w.params) λes q p h=>yP<|zjv h,zen,by decide,zq9 C λLo=>C⟩⟩
 all_goals kernel_rfl
end
end
mutual namespace A
def gP {N':Q→Prop} (h:∀i,i<3→N' i) (s:∀i,N' 2→N' (i+3)):∀c,N' c:=λc=>by
 by_cases e:c<3
 ·exact h c e
 ·obtain⟨d,C⟩:=Q.exists_eq_add_of_le<|V_ e
  rw[Y5];exact s d<|h 2<|by decide
end
mutual section
variable {prog:CG} {w:Ep} {h0:y9} {os:EB} {W:Q} {P:V6}
def cfs:(j5 3).map (λc=>(B8 (KH P) (.ref<|Po<|c+1) s!"__getattribute__",B8 (KH P) (.ref<|Po<|c+1) s!"__setattr__",plainOver (KH P)<|Po<|c+1,hasDictIn (KH P)<|Po<|c+1))=(j5 3).map λc=>(R<|R<|.builtin s!"object.__getattribute__",R<|R<|.builtin s!"object.__setattr__",f',f'):=by kernel_rfl
def afs:(j5 3).map (λc=>(FS<|c+1).map λk=>(B8 (KH P) (.ref<|Po<|c+1)<|E5 k,noGet (KH P) Z,takerIn (KH P) (Po<|c+1)<|E5 k))=(j5 3).map λc=>(FS<|c+1).map λk=>(R Z,f',R Z):=by kernel_rfl
def zrb {mg mb:Lf→Lc q4} (X:(KH w.params).In h0) (g:h0.Ns x_ mg) (b:h0.Ns B9 mb) (hb:∀x:Lf,x≠s!"__name__"→mb x=BY x) (l:h0.NoLimit):zN (N5 prog w h0 os W) where
 X:=X
 g:=⟨mg,g⟩
 b:=⟨mb,b,hb⟩
 lim:=l
 cf:=gP (λi hi=>have e:=jl cfs hi;⟨Li (·.1) e,Li (·.2.1) e,Li (·.2.2.1) e,Li (·.2.2.2) e⟩) λi h=>h
 af:=gP (N':=λc=>∀k,k∈FS (c+1)→AF (N5 prog w h0 os W).G ((N5 prog w h0 os W).ca<|c+1) (E5 k)) (λi hi k hk=>have e:=W5.mp (jl afs hi) k hk;⟨⟨Z,Li (·.1) e,Li (·.2.1) e⟩,Li (·.2.2) e⟩) λi h=>h
def zeo {α:Type} {l:D α} {i:Q} {a:α} (h:Na l i=R a):a∈l:=W3<|yx h
def m_ (z9:zN<|N5 prog w h0 os W):iX<|N5 prog w h0 os W:=by
 refine⟨C,λi h=>?_,λi h=>xc<|qO (p:=λi=>Kw (CC (KH w.params) x_<|E5<|aJ i)<|Po<|i+1) gl2 (Wl h:i<3),λi h=>?_,λi h=>?_,λp hp=>?_⟩
 ·have e:=qO (gl1 (P:=w.params)) (Wl h:i<85)
  rw[h]at e
  exact xc e
 ·have hi:i<4:=Wl h
  exact Ml (qO (ds1 (P:=w.params)) hi) λa b c=>⟨aM i,xc a,⟨_,_,jl ds2 hi,zju z9.X c<|jl ds3 hi⟩,W8 _▸b⟩
 ·have hi:i<8:=Wl h
  refine Gp (qO (bs1 (P:=w.params)) hi) λa b=>⟨ZS a,jl bs2 hi,λe=>?_⟩
  rw[show Ot i="__name__"from kn e]at b
  exact nB b
 ·have e:=Q7.mp (gs1 (P:=w.params)) p hp
  induction q:CC (KH w.params) x_ (E5 p.1)with
  |Z=>rw[q]at e;exact nB e
  |R o=>induction o with
   |Z=>rw[q]at e;exact nB e
   |R v=>rw[q]at e;exact⟨v,q,pX z9.X e⟩
def zrc {c m f:Q} (h:Kr (c+1) m=R f):c<3∧m<60:=by
 unfold Kr at h
 induction e:Na [ad,ae,ag,ah] (c+1)with
 |Z=>rw[e]at h;exact nO h
 |R r=>
  rw[e]at h
  refine⟨W'<|vO e,?_⟩
  induction q:Na r m with
  |Z=>rw[show(R r).bind (λr=>Na r m)=Na r m from C,q]at h;exact nO h
  |R x=>exact v_ (vO q)<|Z5<|Q7.mp an r<|zeo e
def R5:kQ (N5 prog w h0 os W) ai where
 fnk:=λf F h=>qO R2 (vO h)
 mt:=λc m f h=>by
  have q:=zrc h
  have e:=qO (qO (am (P:=w.params)) q.1) q.2
  unfold pZ at e
  rw[show Kr (c+1) m=R f from h]at e
  exact Ml e λa b d=>have hf:f<85:=Z5 a;⟨xc b,jl R3 hf,Wj d,qO R2 hf⟩
 mt0:=λm=>C
 gn:=gP (λi hi=>Gp (qO (R4 (P:=w.params)) hi) λa b=>ZS a) λi h=>h
 made:=gP (λi hi=>Ml (qO (R4 (P:=w.params)) hi) λa b c=>⟨b,c⟩) λi h=>h
 it:=gP (N':=λc=>∀f,Os (c+1)=R f→B8 (KH w.params) (.ref<|Po<|c+1) s!"__init__"=R (R<|.ref<|Ss f)∧typeIn (KH w.params) (.ref<|Ss f)=R (.type s!"function")) (λi hi f h=>by
  have e:=qO (ao (P:=w.params)) hi
  rw[show Os (i+1)=R f from h]at e
  exact Gp e λa b=>⟨xc b,jl R3<|Z5 a⟩) λi h f e=>by exact nO e
 it0:=C
def rh {f:Q} {F:Fn} (hf:f<84) (hF:gE (f+1)=R F):me (N5 prog w h0 os W) (f+1) F (oT w.params<|f+1) (NJ w.params<|f+1) (TJ w.params<|f+1) ((Pp<|f+1).map E5)∧∀n,iX (N5 prog w h0 os W)→zN (N5 prog w h0 os W)→yq (N5 prog w h0 os W) n→wL (N5 prog w h0 os W) n F.np (NJ w.params<|f+1).scope ((Pp<|f+1).map E5) F.body (TJ w.params<|f+1):=by
 have Y:f+1<85:=Q.succ_lt_succ hf
 have eF:fT (f+1)=F:=by unfold fT;refine rq hF ?_;rfl
 refine PR (zq6 (P:=w.params) hf) λa b c d=>?_
 rw[eF]at b d
 replace b:=Lm b
 have s:=Jd c
 have nb:w0 (fT<|f+1).np 4=f':=qO (p:=λf=>w0 (fT f).np 4) ak Y
 have mem:f+1∈R1 F.np:=D.mem_filter.mpr ⟨Cv.mpr Y,by refine rq eF ?_;exact w8.mpr ⟨C,Q.beq_refl _⟩⟩
 refine⟨⟨jl RY Y,jl RZ Y,jl R0 Y,a,b.1,b.2.1,b.2.2.1,b.2.2.2.1,s.2.1,s.2.2.2.1,s.2.2.2.2.1,s.2.2.2.2.2,by rw[j9];exact b.2.2.2.2,?_⟩,λn z_ z9 G'=>pQ z_ z9 R5 G' _ _ _ _ _ d⟩
 rw[eF]at nb
 generalize F.np=k at mem nb⊢
 replace nb:=Z5 nb
 have key:k=0∨k=1∨k=2∨k=3∨k=4:=(by decide:∀k,k<5→k=0∨k=1∨k=2∨k=3∨k=4) k<|C2 nb
 rcases key with e|e|e|e|e<;>subst e
 ·exact oJ (P:=λvs=>Bl (NJ w.params<|f+1) ⟨vs,[]⟩=pure ((((Pp<|f+1).map E5).take 0).zip vs))<|W5.mp bn0 _ mem
 ·exact oK (P:=λvs=>Bl (NJ w.params<|f+1) ⟨vs,[]⟩=pure ((((Pp<|f+1).map E5).take 1).zip vs)) λa=>congrFun (W5.mp bn1 _ mem) a
 ·exact oO (P:=λvs=>Bl (NJ w.params<|f+1) ⟨vs,[]⟩=pure ((((Pp<|f+1).map E5).take 2).zip vs)) λa b=>congrFun (congrFun (W5.mp bn2 _ mem) a) b
 ·exact lX (P:=λvs=>Bl (NJ w.params<|f+1) ⟨vs,[]⟩=pure ((((Pp<|f+1).map E5).take 3).zip vs)) λa b c=>congrFun (congrFun (congrFun (W5.mp bn3 _ mem) a) b) c
 ·exact zss (P:=λvs=>Bl (NJ w.params<|f+1) ⟨vs,[]⟩=pure ((((Pp<|f+1).map E5).take 4).zip vs)) λa b c d=>congrFun (congrFun (congrFun (congrFun (W5.mp bn4 _ mem) a) b) c) d
def zjx (z9:zN<|N5 prog w h0 os W):∀n,yq (N5 prog w h0 os W) n:=mh z9 λf F h=>by
 induction f with
 |zero=>exact .inl<|gO.elim λsc2 K=>QU z9 C K
 |succ f=>exact .inr ⟨_,_,_,_,(rh (W'<|vO h) h).1,λn G'=>(rh (W'<|vO h) h).2 n (m_ z9) z9 G'⟩
abbrev zrd (cells:D g'):Ev:=[Z,R<|.o 0 [.l<|cells.map .int,.d<|.int 0,.d<|.int 9],Z,Z,Z,Z,Z]
abbrev TK:Prop:=∀cells:D g',cells.length≤60→∃ρ',Fc pg (EZ pg 2000000 300) 2000000 1 PP (zrd cells)=R (.rt<|.d<|.bool f',ρ')
def Yd {h:y9} {vs:D q4} {ns:D g'} (z_:IntsAre vs ns):FJ h vs<|ns.map .int:=by
 induction z_ with
 |nil=>exact .nil
 |cons n t r ih=>exact .cons (.int n t) ih
def zre (l:D g'):∃c:D g',c.length≤60∧Hn (l.map MV.int) Z (R 60)=c.map MV.int:=by
 refine⟨l.take 60,by simp;exact uq,?_⟩
 unfold Hn
 simp
def zbe {B:Gu} {n:Q} {T:S} {A:Z6} {Lo:Env} {s:q7} {sc:w7} {st0:Q9} {rest:D Q9} {xs xl xt kc ks kl:Lf} {p1 p2 p3 p4 p5 p6 p7 p8 p9 p10 p11 p12 p13 p14:Pos} {k1 k2 k3 k4 k5 k6:Q} {sa:w_} {vs:D q4} {ns:D g'} {Ln:D Lf} {ρ':Ev}
  (z9:zN B) (hrun:Fc B.P (EZ B.P B.W n) B.W 1 T [Z,R<|.o 0 [.l<|Hn (ns.map .int) Z<|R 60,.d<|.int 0,.d<|.int 9],Z,Z,Z,Z,Z]=R (.rt<|.d<|.bool f',ρ'))
  (hst:st0=.Assign [.Name xt p7] (.Dict [R<|.Constant (.str kc) k2 p8,R<|.Constant (.str ks) k3 p9,R<|.Constant (.str kl) k4 p10] [.Call (.Name xl p1) [.Subscript (.Name xs p2) (.Slice Z (R<|.Constant (.int 60) k1 p3) Z p4) p5] [] p6,.Constant (.int 0) k5 p11,.Constant (.int 9) k6 p12] p13) p14)
  (U':kc=E5 "cells") (hs:ks=E5 "spot") (hl:kl=E5 "left")
  (hb:wC B sc xl<|.type s!"list") (hv:Ln[0]?=R xs) (hd:(xs==(s!"__debug__":Lf))=La) (ht:Ln[1]?=R xt) (O:Fs Lo sc Ln) (n0:B.G.h0.get? Lo.locals=Z) (nd:Ln.Nodup) (aa:Nl A n)
  (hh:∀b o,B.G.h0.get? b=R o→s.heap.get? b=R o) (hg:s.gens=(D.toArray [])) (ho:s.os=B.G.os) {mm:Lf→Lc q4} (hns:s.heap.Ns Lo.locals mm) (hm:mm xs=R (.ref sa)) (ha:s.heap.IsList sa vs.toArray) (hi:IntsAre vs ns) (hz:ns.length≤63)
  (z_:wL B n 1 sc Ln T rest):
  q9 B.G.M A (execs (st0::rest) Lo) (λf s'=>f=.ret (.bool f')∧(∀b o,B.G.h0.get? b=R o→s'.heap.get? b=R o)∧s'.os=B.G.os∧s'.gens=(D.toArray [])) Er s:=by
 subst hst
 have F:Fm s.heap (λH=>Z) Lo.locals Ln λi=>if i=0 then R (.ref sa)else Z:=by
  refine⟨⟨mm,hns,λi m e=>?_⟩,C⟩
  by_cases h0':i=0
  ·subst h0'
   rw[Lh C]at e;replace e:=z' e;subst e
   exact⟨xs,_,hv,hm,.ref sa⟩
  ·rw[Lj h0']at e;nomatch e
 have W0:Gg B (λH=>Z) (λi=>if i=0 then R (.ref sa)else Z) [Z,Z,Z,Z,Z,Z,Z] λH H=>False:=by
  refine⟨λi t e=>?_,λH H H h=>h.elim,λH H h=>h.elim⟩
  match i,e with
  |0,e|1,e|2,e|3,e|4,e|5,e|6,e=>nomatch e
  |i+7,e=>nomatch e
 refine Cs<|q5 (zar (l:=ns.map .int) (vs:=vs) (sa:=sa) z9 hb O n0 nd (⟨hh,λa x e=>(nomatch e),λa x e=>(nomatch e),hg,ho⟩:St B.G (λH=>Z) s) F W0 hv hd ht C ha (Yd hi) C (by rw[j9];exact Ga hz omT) U' hs hl) (λf s1 Y=>?_) λH H x=>x
 obtain⟨σ1,ls1,P1,x1,y1⟩:=Y
 induction f with
 |next=>
  refine q5 (z_.h hrun O n0 nd aa x1.st x1.fm x1.own) (λf2 s2 T'=>?_) λH H x=>x
  obtain⟨σ2,ls2,P2,x2,y2⟩:=T'
  induction f2 with
  |ret v=>
   obtain⟨m,N',r,t,_⟩:=y2
   have t':m=.bool f':=t
   clear t;subst t'
   exact⟨Li _ r.bool_i,x2.st.keep,x2.st.os,x2.st.gens⟩
  |_=>exact y2.elim
 |_=>exact y1.elim
def Ye {Lo:Env}:Nl (EA.deeper Lo) 300:=⟨C,by refine(?_:EA.depth+1+2*300+1<DZ);decide,by refine(?_:EA.units+3+8*300+200<DL);decide⟩
def fin_glue {p:CG} {loose:D Lf} {mean mean':ExcName→Lc q4} {mg mb:Lf→Lc q4} {s₁:q7} {c:ClaimW} {cl:Lf→Lc w_} {args:D WData} {nm:Lf} {sc:w7} {fa:w_} {cd:q4} {h₁:y9} {tk:Q}
  {st0:Q9} {rest:D Q9} {xs xl xt kc ks kl:Lf} {p1 p2 p3 p4 p5 p6 p7 p8 p9 p10 p11 p12 p13 p14:Pos} {k1 k2 k3 k4 k5 k6:Q} {sa:w_} {vs:D q4} {ns:D g'} {mm:Lf→Lc q4} {E:q4→q7→Prop}
  (hp:TK) (T:Top p loose mean mg mb s₁.heap) (KX:(KH w.params).In s₁.heap) (hg:s₁.gens=(D.toArray [])) (hL:s₁.heap.IsList sa vs.toArray) (hI:IntsAre vs ns) (hz:¬(((63:Q):g')<(ns.length:g'))) (F:Fr s₁.heap s₁.heap.objs.size h₁ mm)
  (hm:mm xs=R (.ref sa)) (hst:st0=.Assign [.Name xt p7] (.Dict [R<|.Constant (.str kc) k2 p8,R<|.Constant (.str ks) k3 p9,R<|.Constant (.str kl) k4 p10] [.Call (.Name xl p1) [.Subscript (.Name xs p2) (.Slice Z (R<|.Constant (.int 60) k1 p3) Z p4) p5] [] p6,.Constant (.int 0) k5 p11,.Constant (.int 9) k6 p12] p13) p14)
  (U':sB kc "cells"=f') (hs:sB ks "spot"=f') (hl:sB kl "left"=f') (hb:gB sc xl (Ot 7)=f') (hv:vB PQ 0 xs=f') (ht:vB PQ 1 xt=f') (hsc:TI sc PQ=f') (z_:mV PP 1 PQ sc (.B rest)=f')
  (q1:∀cls,c.raises args cls=La) (q2:c.post args (.bool f') args=f'):
  q9 (model prog w) (EA.deeper<|envOf nm sc s₁.heap.objs.size fa cd) (execs (st0::rest)<|envOf nm sc s₁.heap.objs.size fa cd) (λf s'=>GoodW c cl mean' args s₁ (.ok<|.ret<|match f with| .ret v=>v|_=>.none) s') E
   {heap:=h₁,gens:=s₁.gens,drawn:=s₁.drawn,toks:=tk,os:=s₁.os}:=by
 have z9:zN<|N5 prog w s₁.heap s₁.os 2000000:=zrb KX T.g T.b T.builtins T.nolimit
 refine jk hv λhv hd=>jk ht λht H=>?_
 have s:=Jd hsc
 obtain⟨cs,hc60,ec⟩:=zre ns
 obtain⟨ρ',hrun⟩:=hp cs hc60
 have n0:s₁.heap.get? s₁.heap.objs.size=Z:=by
  induction q:s₁.heap.get? s₁.heap.objs.size with
  |Z=>rfl
  |R o=>exact Lg (Z2 q)<|V0 _
 refine kL (q5 (zbe (Lo:=envOf nm sc s₁.heap.objs.size fa cd) (A:=EA.deeper<|envOf nm sc s₁.heap.objs.size fa cd) (s:={heap:=h₁,gens:=s₁.gens,drawn:=s₁.drawn,toks:=tk,os:=s₁.os}) (B:=N5 prog w s₁.heap s₁.os 2000000) (n:=300) (T:=PP) (ρ':=ρ') (ns:=ns) (vs:=vs) (sa:=sa) (mm:=mm) z9 (by refine rq ec ?_;exact hrun) hst (ju U') (ju hs) (ju hl) (Kv (m_ z9) hb C) hv hd ht ⟨C,C,C,s.2.1,s.2.2.2.2.1⟩ n0 s.2.2.2.2.2
  Ye F.keep hg C F.ns hm (kR hL λo e=>F.keep _ _ e:h₁.IsList sa vs.toArray) hI (ur hz) (pQ (m_ z9) z9 R5 (zjx z9 300) _ _ _ _ _ z_)) (λf s' h=>?_) λH H x=>x)
 clear hp T KX hg hL hI hz F hm hst U' hs hl hb hsc z_ z9 hv hd ht s hc60 ec hrun n0;obtain⟨C,T',h3,h4⟩:=h
 exact⟨.inl ⟨_,_,_,C,q1,.bool _,q2,λH=>⟨D.nodup_nil,λa ha=>nomatch ha⟩⟩,T',h3,h4⟩
end
namespace L
mutual namespace A
abbrev W:Q:=2000000
def hW:1000001≤W:=Z5 C
nonrec abbrev Sx:=D Q
mutual
inductive Nd where
 |name (x:Sx)
 |num (k:Q)
 |con (x:Sx)
 |un (h:Sx) (a:Nd)
 |bin (s:Sx) (a b:Nd)
 |arrow (l r:Sx) (a b:Nd)
 |box (a:Nd) (as:D Nd)
 |ite (a b c:Nd)
 |quant (q:Sx) (ds:D Dc) (a:Nd)
 |lett (x:Sx) (v a:Nd)
 |block (as:D Nd)
 |compr (ds:D Dc) (a:Nd)
inductive Dc where
 |mk (dj:Ld) (xs:D Sx) (mu:Sx) (a:Nd)
end
abbrev Nc:Dc→Nd| .mk _ _ _ a=>a
def Nd.ind {P:Nd→Prop} (name:∀x,P<|.name x) (num:∀k,P<|.num k) (con:∀x,P<|.con x) (un:∀h a,P a→P (.un h a)) (bin:∀s a b,P a→P b→P (.bin s a b)) (arrow:∀l r a b,P a→P b→P (.arrow l r a b))
  (box:∀a as,P a→(∀b∈as,P b)→P (.box a as)) (ite:∀a b c,P a→P b→P c→P (.ite a b c)) (quant:∀q ds a,(∀d∈ds,P<|Nc d)→P a→P (.quant q ds a)) (lett:∀x v a,P v→P a→P (.lett x v a)) (block:∀as,(∀b∈as,P b)→P (.block as)) (compr:∀ds a,(∀d∈ds,P<|Nc d)→P a→P (.compr ds a)) (d:Nd):P d:=
 Nd.rec (motive_1:=P) (motive_2:=λd=>P<|Nc d) (motive_3:=λas=>∀b∈as,P b) (motive_4:=λds=>∀d∈ds,P<|Nc d) name num con un bin arrow box ite quant lett block compr (λH H H H h=>h) (λH h=>nomatch h) (λH H h t=>Q_.mpr ⟨h,t⟩) (λH h=>nomatch h) (λH H h t=>Q_.mpr ⟨h,t⟩) d
nonrec abbrev OW:Sx:=Fz
nonrec abbrev au:Sx:=HF
nonrec abbrev av:Sx:="un"
nonrec abbrev Pq:Sx:="bin"
nonrec abbrev NT:Sx:=Iv
nonrec abbrev R6:Sx:="box"
nonrec abbrev na:Sx:="if"
nonrec abbrev Pr:Sx:=Iu
nonrec abbrev NU:Sx:=HE
nonrec abbrev Nq:Sx:=Iw
nonrec abbrev Ou:Sx:="compr"
mutual
abbrev IF:Nd→MV→Prop
 | .name x,m=>∃s:g',m=.tup [.str OW,.int s,.str x]
 | .num k,m=>∃s:g',m=.tup [.str au,.int s,.int (k:Q)]
 | .con x,m=>∃s:g',m=.tup [.str x,.int s]
 | .un h a,m=>∃(s:g') (ma:MV),m=.tup [.str av,.int s,.str h,ma]∧IF a ma
 | .bin o a b,m=>∃(s:g') (ma mb:MV),m=.tup [.str Pq,.int s,.str o,ma,mb]∧IF a ma∧IF b mb
 | .arrow l r a b,m=>∃(s:g') (ma mb:MV),m=.tup [.str NT,.int s,.str l,.str r,ma,mb]∧IF a ma∧IF b mb
 | .box a as,m=>∃(s:g') (ma:MV) (ms:D MV),m=.tup [.str R6,.int s,ma,.tup ms]∧IF a ma∧Nx as ms
 | .ite a b c,m=>∃(s:g') (ma mb mc:MV),m=.tup [.str na,.int s,ma,mb,mc]∧IF a ma∧IF b mb∧IF c mc
 | .quant q ds a,m=>∃(s:g') (ms:D MV) (ma:MV),m=.tup [.str Pr,.int s,.str q,.tup ms,ma]∧HK ds ms∧IF a ma
 | .lett x v a,m=>∃(s:g') (mv ma:MV),m=.tup [.str NU,.int s,.str x,mv,ma]∧IF v mv∧IF a ma
 | .block as,m=>∃(s:g') (ms:D MV),m=.tup [.str Nq,.int s,.tup ms]∧Nx as ms
 | .compr ds a,m=>∃(s:g') (ms:D MV) (ma:MV),m=.tup [.str Ou,.int s,.tup ms,ma]∧HK ds ms∧IF a ma
abbrev Nx:D Nd→D MV→Prop
 |[],ms=>ms=[]
 |a::as,ms=>∃(m:MV) (ms':D MV),ms=m::ms'∧IF a m∧Nx as ms'
abbrev TL:Dc→MV→Prop
 | .mk dj xs mu a,m=>∃(s:g') (ma:MV),m=.tup [.int s,.bool dj,.tup<|xs.map .str,.str mu,ma]∧IF a ma
abbrev HK:D Dc→D MV→Prop
 |[],ms=>ms=[]
 |a::as,ms=>∃(m:MV) (ms':D MV),ms=m::ms'∧TL a m∧HK as ms'
end
inductive Pc where
 |bl (c:Q)
 |nm (s:Sx)
 |nu (s:Sx)
 |sg (s:Sx)
abbrev Pc.ctorIdx (x:Pc):Q:=Pc.casesOn (motive:=λH=>Q) x (λH=>0) (λH=>1) (λH=>2) λH=>3
abbrev Pc.str:Pc→Sx
 | .bl c=>[c]
 | .nm s=>s
 | .nu s=>s
 | .sg s=>s
abbrev flat:D Pc→Sx
 |[]=>[]
 |p::ps=>p.str++flat ps
@[simp] def GD:flat []=[]:=C
@[simp] def F9 (p:Pc) (ps:D Pc):flat (p::ps)=p.str++flat ps:=C
@[simp] def Fo (a b:D Pc):flat (a++b)=flat a++flat b:=by induction a<;>simp[*]
nonrec abbrev sp:Pc:=.bl 32
abbrev Gk:D Sx:=[Fx,"no",Fy,FN,Gv]
abbrev I_ (h:Sx):g':=if h="!"then 5 else if h∈Gk then 7 else if h="#"∨h="-"then 9 else 17
abbrev Ir (s:Sx):g':=match zA s (Hd 4)with|R (.int i)=>i|_=>0
abbrev lv:Nd→g'
 | .quant ..=>0
 | .lett ..=>0
 | .bin s _ _=>Ir s
 | .un h _=>I_ h
 | .ite ..=>3
 | .arrow ..=>12
 | .box ..=>15
 |_=>18
abbrev N6 (s:Sx):D Pc:=if s="in"then [.nm s]else if s="!in"then [.sg "!",.nm "in"]else [.sg s]
abbrev zo (l:D<|D Pc):D Pc:=match l with
 |[]=>[]
 |a::r=>a++(r.map λb=>[.sg ",",sp]++b).flatten
def F6:(zo []=[])∧(∀(a:D Pc) (r:D<|D Pc),zo (a::r)=a++DW (CS (λb=>[Pc.sg ",",sp]++b) r)):=⟨C,λH H=>C⟩
abbrev qz (l:D<|D Pc):D Pc:=match l with
 |[]=>[]
 |a::r=>a++(r.map λb=>sp::b).flatten
def Ii:(qz []=[])∧(∀(a:D Pc) (r:D<|D Pc),qz (a::r)=a++DW (CS (λb=>sp::b) r)):=⟨C,λH H=>C⟩
abbrev wy (a:D Pc):D Pc:=[.sg "("]++a++[.sg ")"]
abbrev zZ (l k:g') (a:D Pc):D Pc:=if k≤l then a else wy a
abbrev js (s:Sx):g':=if s="=>"∨Ir s=6 then Ir s+1 else if s="."then 15 else Ir s
abbrev jv (s:Sx):g':=if s="=>"then Ir s else Ir s+1
abbrev kg (s:Sx):D Pc:=if s="."then []else [sp]
abbrev zF (w:Sx):D Pc:=if w=[]then []else [.nm w,sp]
abbrev qu (a:D Pc):D Pc:=match flat a with
 |45::_=>wy a
 |_=>a
abbrev vr (xs:D Sx):D Pc:=zo<|xs.map λx=>[.nm x]
mutual
abbrev Ge:Nd→D Pc
 | .name x=>[.nm x]
 | .num k=>[.nu<|zW k]
 | .con x=>[.nm x]
 | .un h a=>(if h∈Gk then [.nm h,sp]else [.sg h])++zZ (lv a) (if h="-"then 10 else I_ h) (Ge a)
 | .bin s a b=>zZ (lv a) (js s) (Ge a)++kg s++N6 s++kg s++zZ (lv b) (jv s) (Ge b)
 | .arrow l r a b=>zZ (lv a) 12 (Ge a)++(if l=[]then []else [sp,.nm l])++[sp,.sg "->",sp]++zF r++zZ (lv b) 13 (Ge b)
 | .box a as=>zZ (lv a) 15 (Ge a)++[.sg "["]++zo (FX as)++[.sg "]"]
 | .ite a b c=>zZ (lv a) 4 (Ge a)++[sp,.sg "=>",sp]++zZ (lv b) 4 (Ge b)++[sp,.nm GH,sp]++zZ (lv c) 3 (Ge c)
 | .quant q ds a=>[.nm q,sp]++zo (FM ds)++[sp,.sg "|",sp]++Ge a
 | .lett x v a=>[.nm HE,sp,.nm x,sp,.sg "=",sp]++Ge v++[sp,.sg "|",sp]++Ge a
 | .block as=>FA<|FX as
 | .compr ds a=>[.sg "{",sp]++zo (FM ds)++[sp,.sg "|",sp]++Ge a++[sp,.sg "}"]
abbrev FX:D Nd→D (D Pc)
 |[]=>[]
 |a::as=>Ge a::FX as
abbrev Mm:Dc→D Pc
 | .mk dj xs mu a=>(if dj then [.nm GF,sp]else [])++vr xs++[.sg ":",sp]++zF mu++zZ (lv a) 8 (Ge a)
abbrev FM:D Dc→D (D Pc)
 |[]=>[]
 |a::as=>Mm a::FM as
abbrev FA:D (D Pc)→D Pc
 |[]=>[.sg "{",sp,.sg "}"]
 |a::as=>[.sg "{",sp]++qz ((a::as).map qu)++[sp,.sg "}"]
end
def FK:(∀(x_1:Sx),Ge (Nd.name x_1)=[Pc.nm x_1])∧(∀(k:Q),Ge (Nd.num k)=[Pc.nu<|zW ↑k])∧(∀(x_1:Sx),Ge (Nd.con x_1)=[Pc.nm x_1])∧(∀(h:Sx) (a:Nd),Ge (Nd.un h a)=(if h∈Gk then [Pc.nm h,sp]else [Pc.sg h])++zZ (lv a) (if h="-"then 10 else I_ h) (Ge a))∧(∀(s:Sx) (a b:Nd),Ge (Nd.bin s a b)=zZ (lv a) (js s) (Ge a)++kg s++N6 s++kg s++zZ (lv b) (jv s) (Ge b))∧(∀(l r:Sx) (a b:Nd),Ge (Nd.arrow l r a b)=(zZ (lv a) 12 (Ge a)++if l=[]then []else [sp,Pc.nm l])++[sp,Pc.sg "->",sp]++zF r++zZ (lv b) 13 (Ge b))∧(∀(a:Nd) (as:D Nd),Ge (Nd.box a as)=zZ (lv a) 15 (Ge a)++[Pc.sg "["]++zo (FX as)++[Pc.sg "]"])∧(∀(a b c:Nd),Ge (Nd.ite a b c)=zZ (lv a) 4 (Ge a)++[sp,Pc.sg "=>",sp]++zZ (lv b) 4 (Ge b)++[sp,Pc.nm GH,sp]++zZ (lv c) 3 (Ge c))∧(∀(q:Sx) (ds:D Dc) (a:Nd),Ge (Nd.quant q ds a)=[Pc.nm q,sp]++zo (FM ds)++[sp,Pc.sg "|",sp]++Ge a)∧(∀(x_1:Sx) (v a:Nd),Ge (Nd.lett x_1 v a)=[Pc.nm HE,sp,Pc.nm x_1,sp,Pc.sg "=",sp]++Ge v++[sp,Pc.sg "|",sp]++Ge a)∧(∀(as:D Nd),Ge (Nd.block as)=FA (FX as))∧(∀(ds:D Dc) (a:Nd),Ge (Nd.compr ds a)=[Pc.sg "{",sp]++zo (FM ds)++[sp,Pc.sg "|",sp]++Ge a++[sp,Pc.sg "}"]):=⟨λH=>C,λH=>C,λH=>C,λH H=>C,λH H H=>C,λH H H H=>C,λH H=>C,λH H H=>C,λH H H=>C,λH H H=>C,λH=>C,λH H=>C⟩
def Ny:(FX []=[])∧(∀(a:Nd) (as:D Nd),FX (a::as)=Ge a::FX as):=⟨C,λH H=>C⟩
def PW:(∀(dj:Ld) (xs:D Sx) (mu:Sx) (a:Nd),Mm (Dc.mk dj xs mu a)=(if dj=f' then [Pc.nm GF,sp]else [])++vr xs++[Pc.sg ":",sp]++zF mu++zZ (lv a) 8 (Ge a)):=λH H H H=>C
def HL:(FM []=[])∧(∀(a:Dc) (as:D Dc),FM (a::as)=Mm a::FM as):=⟨C,λH H=>C⟩
def IM:(FA []=[Pc.sg "{",sp,Pc.sg "}"])∧(∀(a:D Pc) (r:D<|D Pc),FA (a::r)=[Pc.sg "{",sp]++qz (CS qu<|a::r)++[sp,Pc.sg "}"]):=⟨C,λH H=>C⟩
nonrec abbrev pp (d:Nd):Sx:=flat<|Ge d
mutual
abbrev ht:Nd→Q
 | .un _ a=>ht a+1
 | .bin _ a b=>max (ht a) (ht b)+1
 | .arrow _ _ a b=>max (ht a) (ht b)+1
 | .box a as=>max (ht a) (htL as)+1
 | .ite a b c=>max (ht a) (max (ht b)<|ht c)+1
 | .quant _ ds a=>max (htDL ds) (ht a)+1
 | .lett _ v a=>max (ht v) (ht a)+1
 | .block as=>htL as+1
 | .compr ds a=>max (htDL ds) (ht a)+1
 |_=>0
abbrev htL:D Nd→Q
 |[]=>0
 |a::as=>max (ht a)<|htL as
abbrev htD:Dc→Q
 | .mk _ _ _ a=>ht a
abbrev htDL:D Dc→Q
 |[]=>0
 |a::as=>max (htD a)<|htDL as
end
def nf:(∀(dj:Ld) (xs:D Sx) (mu:Sx) (a:Nd),htD (Dc.mk dj xs mu a)=ht a):=λH H H H=>C
def ng:(htL []=0)∧(∀(a:Nd) (as:D Nd),htL (a::as)=max (ht a) (htL as)):=⟨C,λH H=>C⟩
def gQ:(htDL []=0)∧(∀(a:Dc) (as:D Dc),htDL (a::as)=max (htD a) (htDL as)):=⟨C,λH H=>C⟩
abbrev MN:D Sx:=["a","b","this","o/next",Io]
abbrev HA:D Sx:=["+","-","&",".","++","<:",":>","=","!=","in","!in","<",">","<=",">=","&&","||","=>","<=>"]
abbrev Nf:D Sx:=["~","^","*","#","-","!",Fx,"no",Fy,FN,Gv]
abbrev Oa:D Sx:=[[],FN,Fy,Fx,Gv]
abbrev GE:D Sx:=[[],FN,Fy,Fx]
abbrev Gq:D Sx:=["all",Fx,"no",Fy,FN,"sum"]
abbrev IN:D Sx:=[Ho,Hq,Hr]
abbrev Rj:D Sx:=["x","y"]
abbrev R7:D<|D Sx:=[["x"],["y","z"],["z"]]
mutual
abbrev Wf:Nd→Prop
 | .name x=>x∈MN
 | .num k=>k<20
 | .con x=>x∈IN
 | .un h a=>h∈Nf∧Wf a
 | .bin s a b=>s∈HA∧Wf a∧Wf b
 | .arrow l r a b=>l∈GE∧r∈GE∧Wf a∧Wf b
 | .box a as=>Wf a∧PX as∧as.length≤2
 | .ite a b c=>Wf a∧Wf b∧Wf c
 | .quant q ds a=>q∈Gq∧MT ds∧ds.length≤2∧ds≠[]∧Wf a
 | .lett x v a=>x∈Rj∧Wf v∧Wf a
 | .block as=>PX as∧as.length≤2
 | .compr ds a=>MT ds∧ds.length≤2∧ds≠[]∧Wf a
abbrev PX:D Nd→Prop
 |[]=>True
 |a::as=>Wf a∧PX as
abbrev PY:Dc→Prop
 | .mk _ xs mu a=>xs∈R7∧mu∈Oa∧Wf a
abbrev MT:D Dc→Prop
 |[]=>True
 |a::as=>PY a∧MT as
end
end
mutual section
variable {P:Pg} {cl:HM} {np:Q} {J ρ1 ρ2 ρ3 ρ4:Ev} {a b c t:X} {x y z:MV} {v:Th} {o:Ph} {oc:Oh} {bo:B1} {f i j k m M':Q} {es:X} {l ms:D MV} {r:Th} {w:Vw} {as:D Ar} {U ts':Ev}
def bn {α β:Type} {o:Lc α} {f:α→Lc β} {a:α} {r:Lc β} (h:o=R a) (k:f a=r):o.bind f=r:=by refine rq h ?_;exact k
def mp {α β:Type} {o:Lc α} {f:α→β} {a:α} {r:β} (h:o=R a) (k:f a=r):o.map f=R r:=by refine rq h ?_;exact Li R k
def zY (ha:E0 P cl a J=R (.d x,ρ1)) (hb:E0 P cl b ρ1=R (.d y,ρ2)) (hz:Pi o x y=R z):E0 P cl (.bin o a b) J=R (.d z,ρ2):=bn ha<|bn C<|bn hb<|bn C<|mp hz C
def qt {q:Ld} (ha:opn a (E0 P cl a) J=R (.d x,ρ1)) (hb:E0 P cl b ρ1=R (.d y,ρ2)) (hz:jE oc x y=R q):E0 P cl (.cmp oc a b) J=R (.d<|.bool q,ρ2):=bn (o:=opn a (E0 P cl a) J) ha<|bn hb<|bn C<|mp hz C
def qg (hp:Hw a=La) (ha:E0 P cl a J=R (v,ρ1)) (hv:v.vw=R w):opn a (E0 P cl a) J=R (w,ρ1):=by
 refine(?_:(if Hw a then(gD a J).map λv=>(v,J)else(E0 P cl a J).bind λx=>x.1.vw.map λv=>(v,x.2))=_)
 rw[Lj<|by rw[hp];decide]
 exact bn ha<|mp hv C
def Je {q:Ld} (ha:E0 P cl a J=R (.d<|.bool q,ρ1)):E0 P cl (.not a) J=R (.d<|.bool<|!q,ρ1):=bn ha<|mp (o:=HY<|.d<|.bool q) C C
def zi {q:Ld} (ha:E0 P cl a J=R (.d<|.bool f',ρ1)) (hb:E0 P cl b ρ1=R (.d<|.bool q,ρ2)):E0 P cl (.and a b) J=R (.d<|.bool q,ρ2):=bn ha<|bn (o:=HY<|.d<|.bool f') C<|bn hb<|mp (o:=HY<|.d<|.bool q) C C
def zu (ha:E0 P cl a J=R (.d<|.bool La,ρ1)):E0 P cl (.and a b) J=R (.d<|.bool La,ρ1):=bn ha<|bn (o:=HY<|.d<|.bool La) C C
def Kx {q:Ld} (ha:E0 P cl a J=R (.d<|.bool La,ρ1)) (hb:E0 P cl b ρ1=R (.d<|.bool q,ρ2)):E0 P cl (.or a b) J=R (.d<|.bool q,ρ2):=bn ha<|bn (o:=HY<|.d<|.bool La) C<|bn hb<|mp (o:=HY<|.d<|.bool q) C C
def qm (ht:E0 P cl t J=R (.d<|.bool f',ρ1)) (ha:E0 P cl a ρ1=R (v,ρ2)):E0 P cl (.ite t a b) J=R (v,ρ2):=bn ht<|bn (o:=HY<|.d<|.bool f') C ha
def qb (ht:E0 P cl t J=R (.d<|.bool La,ρ1)) (hb:E0 P cl b ρ1=R (v,ρ2)):E0 P cl (.ite t a b) J=R (v,ρ2):=bn ht<|bn (o:=HY<|.d<|.bool La) C hb
def ri {q:Ld} {u:Th} (ht:E0 P cl t J=R (.d<|.bool q,ρ1)) (ha:q=f'→E0 P cl a ρ1=R (u,ρ2)) (hb:q=La→E0 P cl b ρ1=R (u,ρ2)):E0 P cl (.ite t a b) J=R (u,ρ2):=by
 induction q
 ·exact qb ht<|hb C
 ·exact qm ht<|ha C
def Fb:Oi P cl .nil J=R ([],J):=C
def za (ha:E0 P cl a J=R (.d x,ρ1)) (hb:Oi P cl b ρ1=R (ms,ρ2)):Oi P cl (.cons a b) J=R (x::ms,ρ2):=bn ha<|bn C<|mp hb C
def zr (h:Oi P cl es J=R (ms,ρ1)) (hz:decide (ms.length≤Z1)=f'):E0 P cl (.tupD es) J=R (.d<|.tup ms,ρ1):=bn h<|Lh<|Lm hz
def Jf (h:Oi P cl es J=R (ms,ρ1)) (hz:decide (ms.length≤Z1)=f'):E0 P cl (.lstD es) J=R (.l ms,ρ1):=bn h<|Lh<|Lm hz
def yj (ha:opn a (E0 P cl a) J=R (.d<|.tup l,ρ1)) (hi:E0 P cl b ρ1=R (.d y,ρ2)) (hz:vf l y=R z):E0 P cl (.idx a b) J=R (.d z,ρ2):=bn (o:=opn a (E0 P cl a) J) ha<|bn C<|bn hi<|bn C<|mp hz C
def kU (ha:opn a (E0 P cl a) J=R (.l l,ρ1)) (hp:(Hw a&&!ON b)=La) (hi:E0 P cl b ρ1=R (.d y,ρ2)) (hz:vf l y=R z):E0 P cl (.idx a b) J=R (.d z,ρ2):=bn (o:=opn a (E0 P cl a) J) ha<|bn (Lj<|by refine rq hp ?_;decide)<|bn hi<|bn C<|mp hz C
def jI {x2 x3:MV} (ha:E0 P cl a J=R (.d x,ρ1)) (hb:E0 P cl b ρ1=R (.d x2,ρ2)) (U':E0 P cl c ρ2=R (.d x3,ρ3)) (hz:ZJ x x2 x3=R z):E0 P cl (.slc a b c) J=R (.d z,ρ3):=bn ha<|bn C<|bn hb<|bn C<|bn U'<|bn C<|mp hz C
def jJ (ha:opn a (E0 P cl a) J=R (w,ρ1)) (hz:aH bo w=R z):E0 P cl (.b1 bo a) J=R (.d z,ρ1):=bn (o:=opn a (E0 P cl a) J) ha<|mp hz C
def ZT (ha:E0 P cl a J=R (.d x,ρ1)) (hb:opn b (E0 P cl b) ρ1=R (w,ρ2)) (hi:w.items=R ms) (hz:xX x ms=R z):E0 P cl (.join a b) J=R (.d z,ρ2):=bn ha<|bn C<|bn (o:=opn b (E0 P cl b) ρ1) hb<|bn hi<|mp hz C
def zrf {x y:D Q} (ha:E0 P cl a J=R (.d<|.str x,ρ1)) (hb:E0 P cl b ρ1=R (.d<|.str y,ρ2)):E0 P cl (.stw a b) J=R (.d<|.bool<|decide (y<+:x),ρ2):=bn ha<|bn C<|bn hb<|bn C C
def Fk:Pl P cl .nil J=R ([],J):=C
def zf {ar:Ar} (ha:kM a (E0 P cl a) (Oc b) J=R (ar,ρ1)) (hb:Pl P cl b ρ1=R (as,ρ2)):Pl P cl (.cons a b) J=R (ar::as,ρ2):=bn (o:=kM a (E0 P cl a) (Oc b) J) ha<|mp hb C
def zep {ev:Ev→Lc (Th×Ev)} {q:Ld} (h:Hw a=La):kM a ev q J=(ev J).bind λ(x,J)=>match x with
 | .d m=>R (.v<|.d m,J)
 |x=>if q then R (.v x,J)else Z:=by
 induction a<;>first|rfl|contradiction
def jw (hv:Hw a=La) (ha:E0 P cl a J=R (.d x,ρ1)) {q:Ld}:kM a (E0 P cl a) q J=R (.v<|.d x,ρ1):=by
 exact(zep hv).trans (bn ha C)
def zM (ha:Pl P cl es J=R (as,ρ1)) (ht:GK as ρ1=R (U,ρ2)) (U':cl f U=R (r,ts')):E0 P cl (.call f es) J=R (r,Id as ts' ρ2):=bn ha<|bn (o:=GK as ρ1) ht<|bn U' C
def jm {c:Q} (Y:Kb J j=R c) (T':P.mt c m=R f) (ha:Pl P cl es J=R (as,ρ1)) (ht:GK (.s j::as) ρ1=R (U,ρ2)) (U':cl f U=R (r,ts')) (hb:Id (.s j::as) ts' ρ2=ρ3):E0 P cl (.meth j m es) J=R (r,ρ3):=bn (o:=Kb J j) Y<|bn T'<|bn ha<|bn (o:=GK (.s j::as) ρ1) ht<|bn U'<|Li (λq=>R (r,q)) hb
def wn (ha:Pl P cl es J=R (as,ρ1)) (ht:GK as ρ1=R (U,ρ2)) (U':cl f U=R (r,ts')) (hb:Id as ts' ρ2=ρ3):E0 P cl (.call f es) J=R (r,ρ3):=bn ha<|bn (o:=GK as ρ1) ht<|bn U'<|Li (λq=>R (r,q)) hb
def kV {q:Q} {rs:D MV} (ha:opn a (E0 P cl a) J=R (w,ρ1)) (hi:w.items=R l) (hz:l.length≤1000000) (hm:Qu (λm=>(jh q m).bind λρc=>(E0 P cl b ρc).bind λ(y,_)=>y.dat) l=R rs):
  E0 P cl (.comp q a b) J=R (.l rs,ρ1):=bn (o:=opn a (E0 P cl a) J) ha<|bn hi<|(Lh hz).trans<|mp hm C
variable {s s1 s2:S} {fl:Fw} {e:X}
def zc (ha:Fc P cl W np s1 J=R (.nx,ρ1)) (hb:Fc P cl W np s2 ρ1=R (fl,ρ2)):Fc P cl W np (.seq s1 s2) J=R (fl,ρ2):=bn ha hb
def zq (ha:Fc P cl W np s1 J=R (.rt r,ρ1)):Fc P cl W np (.seq s1 s2) J=R (.rt r,ρ1):=bn ha C
def E8:Fc P cl W np .skip J=R (.nx,J):=C
def yk (he:E0 P cl e J=R (v,ρ1)) (hi:decide (np≤i∧i<ρ1.length)=f'):Fc P cl W np (.asg i e) J=R (.nx,st ρ1 i v):=bn he<|Lh<|Lm hi
def jK (he:E0 P cl e J=R (v,ρ1)):Fc P cl W np (.ret e) J=R (.rt v,ρ1):=bn he C
def jA (he:E0 P cl e J=R (v,ρ1)):Fc P cl W np (.exp e) J=R (.nx,ρ1):=bn he C
def zl (he:E0 P cl t J=R (.d<|.bool f',ρ1)) (ha:Fc P cl W np s1 ρ1=R (fl,ρ2)):Fc P cl W np (.ite t s1 s2) J=R (fl,ρ2):=bn he<|bn (o:=HY<|.d<|.bool f') C ha
def zR (he:E0 P cl t J=R (.d<|.bool La,ρ1)) (ha:Fc P cl W np s2 ρ1=R (fl,ρ2)):Fc P cl W np (.ite t s1 s2) J=R (fl,ρ2):=bn he<|bn (o:=HY<|.d<|.bool La) C ha
def zb (he:E0 P cl t J=R (.d<|.bool La,ρ1)) (hb:Fc P cl W np s2 ρ1=R (fl,ρ2)):Fc P cl W np (.seq (.ite t s1 .skip) s2) J=R (fl,ρ2):=zc (zR he E8) hb
def zw (he:E0 P cl e J=R (v,ρ1)):Fc P cl W np (.seq (.ret e) s2) J=R (.rt v,ρ1):=zq<|jK he
def zG {s3 s4:S} (ht:E0 P cl t J=R (.d<|.bool f',ρ1)) (he:E0 P cl e ρ1=R (v,ρ2)):Fc P cl W np (.seq (.ite t (.seq (.ret e) s3) s4) s2) J=R (.rt v,ρ2):=zq<|zl ht<|zw he
def zt (he:E0 P cl e J=R (v,ρ1)) (hi:decide (np≤i∧i<ρ1.length)=f') (hb:Fc P cl W np s2 (st ρ1 i v)=R (fl,ρ2)):Fc P cl W np (.seq (.asg i e) s2) J=R (fl,ρ2):=zc (yk he hi) hb
def jO (he:E0 P cl e J=R (v,ρ1)) (hb:Fc P cl W np s2 ρ1=R (fl,ρ2)):Fc P cl W np (.seq (.exp e) s2) J=R (fl,ρ2):=zc (jA he) hb
def jo (h:qj (E0 P cl t) (Fc P cl W np s) W J=R (.nx,ρ1)) (hb:Fc P cl W np s2 ρ1=R (fl,ρ2)):Fc P cl W np (.seq (.whl t s) s2) J=R (fl,ρ2):=zc h hb
def zU {c:Q} (Y:Kb J j=R c) (T':P.mt c m=R f) (ht:GK [.s j] J=R (U,ρ2)) (U':cl f U=R (r,ts')) (hb:Id [.s j] ts' ρ2=ρ3):E0 P cl (.meth j m .nil) J=R (r,ρ3):=jm Y T' Fk ht U' hb
def qe {c:Q} {ar:Ar} (Y:Kb J j=R c) (T':P.mt c m=R f) (ha:kM a (E0 P cl a) f' J=R (ar,ρ1)) (ht:GK [.s j,ar] ρ1=R (U,ρ2)) (U':cl f U=R (r,ts')) (hb:Id [.s j,ar] ts' ρ2=ρ3):E0 P cl (.meth j m #[a]) J=R (r,ρ3):=jm Y T' (zf ha Fk) ht U' hb
def qP {ar:Ar} (ha:kM a (E0 P cl a) f' J=R (ar,ρ1)) (ht:GK [ar] ρ1=R (U,ρ2)) (U':cl f U=R (r,ts')) (hb:Id [ar] ts' ρ2=ρ3):E0 P cl (.call f #[a]) J=R (r,ρ3):=wn (zf ha Fk) ht U' hb
def xd {ar br:Ar} (ha:kM a (E0 P cl a) La J=R (ar,ρ1)) (hb':kM b (E0 P cl b) f' ρ1=R (br,ρ2)) (ht:GK [ar,br] ρ2=R (U,ρ3)) (U':cl f U=R (r,ts')) (hb:Id [ar,br] ts' ρ3=ρ4):E0 P cl (.call f #[a,b]) J=R (r,ρ4):=wn (zf ha<|zf hb' Fk) ht U' hb
def ze {q:Ld} (hp:Hw a=La) (ha:E0 P cl a J=R (v,ρ1)) (hv:v.vw=R (.d x)) (hb:E0 P cl b ρ1=R (.d y,ρ2)) (hz:jE oc x y=R q):E0 P cl (.cmp oc a b) J=R (.d<|.bool q,ρ2):=qt (qg hp ha hv) hb hz
def GS:ac P cl .nil J=R ([],J):=C
def zx {vs:D Th} (ha:E0 P cl a J=R (v,ρ1)) (hb:ac P cl b ρ1=R (vs,ρ2)):ac P cl (.cons a b) J=R (v::vs,ρ2):=bn ha<|mp hb C
def qA {is:D Q} {vs:D Th} (he:ac P cl es J=R (vs,ρ1)) (hp:jU np is vs ρ1=R ρ2):Fc P cl W np (.asgT is es) J=R (.nx,ρ2):=bn he<|mp hp C
def kW {is:D Q} (he:E0 P cl e J=R (.d<|.tup l,ρ1)) (hp:jU np is (l.map .d) ρ1=R ρ2):Fc P cl W np (.unp is e) J=R (.nx,ρ2):=bn he<|mp hp C
def xe {fl:Fl} (he:Qv e (E0 P cl e) J=R (v,ρ1)) (hf:v.fl=R fl) (hs:ye ρ1 k j i fl=R ρ2):Fc P cl W np (.setF k j i e) J=R (.nx,ρ2):=bn (o:=Qv e (E0 P cl e) J) he<|bn hf<|mp hs C
def zjy (hx:jP J k j i=R (.d x)) (he:E0 P cl e J=R (.d y,ρ1)) (hz:Pj o x y=R z) (hs:ye ρ1 k j i (.d z)=R ρ2):Fc P cl W np (.augF k j i o e) J=R (.nx,ρ2):=by refine(?_:(match jP J k j i with|R (.d x)=>(E0 P cl e J).bind λy=>y.1.dat.bind λz=>(Pj o x z).bind λz=>(ye y.2 k j i<|.d z).map λJ=>(Fw.nx,J)|_=>Z)=_);refine rq hx ?_;exact bn he<|bn C<|bn hz<|mp hs C
def zrg (hx:gt J i=R (.d x)) (he:E0 P cl e J=R (.d y,ρ1)) (hz:Pj o x y=R z) (hi:decide (np≤i∧i<ρ1.length)=f'):Fc P cl W np (.aug i o e) J=R (.nx,st ρ1 i<|.d z):=by refine(?_:(match gt J i with|R (.d x)=>(E0 P cl e J).bind λy=>y.1.dat.bind λz=>(Pj o x z).bind λz=>if np≤i∧i<y.2.length then R (Fw.nx,st y.2 i<|.d z)else Z|_=>Z)=_);refine rq hx ?_;exact bn he<|bn C<|bn hz<|Lh<|Lm hi
def vt {l0:D MV} (h0:gt J j=R (.l l0)) (he:E0 P cl e J=R (.d x,ρ1)) (Y:gt ρ1 j=R (.l l)) (hz:l.length≤1000000):Fc P cl W np (.app j e) J=R (.nx,st ρ1 j<|.l<|l++[x]):=by refine(?_:(match gt J j with|R (.l _)=>(E0 P cl e J).bind λy=>y.1.dat.bind λm=>(match gt y.2 j with|R (.l l)=>if l.length≤1000000 then R (Fw.nx,st y.2 j<|.l<|l++[m])else Z|_=>Z)|_=>Z)=_);refine rq h0 ?_;refine bn he<|bn C ?_;refine(?_:(match gt ρ1 j with|R (.l l)=>if l.length≤1000000 then R (Fw.nx,st ρ1 j<|.l<|l++[x])else Z|_=>Z)=_);refine rq Y ?_;exact Lh hz
def zrh {l0 m0:D MV} (h0:gt J j=R (.l l0)) (he:E0 P cl e J=R (.l m0,ρ1)) (Y:gt ρ1 j=R (.l l)) (hz:l.length+m0.length≤1000000):Fc P cl W np (.ext j e) J=R (.nx,st ρ1 j<|.l<|l++m0):=by refine(?_:(match gt J j with|R (.l _)=>(E0 P cl e J).bind λy=>(match y.1,gt y.2 j with| .l m,R (.l l)=>if l.length+m.length≤1000000 then R (Fw.nx,st y.2 j<|.l<|l++m)else Z|_,_=>Z)|_=>Z)=_);refine rq h0 ?_;refine bn he ?_;refine(?_:(match Th.l m0,gt ρ1 j with| .l m,R (.l l)=>if l.length+m.length≤1000000 then R (Fw.nx,st ρ1 j<|.l<|l++m)else Z|_,_=>Z)=_);refine rq Y ?_;exact Lh hz
def Wm (h:qj (E0 P cl t) (Fc P cl W np s) W J=R (fl,ρ1)):Fc P cl W np (.whl t s) J=R (fl,ρ1):=h
def qn {T:Ev→Lc (Th×Ev)} {Bd:Ev→Lc (Fw×Ev)} {k:Q} (h:T J=R (.d<|.bool La,ρ1)):qj T Bd (k+1) J=R (.nx,ρ1):=bn h<|bn (o:=HY<|.d<|.bool La) C C
def qf {T:Ev→Lc (Th×Ev)} {Bd:Ev→Lc (Fw×Ev)} {k:Q} (h:T J=R (.d<|.bool f',ρ1)) (hb:Bd ρ1=R (.nx,ρ2)) (hr:qj T Bd k ρ2=R (fl,ρ3)):qj T Bd (k+1) J=R (fl,ρ3):=bn h<|bn (o:=HY<|.d<|.bool f') C<|bn hb hr
def zri {T:Ev→Lc (Th×Ev)} {Bd:Ev→Lc (Fw×Ev)} {k:Q} (h:T J=R (.d<|.bool f',ρ1)) (hb:Bd ρ1=R (.br,ρ2)):qj T Bd (k+1) J=R (.nx,ρ2):=bn h<|bn (o:=HY<|.d<|.bool f') C<|bn hb C
def nh {T:Ev→Lc (Th×Ev)} {Bd:Ev→Lc (Fw×Ev)} {k:Q} (h:T J=R (.d<|.bool f',ρ1)) (hb:Bd ρ1=R (.rt r,ρ2)):qj T Bd (k+1) J=R (.rt r,ρ2):=bn h<|bn (o:=HY<|.d<|.bool f') C<|bn hb C
end
mutual section
variable {n f:Q} {as J:Ev} {v:Th} {F:Fn}
def zd {as':Ev} (hF:gE f=R F) (hl:as.length=F.np) (he:Fc pg (EZ pg W n) W F.np F.body (as++Bm F.nl Z)=R (.rt v,J)) (hr:J.take F.np=as'):EZ pg W (n+1) f as=R (v,as'):=by
 exact bn (hF:pg.fn f=R F)<|(Lh hl).trans<|bn he<|rp hr C
def jx {as':Ev} (hF:gE f=R F) (hl:as.length=F.np) (he:Fc pg (EZ pg W n) W F.np F.body (as++Bm F.nl Z)=R (.nx,J)) (hr:J.take F.np=as'):EZ pg W (n+1) f as=R (.d .none,as'):=by
 exact bn (hF:pg.fn f=R F)<|(Lh hl).trans<|bn he<|rp hr C
end
mutual namespace A
def qr {a z8:Q} (h:a<z8):∃M,z8=M+1∧a≤M:=⟨z8 -1,(j'<|q0 (J2<|Q4 a) h).symm,BE h⟩
abbrev MP (n f:Q) (as:Ev) (r:MV):Prop:=EZ pg W n f as=R (.d r,as)
def qx {α β:Type} {f g:α→β} {l:D α} (h:l.map f=l.map g) {a:α} (m:a∈l):f a=g a:=W5.mp h a m
end
mutual section
variable {n:Q} {m:MV}
def zrj {d:Nd} (hd:IF d m) (w:Wf d):MP (n+2) 2 [FR m]<|.int<|lv d:=by
 cases d with
 |name x=>exact Fg hd λs e=>by refine rq e ?_;rfl
 |num x=>exact Fg hd λs e=>by refine rq e ?_;rfl
 |con x=>exact Fg hd λs e=>e▸qx (f:=λx=>EZ pg W (n+2) 2 [FI [.str x,.int s]]) (g:=λx=>R (.d<|.int 18,[FI [.str x,.int s]])) C w
 |un h a=>exact F4 hd λs ma e H=>e▸qx (f:=λh=>EZ pg W (n+2) 2 [FI [.str av,.int s,.str h,ma]]) (g:=λh=>R (.d<|.int<|I_ h,[FI [.str av,.int s,.str h,ma]])) C w.1
 |bin o a b=>exact II hd λs ma mb e H=>e▸qx (f:=λo=>EZ pg W (n+2) 2 [FI [.str Pq,.int s,.str o,ma,mb]]) (g:=λo=>R (.d<|.int<|Ir o,[FI [.str Pq,.int s,.str o,ma,mb]])) C w.1
 |arrow l r a b=>exact II hd λs ma mb e H=>by refine rq e ?_;rfl
 |box a as=>exact II hd λs ma mb e H=>by refine rq e ?_;rfl
 |ite a b c=>exact U9 hd λs ma mb mc e H=>by refine rq e ?_;rfl
 |quant q ds a=>exact II hd λs ma mb e H=>by refine rq e ?_;rfl
 |lett x v a=>exact II hd λs ma mb e H=>by refine rq e ?_;rfl
 |block as=>exact F4 hd λs ma e H=>by refine rq e ?_;rfl
 |compr ds a=>exact II hd λs ma mb e H=>by refine rq e ?_;rfl
def Jg {a b:Sx} (h:a.length+b.length≤1000000):Pi .add (.str a) (.str b)=R (.str<|a++b):=Lh<|q0 h<|by refine rq y_ ?_;decide
abbrev bd:Q→Q
 |0=>20
 |h+1=>4*bd h+200
def bdE:(bd 0=20)∧(∀(h:Q),bd (h+1)=4*bd h+200):=⟨C,λH=>C⟩
def qc {a b:Q} (h:a≤b):bd a≤bd b:=by
 induction h with
 |refl=>exact j2 _
 |step _ ih=>simp only[bdE];exact gi ih
def Wn (a:D Pc):(flat<|wy a).length=(flat a).length+2:=by simp[wy,Pc.str]
def qZ (l k:g') (a:D Pc):(flat<|zZ l k a).length≤(flat a).length+2:=by
 unfold zZ;split
 ·exact lJ omT
 ·rw[Wn];exact WZ omT
def zbg (a:D Pc):(flat<|qu a).length≤(flat a).length+2:=by
 unfold qu;split
 ·rw[Wn];exact WZ omT
 ·exact lJ omT
def R8:∀k:Q,k<20→(zW k).length≤2:=by decide
def Rk:∀x∈MN,x.length≤6:=by decide
def R9:∀x∈IN,x.length≤4:=by decide
def Rm:∀x∈Nf,x.length≤4:=by decide
def R_:∀x∈Oa,(flat<|zF x).length≤5:=by decide
def Nr:∀x∈GE,(flat<|zF x).length≤5∧x.length≤4:=by decide
def Ps:∀x∈Gq,x.length≤4:=by decide
def Sa:∀x∈Rj,x.length≤1:=by decide
def Rn:∀s∈HA,(flat<|kg s).length≤1∧(flat<|N6 s).length≤3:=by decide
def SG:∀x∈R7,(flat<|vr x).length≤4:=by decide
def Mv:∀(l:D<|D Pc) (b:Q),(∀a∈l,(flat a).length≤b)→(flat<|zo l).length≤l.length*(b+2)
 |[],b,_=>by simp[F6]
 |a::r,b,h=>by
  have Y:=h a<|j0 ..
  have:∀r:D<|D Pc,(∀a∈r,(flat a).length≤b)→(flat<|(r.map λb=>[.sg ",",sp]++b).flatten).length≤r.length*(b+2):=by
   intro r
   induction r with
   |nil=>intro _;simp
   |cons x r ih=>
    intro h
    have T':=ih λy hy=>h y<|q_ _ hy
    simp[Pc.str]at T'⊢
    rw[B4]
    exact dx (h x<|j0 ..) T'
  have T':=this r λy hy=>h y<|q_ _ hy
  simp[F6]at T'⊢
  rw[B4]
  exact gj Y T'
def Ro:∀(l:D<|D Pc) (b:Q),(∀a∈l,(flat a).length≤b)→(flat<|qz l).length≤l.length*(b+1)
 |[],b,_=>by simp[Ii]
 |a::r,b,h=>by
  have:∀r:D<|D Pc,(∀a∈r,(flat a).length≤b)→(flat<|(r.map λb=>sp::b).flatten).length≤r.length*(b+1):=by
   intro r
   induction r with
   |nil=>intro _;simp
   |cons x r ih=>
    intro h
    have T':=ih λy hy=>h y<|q_ _ hy
    simp[Pc.str]at T'⊢
    rw[B4]
    exact dy (h x<|j0 ..) T'
  have T':=this r λy hy=>h y<|q_ _ hy
  simp[Ii]at T'⊢
  rw[B4]
  exact t6 (h a<|j0 ..) T' omT
def Ia:∀as:D Nd,(FX as).length=as.length
 |[]=>by simp[Ny]
 |a::as=>by simp[Ny,Ia as]
def Hk:∀as:D Dc,(FM as).length=as.length
 |[]=>by simp[HL]
 |a::as=>by simp[HL,Hk as]
def Zl (l:D<|D Pc) (b:Q) (hl:l.length≤2) (h:∀a∈l,(flat a).length≤b):(flat<|FA l).length≤2*b+10:=by
 induction l with
 |nil=>simp[IM,Pc.str]
 |cons a as=>
  have:=Ro ((a::as).map qu) (b+2) (λx hx=>by
   refine E7 (J9.mp hx) λy hy e2=>?_
   clear hx;subst e2
   exact q0 (zbg y)<|j_ (h y hy) 2)
  rw[j9]at this
  simp only[IM,Fo,q8,F9,GD,Pc.str,j1,y0]
  exact dz (Z' _ hl:(a::as).length*(b+2+1)≤2*(b+3)) this
mutual
def IO:∀(d:Nd),Wf d→(pp d).length≤bd (ht d)
 | .name x,w=>by have:=Rk x w;simp only[pp,FK,F9,GD,Pc.str,Z8];exact Ga this omT
 | .num k,w=>by have:=R8 k w;simp only[pp,FK,F9,GD,Pc.str,Z8];exact Ga this omT
 | .con x,w=>by have:=R9 x w;simp only[pp,FK,F9,GD,Pc.str,Z8];exact Ga this omT
 | .un h a,w=>by
  have T':=IO a w.2
  simp only[pp,FK,Fo,q8]at T'⊢
  exact dA T' (Rm h w.1) (qZ (lv a) (if h="-"then 10 else I_ h)<|Ge a) (by split<;>simp[Pc.str]:(flat (if h∈Gk then [.nm h,sp]else [.sg h]:D Pc)).length≤h.length+1)
 | .bin s a b,w=>by
  have T':=IO a w.2.1
  have h3:=IO b w.2.2
  simp only[pp,FK,Fo,q8]at T' h3⊢
  exact zn2 (qc<|j8 (ht a)<|ht b) h3 T' (qc<|k_ (ht a)<|ht b) (qZ (lv b) (jv s)<|Ge b) (Rn s w.1)<|qZ (lv a) (js s)<|Ge a
 | .arrow l r a b,w=>by
  have T':=IO a w.2.2.1
  have h3:=IO b w.2.2.2
  simp only[pp,FK,Fo,q8,F9,GD,Pc.str,j1,y0]at T' h3⊢
  exact zn3 (qc<|j8 (ht a)<|ht b) h3 T' (qc<|k_ (ht a)<|ht b) (qZ (lv a) 12<|Ge a) (Nr l w.1) (qZ (lv b) 13<|Ge b) (Nr r w.2.1) (by split<;>simp[Pc.str]:(flat (if l=[]then []else [sp,.nm l]:D Pc)).length≤l.length+1)
 | .box a as,w=>by
  have T':=IO a w.1
  have h3:=PZ as w.2.1
  have h5:=Mv (FX as) _ h3
  rw[Ia]at h5
  simp only[pp,FK,Fo,q8,F9,GD,Pc.str,j1,y0]at T' h3⊢
  exact dC (qc<|j8 (ht a)<|htL as) (Z' _ w.2.2:as.length*(bd (htL as)+2)≤2*(bd (htL as)+2)) T' (qc<|k_ (ht a)<|htL as) h5<|qZ (lv a) 15<|Ge a
 | .ite a b c,w=>by
  have T':=IO a w.1
  have h3:=IO b w.2.1
  have h3':=IO c w.2.2
  simp only[pp,FK,Fo,q8,F9,GD,Pc.str,j1,y0]at T' h3 h3'⊢
  exact dD (qc<|q0 (j8 (ht b)<|ht c)<|j8 (ht a) _) h3' h3 (qc<|k_ (ht a)<|max (ht b)<|ht c) (qc<|q0 (k_ (ht b)<|ht c)<|j8 (ht a) _) T' (qZ (lv c) 3<|Ge c) (qZ (lv b) 4<|Ge b)<|qZ (lv a) 4<|Ge a
 | .quant q ds a,w=>by
  have h3:=IO a w.2.2.2.2
  have h5:=Mv (FM ds) _<|Ov ds w.2.1
  rw[Hk]at h5
  simp only[pp,FK,Fo,q8,F9,GD,Pc.str,j1,y0]at h3⊢
  exact dE (qc<|k_ (htDL ds)<|ht a) (Z' _ w.2.2.1:ds.length*(bd (htDL ds)+40+2)≤2*(bd (htDL ds)+40+2)) h3 (qc<|j8 (htDL ds)<|ht a) h5<|Ps q w.1
 | .lett x v a,w=>by
  have T':=IO v w.2.1
  have h3:=IO a w.2.2
  simp only[pp,FK,Fo,q8,F9,GD,Pc.str,j1,y0]at T' h3⊢
  exact dF (qc<|j8 (ht v)<|ht a) (qc<|k_ (ht v)<|ht a) h3 T'<|Sa x w.1
 | .block as,w=>by
  have h3:=Zl (FX as) _ (by rw[Ia];exact w.2)<|PZ as w.1
  simp only[pp,FK]at h3⊢
  exact dG h3
 | .compr ds a,w=>by
  have h3:=IO a w.2.2.2
  have h5:=Mv (FM ds) _<|Ov ds w.1
  rw[Hk]at h5
  simp only[pp,FK,Fo,q8,F9,GD,Pc.str,j1,y0]at h3⊢
  exact dH (qc<|k_ (htDL ds)<|ht a) (Z' _ w.2.1:ds.length*(bd (htDL ds)+40+2)≤2*(bd (htDL ds)+40+2)) h3 (qc<|j8 (htDL ds)<|ht a) h5
def PZ:∀(as:D Nd),PX as→∀p∈FX as,(flat p).length≤bd (htL as)
 |[],_,p,hp=>by simp[Ny]at hp
 |a::as,w,p,hp=>by
  simp only[Ny,w3]at hp
  rcases hp with C|hp
  ·exact q0 (IO a w.1)<|qc<|(@RJ _ _)
  ·exact q0 (PZ as w.2 p hp)<|qc<|(@RK _ _)
def gR:∀(d:Dc),PY d→(flat<|Mm d).length≤bd (htD d)+40
 | .mk dj xs mu a,w=>by
  have h3:=IO a w.2.2
  simp only[PW,pp,Fo,q8,nf,F9,GD,Pc.str,j1,y0]at h3⊢
  exact dI h3 (R_ mu w.2.1) (SG xs w.1) (qZ (lv a) 8<|Ge a) (by split<;>simp[Pc.str]:(flat (if dj=f' then [.nm GF,sp]else []:D Pc)).length≤5)
def Ov:∀(as:D Dc),MT as→∀p∈FM as,(flat p).length≤bd (htDL as)+40
 |[],_,p,hp=>by simp[HL]at hp
 |a::as,w,p,hp=>by
  simp only[HL,w3]at hp
  rcases hp with C|hp
  ·exact q0 (gR a w.1)<|j_ (qc<|(@RJ _ _)) _
  ·exact q0 (Ov as w.2 p hp)<|j_ (qc<|(@RK _ _)) _
end
def vv {f:MV→Lc MV} {l r:D MV} (h:F2 (λm x=>f m=R x) l r):Qu f l=R r:=F2.ind (P:=λl r=>Qu f l=R r) C (λH H H H p H i=>bn p<|mp i C) h
def Nz:∀U:D Sx,Il (U.map .str)=R U
 |[]=>rfl
 |t::U=>by simp only[w5,Il,Nz U,BC]
def NA:∀l:D<|D Pc,jz ", " (l.map flat)=flat (zo l)
 |[]=>rfl
 |[a]=>by simp[MR,F6]
 |a::b::l=>by
  have:=NA<|b::l
  simp only[w5]at this⊢
  simp only[MR,this]
  simp[F6,Pc.str]
def NB:∀l:D<|D Pc,jz " " (l.map flat)=flat (qz l)
 |[]=>rfl
 |[a]=>by simp[MR,Ii]
 |a::b::l=>by
  have:=NB<|b::l
  simp only[w5]at this⊢
  simp only[MR,this]
  simp[Ii,Pc.str]
def xf {sep:Sx} {U:D Sx} (hz:(U.map λp=>p.length+sep.length).sum≤1000000):xX (.str sep) (U.map .str)=R (.str<|jz sep U):=by
 have:(U.map λp=>p.length+sep.length).sum≤Z1:=by refine rq y_ ?_;exact Ga hz omT
 simp only[xX,Nz,B2,Lh this]
def zjz {U:D Sx} {b c:Q} (h:∀t∈U,t.length≤b):(U.map λp=>p.length+c).sum≤U.length*(b+c):=by
 induction U with
 |nil=>simp
 |cons t U ih=>
  (refine rq w5 ?_;refine rq D.sum_cons ?_;refine rq j1 ?_;rw[B4])
  exact fZ (h t<|j0 ..)<|ih λx hx=>h x (q_ _ hx)
nonrec abbrev Bz (x:Sx):Prop:=x.length≤900000
def TM {x y:Sx} (h:Bz<|x++y):Bz x:=q0 (by refine rq q8 ?_;exact Q8 ..) h
def SH {x y:Sx} (h:Bz<|x++y):Bz y:=q0 (by refine rq q8 ?_;exact K6 ..) h
def zs {P:Pg} {cl:HM} {J ρ1 ρ2:Ev} {a b:X} {x y:Sx} (ha:Bz x→E0 P cl a J=R (.d<|.str x,ρ1)) (hb:Bz y→E0 P cl b ρ1=R (.d<|.str y,ρ2)) (h:Bz<|x++y):E0 P cl (.bin .add a b) J=R (.d<|.str<|x++y,ρ2):=
 zY (ha<|TM h) (hb<|SH h) (Jg<|by refine rp q8 ?_;exact q0 h (by decide))
def Jh (l k:g') (a:D Pc):flat (zZ l k a)=if k≤l then flat a else "("++flat a++")":=by
 unfold zZ;split<;>simp[wy,Pc.str]
def zj0 {l k:g'} {a:D Pc} (h:Bz<|flat<|zZ l k a):Bz<|flat a:=by
 rw[Jh]at h
 split at h
 ·exact h
 ·exact SH<|TM h
nonrec abbrev aN (sp0:g') (ma:MV) (h:Sx) (x1 x2:Lc Th):Ev:=[FI [.str av,.int sp0,.str h,ma],x1,x2]
def zj1 {h:Sx} {sp0:g'} {ma:MV} {ta:Sx} (hs:h∈Nf) (ha:Bz ta→MP (n+1) 3 [FR ma,E9<|if h="-"then 10 else I_ h] (.str ta)) (hz:Bz<|flat (if h∈Gk then [.nm h,sp]else [.sg h])++ta):
  MP (n+2) 5 [FI [.str av,.int sp0,.str h,ma]] (.str<|flat (if h∈Gk then [.nm h,sp]else [.sg h])++ta):=
 zd (F:=NQ) C C (zc (qA (zx C<|zx (qx (f:=λh=>E0 pg (EZ pg W<|n+1) _<|aN sp0 ma h Z Z) (g:=λh=>R (.d<|.int<|I_ h,aN sp0 ma h Z Z)) C hs) GS) C) (zw (zs
  (λH=>qx (f:=λh=>E0 pg (EZ pg W<|n+1) _<|aN sp0 ma h (E6 h)<|E9<|I_ h) (g:=λh=>R (.d<|.str<|flat<|if h∈Gk then [.nm h,sp]else [.sg h],aN sp0 ma h (E6 h)<|E9<|I_ h)) C hs)
  (λz=>zM (zf C<|zf (jw C<|qx (f:=λh=>E0 pg (EZ pg W<|n+1) _<|aN sp0 ma h (E6 h)<|E9<|I_ h) (g:=λh=>R (.d<|.int<|if h="-"then 10 else I_ h,aN sp0 ma h (E6 h)<|E9<|I_ h)) C hs) Fk) C<|ha z) hz))) C
nonrec abbrev TO (sp0:g') (ma mb:MV) (s:Sx) (x1 x2 x3 x4 x5:Lc Th):Ev:=[FI [.str Pq,.int sp0,.str s,ma,mb],x1,x2,x3,x4,x5]
def SI:∀s∈HA,flat (N6 s)=s:=by decide
def aw {s:Sx} {sp0:g'} {ma mb:MV} {ta tb:Sx} (hs:s∈HA) (ha:Bz ta→MP (n+1) 3 [FR ma,E9<|js s] (.str ta)) (hb:Bz tb→MP (n+1) 3 [FR mb,E9<|jv s] (.str tb)) (hz:Bz<|ta++flat (kg s)++flat (N6 s)++flat (kg s)++tb):
  MP (n+2) 4 [FI [.str Pq,.int sp0,.str s,ma,mb]] (.str<|ta++flat (kg s)++flat (N6 s)++flat (kg s)++tb):=by
 rw[SI s hs]at hz⊢
 have h3:=qx (f:=λs=>E0 pg (EZ pg W<|n+1) (.ite (.or (.cmp .eq Fe<|Da "=>")<|.cmp .eq FD<|.glb<|.int 6) (.bin .add FD<|EY 1)<|.ite (.cmp .eq Fe<|Da ".") (.glb<|.int 15) FD)<|TO sp0 ma mb s (E6 s) (E9<|Ir s) Z Z Z) (g:=λs=>R (.d<|.int<|js s,TO sp0 ma mb s (E6 s) (E9<|Ir s) Z Z Z)) C hs
 have h4:=λx=>qx (f:=λs=>E0 pg (EZ pg W<|n+1) (.ite (.cmp .eq Fe<|Da "=>") FD<|.bin .add FD<|EY 1)<|TO sp0 ma mb s (E6 s) (E9<|Ir s) x Z Z) (g:=λs=>R (.d<|.int<|jv s,TO sp0 ma mb s (E6 s) (E9<|Ir s) x Z Z)) C hs
 have h5:=λx y=>qx (f:=λs=>E0 pg (EZ pg W<|n+1) (.ite (.cmp .eq Fe<|Da ".") (Da [])<|Da " ")<|TO sp0 ma mb s (E6 s) (E9<|Ir s) x y Z) (g:=λs=>R (.d<|.str<|flat<|kg s,TO sp0 ma mb s (E6 s) (E9<|Ir s) x y Z)) C hs
 generalize js s=L at ha h3
 generalize jv s=I' at hb h4
 generalize flat (kg s)=g at hz h5⊢
 exact zd (F:=NP) C C (zc (qA (zx C<|zx (qx (f:=λs=>E0 pg (EZ pg W<|n+1) (.call 0 #[.idx Ff<|EY 2])<|TO sp0 ma mb s Z Z Z Z Z) (g:=λs=>R (.d<|.int<|Ir s,TO sp0 ma mb s Z Z Z Z Z)) C hs) GS) C) (zt h3 C (zt (h4 _) C (zt (h5 _ _) C (zq (jK
  (zs (zs (zs (zs (λz=>zM (zf C<|zf C Fk) C<|ha z) λH=>C) λH=>C) λH=>C) (λz=>zM (zf C<|zf C Fk) C<|hb z) hz))))))) C
nonrec abbrev iY (sp0:g') (ma mb:MV) (l r:Sx) (x1 x2:Lc Th):Ev:=[FI [.str NT,.int sp0,.str l,.str r,ma,mb],x1,x2]
def zbh {l r:Sx} {sp0:g'} {ma mb:MV} {ta tb:Sx} (hl:l∈GE) (hr:r∈GE) (ha:Bz ta→MP n 3 [FR ma,E9 12] (.str ta)) (hb:Bz tb→MP n 3 [FR mb,E9 13] (.str tb)) (hz:Bz<|ta++flat (if l=[]then []else [sp,.nm l])++" -> "++flat (zF r)++tb):
  MP (n+1) 6 [FI [.str NT,.int sp0,.str l,.str r,ma,mb]] (.str<|ta++flat (if l=[]then []else [sp,.nm l])++" -> "++flat (zF r)++tb):=
 zd (F:=M3) C C (zt (qx (f:=λl=>E0 pg (EZ pg W n) _<|iY sp0 ma mb l r Z Z) (g:=λl=>R (.d<|.str<|flat<|if l=[]then []else [sp,.nm l],iY sp0 ma mb l r Z Z)) C hl) C
  (zt (qx (f:=λr=>E0 pg (EZ pg W n) _<|iY sp0 ma mb l r (E6<|flat<|if l=[]then []else [sp,.nm l]) Z) (g:=λr=>R (.d<|.str<|flat<|zF r,iY sp0 ma mb l r (E6<|flat<|if l=[]then []else [sp,.nm l]) Z)) C hr) C (zq (jK
  (zs (zs (zs (zs (λz=>zM (zf C<|zf C Fk) C<|ha z) λH=>C) λH=>C) λH=>C) (λz=>zM (zf C<|zf C Fk) C<|hb z) hz))))) C
nonrec abbrev nj (dj:Ld):Sx:=flat<|if dj then [.nm GF,sp]else []
nonrec abbrev gS (sp0:g') (dj:Ld) (ma:MV) (xs:D Sx) (mu:Sx) (x:Lc Th):Ev:=[FI [.int sp0,.bool dj,.tup<|xs.map .str,.str mu,ma],GY dj,FI<|xs.map .str,E6 mu,FR ma,x]
def zeq {dj:Ld} {xs:D Sx} {mu:Sx} {sp0:g'} {ma:MV} {ta:Sx} (hx:xs∈R7) (hm:mu∈Oa) (ha:Bz ta→MP n 3 [FR ma,E9 8] (.str ta)) (hz:Bz<|nj dj++flat (vr xs)++": "++flat (zF mu)++ta):
  MP (n+1) 7 [FI [.int sp0,.bool dj,.tup<|xs.map .str,.str mu,ma]] (.str<|nj dj++flat (vr xs)++": "++flat (zF mu)++ta):=
 zd (F:=Nv) C C (zc (kW C C) (zt (qx (f:=λmu=>E0 pg (EZ pg W n) _<|gS sp0 dj ma xs mu Z) (g:=λmu=>R (.d<|.str<|flat<|zF mu,gS sp0 dj ma xs mu Z)) C hm) C (zq (jK
  (zs (zs (zs (zs (ρ1:=gS sp0 dj ma xs mu<|E6<|flat<|zF mu) (λH=>by induction dj<;>rfl) λH=>qx (f:=λxs=>E0 pg (EZ pg W n) _<|gS sp0 dj ma xs mu<|E6<|flat<|zF mu) (g:=λxs=>R (.d<|.str<|flat<|vr xs,gS sp0 dj ma xs mu<|E6<|flat<|zF mu)) C hx) λH=>C) λH=>C) (λz=>zM (zf C<|zf C Fk) C<|ha z) hz))))) C
abbrev Ow (n f:Q) (ms:D MV) (U:D Sx):Prop:=F2 (λm t=>MP n f [FR m]<|.str t) ms U
def Ow.map {f:Q} {ms:D MV} {U:D Sx} (h:Ow n f ms U):Qu (λm=>(jh 0 m).bind λρc=>(E0 pg (EZ pg W n) (.call f #[Ff]) ρc).bind λ(y,_)=>y.dat) ms=R (U.map .str):=by
 exact vv<|F2.ind (P:=λms U=>F2 (λm x=>((jh 0 m).bind λρc=>(E0 pg (EZ pg W n) (.call f #[Ff]) ρc).bind λ(y,_)=>y.dat)=R x) ms<|U.map .str) .nil (λm t H H p H i=>.cons (bn (a:=[FR m]) C<|bn (zM (zf C Fk) C p) C) i) h
def Ow.len {f:Q} {ms:D MV} {U:D Sx} (h:Ow n f ms U):ms.length=U.length:=F2.len h
def Ji {p q:D Pc} {r:D<|D Pc} (h:Bz<|flat (r.map λb=>q++b).flatten) (m:p∈r):Bz<|flat p:=by
 induction r with
 |nil=>cases m
 |cons b r ih=>
  rw[w5,W6,Fo,Fo]at h
  cases m with
  |head=>exact SH<|TM h
  |tail _ m=>exact ih (SH h) m
def wo {p:D Pc} {l:D<|D Pc} (h:Bz<|flat<|zo l) (m:p∈l):Bz<|flat p:=by
 cases l with
 |nil=>cases m
 |cons a r=>
  rw[zo,Fo]at h
  cases m with
  |head=>exact TM h
  |tail _ m=>exact Ji (SH h) m
def Zm {p:D Pc} {l:D<|D Pc} (h:Bz<|flat<|qz l) (m:p∈l):Bz<|flat p:=by
 cases l with
 |nil=>cases m
 |cons a r=>
  rw[qz,Fo]at h
  cases m with
  |head=>exact TM h
  |tail _ m=>exact Ji (q:=[sp]) (SH h) m
def rj {l:D<|D Pc} {c:Q} {f:D (D Pc)→D Pc} (hf:∀a b l,(flat<|f<|a::b::l).length=(flat a).length+c+(flat<|f<|b::l).length) (Y:∀a,flat (f [a])=flat a):((l.map flat).map λp=>p.length+c).sum≤(flat<|f l).length+c:=by
 cases l with
 |nil=>exact Q4 _
 |cons a l=>
  induction l generalizing a with
  |nil=>rw[Y];exact j2 _
  |cons b l ih=>
   (refine rq w5 ?_;refine rq w5 ?_;refine rq D.sum_cons ?_;rw[hf,Ca<|(flat a).length+c])
   exact Q6 (ih b) _
def Yf {l:D<|D Pc} (h:Bz<|flat<|zo l):((l.map flat).map λp=>p.length+", ".length).sum≤1000000:=q0 (rj (f:=zo) (c:=2) (λa b l=>by simp[F6,Pc.str];exact @gk _ _ _) λa=>by simp[F6])<|q0 (j_ h 2)<|by decide
def Yg {l:D<|D Pc} (h:Bz<|flat<|qz l):((l.map flat).map λp=>p.length+" ".length).sum≤1000000:=q0 (rj (f:=qz) (c:=1) (λa b l=>by simp[Ii,Pc.str];exact @gm _ _ _) λa=>by simp[Ii])<|q0 (j_ h 1)<|by decide
def iZ {a b:Q} (h:a=b) (hn:b≤50):a≤1000000:=h▸q0 hn (by decide)
def xg {l:D<|D Pc} (h:Bz<|flat<|zo l):xX (.str ", ") ((l.map flat).map .str)=R (.str<|flat<|zo l):=by rw[←NA];exact xf<|Yf h
def xh {ms:D MV} {l:D<|D Pc} (h:Ow n 7 ms<|l.map flat) (hn:l.length≤50) (hz:Bz<|flat<|zo l):MP (n+1) 8 [FI ms]<|.str<|flat<|zo l:=
 zd (F:=M4) C C (zw<|ZT C (qg C (kV C C (iZ (h.len.trans<|j9 _) hn) h.map) C) C<|xg hz) C
set_option tactic.hygienic true in
def Jj (a:D Pc):flat (qu a)=if("-":Sx)<+:flat a then "("++flat a++")"else flat a:=by
 unfold qu
 split
 ·rename_i r e
  rw[Lh<|by rw[e];exact⟨r,C⟩];simp[wy,Pc.str,e]
 ·rename_i h
  rw[Lj]
  exact λhr=>Fg hr λr hr=>h r hr.symm
nonrec abbrev rk:X:=.ite (.stw Ff<|Da "-") (.bin .add (.bin .add (Da "(") Ff)<|Da ")") Ff
def zj2 {a:D Pc} (h:Bz<|flat<|qu a):E0 pg (EZ pg W n) rk [E6<|flat a]=R (.d<|.str<|flat<|qu a,[E6<|flat a]):=by
 rw[Jj]at h⊢
 refine ri (zrf C C) (λe=>?_) λe=>?_
 ·rw[Lh<|Lm e]at h⊢
  exact zs (zs (λH=>C) λH=>C) (λH=>C) h
 ·refine rq (Lj<|of_decide_eq_false e) ?_;rfl
def zbj {ms:D MV} {l:D<|D Pc} (h:Ow n 11 ms<|l.map flat) (hn:l.length≤50) (hz:Bz<|flat<|qz<|l.map qu):MP (n+1) 9 [FI ms]<|.str<|flat<|qz<|l.map qu:=by
 have hm:∀{l:D<|D Pc},(∀p∈l.map qu,Bz<|flat p)→F2 (λm x=>((jh 0 m).bind λρc=>(E0 pg (EZ pg W n) rk ρc).bind λ(y,_)=>y.dat)=R x) ((l.map flat).map .str) (((l.map qu).map flat).map .str):=λ{l}=>by
  induction l with
  |nil=>exact λH=>.nil
  |cons a l ih=>exact λz=>.cons (bn (a:=[E6<|flat a]) C<|bn (zj2<|z _<|j0 ..) C)<|ih λp hp=>z p (q_ _ hp)
 exact zd (F:=M5) C C (zt (kV C C (iZ (h.len.trans<|j9 _) hn) h.map) C<|zw<|ZT C (qg C (kV (w:=.l<|(l.map flat).map .str) C C (iZ ((j9 _).trans<|j9 _) hn)<|vv<|hm λp hp=>Zm hz hp) C) C<|by rw[←NB];exact xf (Yg hz)) C
def Zn {ms:D MV} {l:D<|D Pc} (h:Ow n 11 ms<|l.map flat) (hn:l.length≤50) (hz:Bz<|flat<|FA l):MP (n+2) 10 [FI ms]<|.str<|flat<|FA l:=by
 have h9:=zbj h hn
 have hl:=h.len.trans<|j9 _
 induction l with
 |nil=>
  cases (h:ms=[])
  exact zd (F:=IJ) C C (zw C) C
 |cons a l=>
  have hl':ms.length≤Z1:=by refine rq y_ ?_;exact q0 (hl▸hn)<|by decide
  have e:flat (FA<|a::l)="{ "++flat (qz<|(a::l).map qu)++" }":=by simp[IM,Pc.str]
  rw[e]at hz⊢
  generalize flat (qz<|(a::l).map qu)=x at h9 hz⊢
  exact zd (F:=IJ) C C (zw<|qm (ze C (jJ (w:=.d<|.tup ms) (z:=.int (ms.length:Q)) C<|Lh hl') C C<|Li R<|Ll<|Z4.mpr<|hl▸Q.succ_pos _)<|zs (zs (λH=>C) λz=>zM (zf C Fk) C<|h9 z) (λH=>C) hz) C
nonrec abbrev gU (d:Nd):Prop:=∀(m:MV) (n:Q),IF d m→Wf d→5*ht d+6≤n→Bz (pp d)→MP n 11 [FR m] (.str<|pp d)
def yr {n k:Q} (h:k+4≤n):∃q,n=q+4∧k≤q:=⟨n -4,(j'<|q0 (K6 4 k) h).symm,BE h⟩
def i3 {a q:Q} (h:5*(a+1)+2≤q):5*a+6≤q:=q0 (Q6 (by decide:6≤7)<|5*a) h
def Jk {a b q:Q} (h:5*(max a b+1)+2≤q):5*a+6≤q:=i3<|q0 (j_ (y' 5<|J2<|k_ ..) 2) h
def Ky {a b q:Q} (h:5*(max a b+1)+2≤q):5*b+6≤q:=i3<|q0 (j_ (y' 5<|J2<|j8 ..) 2) h
def ru {a b c q:Q} (h:5*(max a (max b c)+1)+2≤q):5*(max b c+1)+2≤q:=q0 (j_ (y' 5<|J2<|j8 ..) 2) h
def wR {a q:Q} (k:Q) (h:5*a+6≤q):5*a+6≤q+k:=q0 h<|Q8 ..
def rz {a b q:Q} (h:5*max a b+6≤q):5*a+6≤q:=q0 (j_ (y' 5<|k_ ..) 6) h
def rA {a b q:Q} (h:5*max a b+6≤q):5*b+6≤q:=q0 (j_ (y' 5<|j8 ..) 6) h
def ja {d:Nd} {k:g'} {m:MV} {n:Q} (z_:gU d) (hn:5*ht d+6≤n) (hd:IF d m) (w:Wf d) (hz:Bz<|flat<|zZ (lv d) k<|Ge d):MP (n+1) 3 [FR m,E9 k]<|.str<|flat<|zZ (lv d) k<|Ge d:=by
 have h:=z_ m n hd w hn<|zj0 hz
 refine Fg (⟨n -2,(j'<|q0 (by decide:2≤6)<|q0 (K6 6 _) hn).symm⟩:∃q,n=q+2) λq e=>?_
 subst e
 rw[Jh]at hz⊢
 refine zd (F:=TF) (J:=[FR m,E9 k,E6<|flat<|Ge d]) C C (zt (zM (zf C Fk) C h) C<|zw<|ri (ze C (zM (zf C Fk) C<|zrj hd w) C C C) (λe=>?_) λe=>?_) C
 ·refine rq (Lh<|Lm e) ?_;rfl
 ·rw[Lj<|of_decide_eq_false e]at hz⊢
  exact zs (zs (λH=>C) λH=>C) (λH=>C) hz
def xi {as:D Nd} (z_:∀a∈as,gU a):∀{ms:D MV} {n:Q},Nx as ms→PX as→5*htL as+6≤n→(∀p∈FX as,Bz<|flat p)→Ow n 11 ms ((FX as).map flat):=by
 induction as with
 |nil=>exact λhs H H H=>by subst hs;exact .nil
 |cons a as ih=>exact λhs w hn z=>Fv hs λm ms' e ha hu=>by subst e;exact .cons (z_ a (j0 ..) _ _ ha w.1 (rz (b:=htL as) hn)<|z _<|j0 ..)<|ih (λb hb=>z_ b<|q_ _ hb) hu w.2 (rA (a:=ht a) hn) λp hp=>z p (q_ _ hp)
def zbk {d:Dc} (z_:gU<|Nc d) {m:MV} {n:Q} (hd:TL d m) (w:PY d) (hn:5*htD d+6≤n) (hz:Bz<|flat<|Mm d):MP (n+2) 7 [FR m]<|.str<|flat<|Mm d:=by
 cases d with
 |mk dj xs mu a=>
  refine F4 hd λs ma e ha=>?_
  subst e
  have e:flat (Mm<|.mk dj xs mu a)=nj dj++flat (vr xs)++": "++flat (zF mu)++flat (zZ (lv a) 8<|Ge a):=by simp[PW,Pc.str]
  rw[e]at hz⊢
  exact zeq w.1 w.2.1 (ja z_ hn ha w.2.2) hz
def xj {ds:D Dc} (z_:∀d∈ds,gU<|Nc d):∀{ms:D MV} {n:Q},HK ds ms→MT ds→5*htDL ds+6≤n→(∀p∈FM ds,Bz<|flat p)→Ow (n+2) 7 ms ((FM ds).map flat):=by
 induction ds with
 |nil=>exact λhs H H H=>by subst hs;exact .nil
 |cons a as ih=>exact λhs w hn z=>Fv hs λm ms' e ha hu=>by subst e;exact .cons (zbk (z_ a<|j0 ..) ha w.1 (rz (b:=htDL as) hn)<|z _<|j0 ..)<|ih (λb hb=>z_ b<|q_ _ hb) hu w.2 (rA (a:=htD a) hn) λp hp=>z p (q_ _ hp)
def zet {a:D Pc} (h:Bz<|flat<|qu a):Bz<|flat a:=by
 rw[Jj]at h
 split at h
 ·exact SH<|TM h
 ·exact h
def Zo {l:D<|D Pc} (h:Bz<|flat<|FA l):∀p∈l,Bz<|flat p:=by
 induction l with
 |nil=>exact λH h=>nomatch h
 |cons a l=>
  have e:flat (FA<|a::l)="{ "++flat (qz<|(a::l).map qu)++" }":=by simp[IM,Pc.str]
  rw[e]at h
  exact λp hp=>zet<|Zm (SH<|TM h)<|BI hp
def yy (d:Nd):gU d:=by
 induction d using Nd.ind with
 |name x=>exact λm n hd w hn H=>Fg hd λs e=>E7 (yr (k:=2) hn) λq f H=>by subst e;subst f;exact qx (f:=λx=>EZ pg W (q+4) 11 [FI [.str OW,.int s,.str x]]) (g:=λx=>R (.d<|.str<|x++[],[FI [.str OW,.int s,.str x]])) C w
 |num k=>
  refine λm n hd w hn H=>Fg hd λs e=>E7 (yr (k:=2) hn) λq f H=>?_
  subst e;subst f
  have e:pp (.num k)=zW k:=by simp[pp,FK,Pc.str]
  refine rq e ?_
  exact zd (F:=FY) C C (zt C C<|zG C<|jJ (w:=.d<|.int k) (z:=.str<|zW k) C<|Lh<|v_ (w:(k:g').natAbs<20)<|by decide) C
 |con x=>exact λm n hd w hn H=>Fg hd λs e=>E7 (yr (k:=2) hn) λq f H=>by subst e;subst f;exact qx (f:=λx=>EZ pg W (q+4) 11 [FI [.str x,.int s]]) (g:=λx=>R (.d<|.str<|x++[],[FI [.str x,.int s]])) C w
 |un h a iha=>
  refine λm n hd w hn hz=>F4 hd λs ma e ha=>E7 (yr hn) λq f hq=>?_
  subst e;subst f
  have e:pp (.un h a)=flat (if h∈Gk then [.nm h,sp]else [.sg h])++flat (zZ (lv a) (if h="-"then 10 else I_ h)<|Ge a):=by simp[pp,FK,Pc.str]
  rw[e]at hz⊢
  exact zd (F:=FY) C C (zt C C<|zb C<|zb C<|zG C<|zM (zf C Fk) C (zj1 (n:=q+1) w.1 (ja iha (wR 1<|i3 hq) ha w.2) hz)) C
 |bin o a b iha ihb=>
  refine λm n hd w hn hz=>Gm hd λs ma mb e ha hb=>E7 (yr hn) λq f hq=>?_
  subst e;subst f
  have e:pp (.bin o a b)=flat (zZ (lv a) (js o)<|Ge a)++flat (kg o)++flat (N6 o)++flat (kg o)++flat (zZ (lv b) (jv o)<|Ge b):=by simp[pp,FK,Pc.str]
  rw[e]at hz⊢
  exact zd (F:=FY) C C (zt C C<|zb C<|zb C<|zb C<|zG C<|zM (zf C Fk) C (aw (n:=q+1) w.1 (ja iha (wR 1<|Jk hq) ha w.2.1) (ja ihb (wR 1<|Ky hq) hb w.2.2) hz)) C
 |arrow l r a b iha ihb=>
  refine λm n hd w hn hz=>Gm hd λs ma mb e ha hb=>E7 (yr hn) λq f hq=>?_
  subst e;subst f
  have e:pp (.arrow l r a b)=flat (zZ (lv a) 12<|Ge a)++flat (if l=[]then []else [sp,.nm l])++" -> "++flat (zF r)++flat (zZ (lv b) 13<|Ge b):=by simp[pp,FK,Pc.str]
  rw[e]at hz⊢
  exact zd (F:=FY) C C (zt C C<|zb C<|zb C<|zb C<|zb C<|zG C<|zM (zf C Fk) C (zbh (n:=q+2) w.1 w.2.1 (ja iha (wR 1<|Jk hq) ha w.2.2.1) (ja ihb (wR 1<|Ky hq) hb w.2.2.2) hz)) C
 |box a as iha ihs=>
  refine λm n hd w hn hz=>Gm hd λs ma ms e ha hs=>E7 (yr hn) λq f hq=>?_
  subst e;subst f
  have e:pp (.box a as)=flat (zZ (lv a) 15<|Ge a)++"["++flat (zo<|FX as)++"]":=by simp[pp,FK,Pc.str]
  rw[e]at hz⊢
  exact zd (F:=FY) C C (zt C C<|zb C<|zb C<|zb C<|zb C<|zb C<|zG C<|(zs (zs (zs (λz=>zM (zf C<|zf C Fk) C<|ja iha (wR 2<|Jk hq) ha w.1 z) λH=>C) (λz=>have hl:=xi ihs (n:=q+3) hs w.2.1 (wR 3<|Ky hq) λp hp=>wo z hp;ZT (x:=.str ", ") C (qg C (kV (w:=.d<|.tup ms) C C (iZ (hl.len.trans<|(j9 _).trans<|Ia as)<|q0 w.2.2<|by decide) hl.map) C) C (xg z))) (λH=>C) hz)) C
 |ite a b c iha ihb ihc=>
  refine λm n hd w hn hz=>OL hd λs ma mb mc e ha hb U'=>E7 (yr hn) λq f hq=>?_
  subst e;subst f
  have e:pp (.ite a b c)=flat (zZ (lv a) 4<|Ge a)++" => "++flat (zZ (lv b) 4<|Ge b)++" else "++flat (zZ (lv c) 3<|Ge c):=by simp[pp,FK,Pc.str]
  rw[e]at hz⊢
  exact zd (F:=FY) C C (zt C C<|zb C<|zb C<|zb C<|zb C<|zb C<|zb C<|zG C<|(zs (zs (zs (zs (λz=>zM (zf C<|zf C Fk) C<|ja iha (wR 2<|Jk hq) ha w.1 z) λH=>C) λz=>zM (zf C<|zf C Fk) C (ja ihb (wR 2<|Jk<|ru hq) hb w.2.1 z)) λH=>C) (λz=>zM (zf C<|zf C Fk) C<|ja ihc (wR 2<|Ky<|ru hq) U' w.2.2 z) hz)) C
 |quant q' ds a ihs iha=>
  refine λm n hd w hn hz=>Gm hd λs ms ma e hs ha=>E7 (yr hn) λq f hq=>?_
  subst e;subst f
  have e:pp (.quant q' ds a)=q'++" "++flat (zo<|FM ds)++" | "++pp a:=by simp[pp,FK,Pc.str]
  rw[e]at hz⊢
  exact zd (F:=FY) C C (zt C C<|zb C<|zb C<|zb C<|zb C<|zb C<|zb C<|zb C<|zG C<|(zs (zs (zs (zs (λH=>C) λH=>C) λz=>zM (zf C Fk) C (xh (xj ihs (n:=q) hs w.2.1 (Jk hq) λp hp=>wo z hp) (by rw[Hk];exact q0 w.2.2.1<|by decide) z)) λH=>C) (λz=>zM (zf C Fk) C<|iha _ _ ha w.2.2.2.2 (wR 3<|Ky hq) z) hz)) C
 |lett x v a ihv iha=>
  refine λm n hd w hn hz=>Gm hd λs mv ma e hv ha=>E7 (yr hn) λq f hq=>?_
  subst e;subst f
  have e:pp (.lett x v a)="let "++x++" = "++pp v++" | "++pp a:=by simp[pp,FK,Pc.str]
  rw[e]at hz⊢
  exact zd (F:=FY) C C (zt C C<|zb C<|zb C<|zb C<|zb C<|zb C<|zb C<|zb C<|zb C<|zG C<|(zs (zs (zs (zs (zs (λH=>C) λH=>C) λH=>C) λz=>zM (zf C Fk) C (ihv _ _ hv w.2.1 (wR 3<|Jk hq) z)) λH=>C) (λz=>zM (zf C Fk) C<|iha _ _ ha w.2.2 (wR 3<|Ky hq) z) hz)) C
 |block as ihs=>
  refine λm n hd w hn hz=>F4 hd λs ms e hs=>E7 (yr hn) λq f hq=>?_
  subst e;subst f
  have e:pp (.block as)=flat (FA<|FX as):=by simp[pp,FK]
  rw[e]at hz⊢
  exact zd (F:=FY) C C (zt C C<|zb C<|zb C<|zb C<|zb C<|zb C<|zb C<|zb C<|zb C<|zb C<|zb C<|zw<|zM (zf C Fk) C (Zn (n:=q+1) (xi ihs hs w.1 (wR 1<|i3 hq)<|Zo hz) (by rw[Ia];exact q0 w.2<|by decide) hz)) C
 |compr ds a ihs iha=>
  refine λm n hd w hn hz=>Gm hd λs ms ma e hs ha=>E7 (yr hn) λq f hq=>?_
  subst e;subst f
  have e:pp (.compr ds a)="{ "++flat (zo<|FM ds)++" | "++pp a++" }":=by simp[pp,FK,Pc.str]
  rw[e]at hz⊢
  exact zd (F:=FY) C C (zt C C<|zb C<|zb C<|zb C<|zb C<|zb C<|zb C<|zb C<|zb C<|zb C<|zG C<|(zs (zs (zs (zs (λH=>C) λz=>zM (zf C Fk) C (xh (xj ihs (n:=q) hs w.1 (Jk hq) λp hp=>wo z hp) (by rw[Hk];exact q0 w.2.1<|by decide) z)) λH=>C) λz=>zM (zf C Fk) C (iha _ _ ha w.2.2.2 (wR 3<|Ky hq) z)) (λH=>C) hz)) C
def aO {d h:Q} (x:d≤bd h) (y:h≤3):d≤5480:=q0 x<|qc y
def ZU (d:Nd) {m:MV} {n:Q} (hd:IF d m) (w:Wf d) (h3:ht d≤3) (hn:5*ht d+6≤n):MP n 11 [FR m]<|.str<|pp d:=yy d m n hd w hn<|q0 (aO (IO d w) h3)<|by decide
end
mutual namespace A
abbrev MU:Sx:="0123456789"
abbrev IP:Sx:=E3
abbrev NV:D Sx:=["(",")","[","]","{","}",",","~","^","*","#","<=>","<:",":>","=>","=<","<=",">=","!=","&&","||","->","++","-","!","+","&",".","=","<",">",":","|"]
nonrec abbrev sc (x:Sx) (p:Q):Lc Th:=R<|.o 1 [.d<|.str x,.d<|.int p]
end
mutual section
variable {n:Q} {x:Sx} {p:Q}
def vx {lo hi:MV} {l u:Lc Q} (Y:HZ lo=R l) (T':HZ hi=R u) (hx:x.length≤Z1):ZJ (.str x) lo hi=R (.str<|Hn x l u):=by
 unfold ZJ
 (refine rq Y ?_;refine rq T' ?_)
 exact Lh hx
def wt {i:g'} (h0:0≤i) (Y:i<4000000):HZ (.int i)=R (R i.toNat):=by
 unfold HZ
 exact Lh ⟨h0,C5 Y<|by decide⟩
def zeu (hx:x.length≤1000000) {i:Q} (hi:i≤2000000):ZJ (.str x) (.int (i:Q)) (.int<|(i:Q)+1)=R (.str<|(x.drop i).take 1):=by
 rw[vx (wt YH<|zol hi) (wt zom<|zon hi)<|by rw[y_];exact Ga hx omT]
 unfold Hn
 rw[X7,X7,Cw,show((i:g')+1).toNat -(i:g').toNat=1 by exact zoo,show(i:g').toNat=i by exact oB]
def Wo (hx:x.length≤1000000) (hp:p≤1000000) {a:Q} (ha:a≤1):EZ pg W (n+1) 20 [sc x p,E9 a]=R (.d<|.str<|(x.drop<|p+a).take 1,[sc x p,E9 a]):=
 zd (F:=Me) C C (zw (jI C C C (by
  have:=zeu hx (i:=p+a)<|n8 ha hp omT
  refine rp this ?_;congr 2))) C
def jb (hx:x.length≤1000000) (hp:p≤1000000) (J:Ev):E0 pg (EZ pg W<|n+1) (.meth 0 1 #[EY 0]) (sc x p::J)=R (.d<|.str<|(x.drop p).take 1,sc x p::J):=
 qe (c:=1) (f:=20) C C C C (Wo hx hp (a:=0)<|FQ omT) C
def xk (hx:x.length≤1000000) (hp:p≤1000000) (J:Ev):E0 pg (EZ pg W<|n+1) (.meth 0 1 #[EY 1]) (sc x p::J)=R (.d<|.str<|(x.drop<|p+1).take 1,sc x p::J):=
 qe (c:=1) (f:=20) C C C C (Wo hx hp (a:=1)<|FQ omT) C
def ZV (cl:HM) {np:Q} (J:Ev):Fc pg cl W np (.augF 1 0 1 .add<|EY 1) (sc x p::J)=R (.nx,sc x (p+1)::J):=C
def ZW {v:Sx} (h:x.drop p=v) (hv:v≠[]):p<x.length:=by
 apply Bb
 intro Y
 rw[J6 Y]at h
 exact hv h.symm
def kh {c:Q} {v:Sx} (h:x.drop p=c::v):x.drop (p+1)=v:=by
 (refine rp J5 ?_;refine rq h ?_);rfl
nonrec abbrev nq:X:=.and (.cmp .ne (.meth 0 1 #[EY 0])<|Da [])<|.cmp .isin (.meth 0 1 #[EY 0]) Fe
nonrec abbrev nr:S:=#v[.augF 1 0 1 .add<|EY 1]
def Kz (hx:x.length≤1000000) {sg v:Sx} {b:MV} (hv:∀c r,v=c::r→c∉sg) (u:Sx):∀(p k:Q),x.drop p=u++v→p≤x.length→(∀c∈u,c∈sg)→u.length<k→
  qj (E0 pg (EZ pg W<|n+1) nq) (Fc pg (EZ pg W<|n+1) W 2 nr) k [sc x p,E6 sg,FR b]=R (.nx,[sc x<|p+u.length,E6 sg,FR b]):=by
 induction u with
 |nil=>
  intro p k hd hp hu hk
  obtain⟨k,C,-⟩:=qr hk
  have hl:=jb (n:=n) (x:=x) (p:=p) hx (vb hx hp omT) [E6 sg,FR b]
  rw[hd,J8]at hl
  refine qn ?_
  cases v with
  |nil=>exact zu<|ze C hl C C C
  |cons c r=>
   have:=hv c r C
   refine zi (ze C hl C C C)<|ze C hl C C ?_
   refine(?_:R (decide (c∈sg))=_)
   simp[this]
 |cons c u ih=>
  intro p k hd hp hu hk
  obtain⟨k,C,h0⟩:=qr hk
  have hl:=jb (n:=n) (x:=x) (p:=p) hx (vb hx hp omT) [E6 sg,FR b]
  rw[hd]at hl
  have U':=hu c<|j0 ..
  replace ih:=ih (p+1) k (kh hd) (T8 (ZW hd (by simp):p<x.length)) (λy hy=>hu y<|q_ _ hy) h0
  rw[show p+1+u.length=p+(c::u).length by simp;exact(@UZ _ _)]at ih
  refine qf (zi (ze C hl C C C)<|ze C hl C C ?_) (zc (ZV _ _) E8) ih
  refine(?_:R (decide (c∈sg))=_)
  simp[U']
def Wp (hx:x.length≤1000000) {u v:Sx} (hd:x.drop p=u++v) (hp:p≤x.length):ZJ (.str x) (.int (p:Q)) (.int<|(p+u.length:Q))=R (.str u):=by
 have hl:=Li V' hd
 simp at hl
 rw[vx (wt YH<|zop hx hp) (wt zoq<|zor hl hx hp)<|by rw[y_];exact Ga hx omT]
 unfold Hn
 rw[X7,X7,Cw,show((p+u.length:Q):g').toNat -(p:g').toNat=u.length by exact zos,show(p:g').toNat=p by exact oB,hd]
 simp
def vy (hx:x.length≤1000000) {sg u v:Sx} (hd:x.drop p=u++v) (hp:p≤x.length) (hv:∀c r,v=c::r→c∉sg) (hu:∀c∈u,c∈sg):
  EZ pg W (n+2) 23 [sc x p,E6 sg]=R (.d<|.str u,[sc x<|p+u.length,E6 sg]):=by
 have hl:=Li V' hd
 simp at hl
 exact zd (F:=IA) C C (zt C C<|jo (Kz hx hv u p W hd hp hu<|oC hW hl hx)<|zw<|jI C C C<|Wp hx hd hp) C
nonrec abbrev skT:X:=.cmp .ne (.meth 0 1 #[EY 0])<|Da []
nonrec abbrev skB:S:=#v[.asg 1<|.bin .add (.meth 0 1 #[EY 0])<|.meth 0 1 #[EY 1],.ite (.cmp .isin (.meth 0 1 #[EY 0])<|.glb<|.str [32,9,13,10]) #v[.augF 1 0 1 .add<|EY 1] #v[.ite (.or (.cmp .eq Fe<|Da "//")<|.cmp .eq Fe<|Da "--") #v[.exp<|.meth 0 2 .nil] #v[.ite (.cmp .eq Fe<|Da "/*") .bad #v[.ret<|.lit .none]]]]
abbrev Nb (v:Sx):Prop:=∀c r,v=c::r→c∉[32,9,13,10]∧([c]++r.take 1≠"//"∧[c]++r.take 1≠"--"∧[c]++r.take 1≠"/*")
def zj3 {c:Q} (h:c=32∨c=10):jE .isin (.str [c]) (.str [32,9,13,10])=R f':=by rcases h with C|rfl<;>rfl
def Yh (hx:x.length≤1000000) {v:Sx} (hv:Nb v) (u:Sx):∀(p k:Q) (s1:Lc Th),x.drop p=u++v→p≤x.length→(∀c∈u,c=32∨c=10)→u.length<k→
  ∃fl ρ',qj (E0 pg (EZ pg W<|n+1) skT) (Fc pg (EZ pg W<|n+1) W 1 skB) k [sc x p,s1,Z]=R (fl,ρ')∧ρ'.take 1=[sc x<|p+u.length]∧(fl=.nx∨fl=.rt (.d .none)):=by
 induction u with
 |nil=>
  intro p k s1 hd hp hu hk
  obtain⟨k,C,-⟩:=qr hk
  have hl:=λs1=>jb (n:=n) (x:=x) (p:=p) hx (vb hx hp omT) [s1,Z]
  have hl1:=λs1=>xk (n:=n) (x:=x) (p:=p) hx (vb hx hp omT) [s1,Z]
  rw[hd,J8]at hl
  cases v with
  |nil=>exact⟨_,_,qn<|ze C (hl _) C C C,C,.inl C⟩
  |cons c r=>
   rw[kh hd]at hl1
   refine JS (hv c r C) λY T' h3 h4=>?_
   refine⟨_,_,nh (ze C (hl _) C C C)<|zt (zY (hl _) (hl1 _)<|Jg<|by simp;exact zot) C<|zq<|zR (ze C (hl _) C C ?_)<|zq<|zR (Kx (qt C C ?_)<|qt C C ?_)<|zq<|zR (qt C C ?_)<|zw C,C,.inr C⟩
   ·show R (decide (c∈[32,9,13,10]))=_
    exact rq (Lk Y) C
   ·show R (decide _)=_;rw[Lk];exact T'
   ·show R (decide _)=_;rw[Lk];exact h3
   ·show R (decide _)=_;rw[Lk];exact h4
 |cons c u ih=>
  intro p k s1 hd hp hu hk
  obtain⟨k,C,h0⟩:=qr hk
  have hl:=λs1=>jb (n:=n) (x:=x) (p:=p) hx (vb hx hp omT) [s1,Z]
  have hl1:=λs1=>xk (n:=n) (x:=x) (p:=p) hx (vb hx hp omT) [s1,Z]
  rw[hd]at hl
  rw[kh hd]at hl1
  refine Fv (ih (p+1) k (E6<|[c]++(u++v).take 1) (kh hd) (T8 (ZW hd (by simp):p<x.length)) (λy hy=>hu y<|q_ _ hy) h0) λfl ρ' Y T' h3=>?_
  refine⟨fl,ρ',qf (ze C (hl _) C C C) (zt (zY (hl _) (hl1 _)<|Jg<|by simp;exact zou) C<|zc (zl (ze C (hl _) C C<|zj3<|hu c<|j0 ..)<|zc (ZV _ _) E8) E8) Y,?_,h3⟩
  refine rq T' ?_;simp;exact Li (λz=>Th.o 1 [Fl.d<|.str x,Fl.d<|.int z]) zov
def yz (hx:x.length≤1000000) {u v:Sx} (hv:Nb v) (hd:x.drop p=u++v) (hp:p≤x.length) (hu:∀c∈u,c=32∨c=10):
  EZ pg W (n+2) 22 [sc x p]=R (.d .none,[sc x<|p+u.length]):=by
 have hl:=Li V' hd
 simp at hl
 refine Fv (Yh (n:=n) hx hv u p W Z hd hp hu<|oC hW hl hx) λfl ρ' Y T' h3=>?_
 rcases h3 with C|rfl
 ·exact jx (F:=H3) C C (jo Y E8) T'
 ·exact zd (F:=H3) C C (zq<|Wm Y) T'
abbrev GX:Sx:=IP++MU
nonrec abbrev wz (k t:Sx) (s:g'):MV:=.tup [.str k,.str t,.int s]
nonrec abbrev BT:Sx:=Fz
nonrec abbrev GZ:Sx:=HF
nonrec abbrev EX:Sx:=Gn
nonrec abbrev FG:Sx:=HG
def Yi (hx:x.length≤1000000) {u v:Sx} (hd:x.drop p=u++v) (hp:p≤x.length) (hv:∀c r,v=c::r→c∉GX) (hu:∀c∈u,c∈MU) (hl:u.length≤1000):
  EZ pg W (n+3) 24 [sc x p]=R (.d<|wz GZ u p,[sc x<|p+u.length]):=by
 have hll:=Li V' hd
 simp at hll
 have hlk:=λJ=>jb (n:=n+1) (x:=x) (p:=p+u.length) hx (YP hll hx hp) J
 have hdr:x.drop (p+u.length)=v:=by(refine rp J5 ?_;refine rq hd ?_);simp
 rw[hdr]at hlk
 have hgt:E0 pg (EZ pg W<|n+2) (.cmp .gt (.b1 .len FD)<|.glb<|.int 1000) [sc x<|p+u.length,E9 p,E6 u]=R (.d<|.bool La,[sc x<|p+u.length,E9 p,E6 u]):=by
  refine ze C (jJ (w:=.d<|.str u) (z:=.int (u.length:Q)) C<|Lh (by refine rq y_ ?_;exact Ga hl omT:u.length≤Z1)) C C ?_
  show R (decide _)=_
  exact rq (Lk<|zow hl) C
 have h3:E0 pg (EZ pg W<|n+2) (.and (.cmp .ne (.meth 0 1 #[EY 0])<|Da [])<|.cmp .isin (.meth 0 1 #[EY 0])<|.glb<|.str IP) [sc x<|p+u.length,E9 p,E6 u]=R (.d<|.bool La,[sc x<|p+u.length,E9 p,E6 u]):=by
  clear hll hdr;induction v with
  |nil=>exact zu<|ze C (hlk _) C C C
  |cons c r=>
   refine zi (ze C (hlk _) C C C)<|ze C (hlk _) C C ?_
   show R (decide (c∈IP))=_
   exact rq (Lk λh=>hv c r C (V5 _ h)) C
 exact zd (F:=IB) C C (zt C C<|zt (qe (c:=1) (f:=23) C C C C (vy (n:=n) hx (sg:=MU) hd hp (λc r e h=>hv c r e<|Cr _ h) hu) C) C<|zb hgt<|zb h3<|zw C) C
nonrec abbrev rB:X:=.and (.cmp .eq (.meth 0 1 #[EY 0])<|Da "/")<|.and (.cmp .ne (.meth 0 1 #[EY 1])<|Da [])<|.cmp .isin (.meth 0 1 #[EY 1])<|.glb<|.str IP
nonrec abbrev rC:S:=#v[.augF 1 0 1 .add<|EY 1,.exp<|.meth 0 4 #[.bin .add (.glb<|.str IP)<|.glb<|.str MU]]
def vP {cl:HM} {J:Ev}:Pl pg cl #[.bin .add (.glb<|.str IP)<|.glb<|.str MU] J=R ([.v<|.d<|.str GX],J):=C
inductive Wd:Sx→Prop where
 |one {u:Sx}:(∀c∈u,c∈GX)→Wd u
 |two {u:Sx} {c:Q} {r:Sx}:(∀c∈u,c∈GX)→c∈IP→(∀c∈r,c∈GX)→Wd (u++47::c::r)
def rD (hx:x.length≤1000000) {p k:Q} (hp:p≤1000000) {v:Sx} (hd:x.drop p=v) (hv:∀c r,v=c::r→c≠47) {b:MV}:
  qj (E0 pg (EZ pg W<|n+1) rB) (Fc pg (EZ pg W<|n+1) W 1 rC) (k+1) [sc x p,FR b]=R (.nx,[sc x p,FR b]):=by
 have hlk:=jb (n:=n) (x:=x) (p:=p) hx hp [FR b]
 rw[hd]at hlk
 refine qn<|zu<|ze C hlk C C ?_
 show R (decide _)=_
 rw[Lk]
 clear hd hlk;induction v with
 |nil=>exact λh=>nomatch h
 |cons c r=>exact λh=>hv c r C<|by simpa using h
set_option tactic.hygienic true in
def zev (hx:x.length≤1000000) {w v:Sx} (hd:x.drop p=w++v) (hp:p≤x.length) (hv:∀c r,v=c::r→c∉GX∧c≠47) (hw:Wd w):
  EZ pg W (n+3) 25 [sc x p]=R (.d<|wz BT w p,[sc x<|p+w.length]):=by
 have hll:=Li V' hd
 simp at hll
 have hs:=Wp hx hd hp
 cases hw with
 |one hu=>
  exact zd (F:=H4) C C (zt C C<|jO (jm (c:=1) (f:=23) C C vP C (vy (n:=n) hx (sg:=GX) hd hp (λc r e=>(hv c r e).1) hu) C)<|jo (rD (n:=n+1) (k:=1999999) (b:=.int p) hx (p:=p+w.length) (YP hll hx hp) (by(refine rp J5 ?_;refine rq hd ?_);simp:x.drop (p+w.length)=v) λc r e=>(hv c r e).2)<|zw<|zr (za C<|za (jI C C C hs)<|za C Fb) C) C
 |two hu U' hr'=>
  rename_i u c r
  have e1:x.drop p=u++(47::c::r++v):=by refine rq hd ?_;simp
  have d1:x.drop (p+u.length)=47::(c::r++v):=by(refine rp J5 ?_;refine rq e1 ?_);simp
  have hlt:p+u.length<x.length:=ZW d1<|by simp
  have d2:x.drop (p+u.length+1)=(c::r)++v:=kh d1
  have hcr:∀y∈c::r,y∈GX:=λy hy=>by
   clear hd;rcases w3.mp hy with C|hy
   ·exact V5 _ U'
   ·exact hr' y hy
  have hlk:=jb (n:=n+1) (x:=x) (p:=p+u.length) hx (Tu hx hlt) [E9 p]
  have hlk1:=xk (n:=n+1) (x:=x) (p:=p+u.length) hx (Tu hx hlt) [E9 p]
  rw[d1]at hlk
  rw[d2]at hlk1
  have hlp:=rD (n:=n+1) (k:=1999998) (b:=.int p) hx (p:=p+u.length+1+(c::r).length) (by simp at hll⊢;exact zox hll hx) (by(refine rp J5 ?_;refine rq d2 ?_);simp:x.drop (p+u.length+1+(c::r).length)=v) λc r e=>(hv c r e).2
  have hl2:=qf (k:=1999999) (T:=E0 pg (EZ pg W<|n+1+1) rB) (Bd:=Fc pg (EZ pg W<|n+1+1) W 1 rC) (J:=[sc x<|p+u.length,E9 p])
   (zi (ze C hlk C C C)<|zi (ze C hlk1 C C C)<|ze C hlk1 C C (rq (Ll U') C:R (decide (c∈IP))=R f'))
   (zc (ZV _ _)<|jO (jm (c:=1) (f:=23) C C vP C (vy (n:=n) hx (sg:=GX) d2 (f_ hlt) (λc r e=>(hv c r e).1) hcr) C) E8) hlp
  have e5:p+u.length+1+(c::r).length=p+(u++47::c::r).length:=by simp;exact(@U3 _ _ _)
  rw[e5]at hl2
  exact zd (F:=H4) C C (zt C C<|jO (jm (c:=1) (f:=23) C C vP C (vy (n:=n) hx (sg:=GX) e1 hp (λc' r' e=>by clear hv U' hr' hll e1 d1 d2 hcr hlk hlk1 hlp e5 hd;cases e;decide) hu) C)<|jo hl2<|zw<|zr (za C<|za (jI C C C hs)<|za C Fb) C) C
nonrec abbrev N5:S:=#v[.ite (.stw3 (.fld 1 0 0) Fe<|.fld 1 0 1) #v[.augF 1 0 1 .add<|.b1 .len Fe,.ret<|.tupD #[Da Gn,Fe,.bin .sub (.fld 1 0 1)<|.b1 .len Fe]] .skip]
def zj4 {P:Pg} {cl:HM} {J ρ1 ρ2 ρ3:Ev} {a b c:X} {x y:Sx} {i:g'} (ha:E0 P cl a J=R (.d<|.str x,ρ1)) (hb:E0 P cl b ρ1=R (.d<|.str y,ρ2)) (U':E0 P cl c ρ2=R (.d<|.int i,ρ3)) (h:0≤i∧i.toNat≤x.length):
  E0 P cl (.stw3 a b c) J=R (.d<|.bool<|decide (y<+:x.drop i.toNat),ρ3):=bn ha<|bn C<|bn hb<|bn C<|bn U'<|bn C<|Lh h
def zew {cl:HM} {s:Sx} {J:Ev} (hp:p≤x.length):E0 pg cl (.stw3 (.fld 1 0 0) Fe<|.fld 1 0 1) (sc x p::E6 s::J)=R (.d<|.bool<|decide (s<+:x.drop p),sc x p::E6 s::J):=by
 exact zj4 (P:=pg) (cl:=cl) (x:=x) (y:=s) (i:=p) C C C (zoy hp:(0:g')≤(p:g')∧(p:g').toNat≤x.length)
def Wq {cl:HM} {s:Sx} {J:Ev} {t:Lc Th} (hz:s.length≤10):E0 pg cl (.b1 .len Fe) (t::E6 s::J)=R (.d<|.int (s.length:Q),t::E6 s::J):=by
 exact jJ (w:=.d<|.str s) C<|Lh (by refine rq y_ ?_;exact Ga hz omT:s.length≤Z1)
def Yj (hx:x.length≤1000000) (hp:p≤x.length) {s:Sx} (l:D Sx):∀(o:Lc Th),(∀t∈l,t.length≤10)→l.find? (λt=>decide (t<+:x.drop p))=R s→
  ∃ρ',jr (λm J=>if 1<J.length then Fc pg (EZ pg W n) W 1 N5 (st J 1<|.d m)else Z) (l.map .str) [sc x p,o]=R (.rt<|.d<|wz EX s p,ρ')∧ρ'.take 1=[sc x<|p+s.length]:=by
 induction l with
 |nil=>
  intro o hl h
  exact nO h
 |cons t l ih=>
  intro o hl h
  have hz:=hl t<|j0 ..
  rw[D.find?_cons]at h
  have e3:=zew (cl:=EZ pg W n) (s:=t) (J:=[]) hp
  cases hq:decide (t<+:x.drop p)with
  |f'=>
   rw[hq]at h
   cases h
   rw[hq]at e3
   have hs:Fc pg (EZ pg W n) W 1 N5 [sc x p,E6 s]=R (.rt<|.d<|wz EX s p,[sc x<|p+s.length,E6 s]):=by
    refine zq<|zl e3<|zc (zjy (x:=.int p) C (Wq hz) C C:Fc pg (EZ pg W n) W 1 (.augF 1 0 1 .add<|.b1 .len Fe) [sc x p,E6 s]=R (.nx,[sc x<|p+s.length,E6 s]))<|zw<|zr (za C<|za C<|za (zY C (Wq hz) ?_) Fb) C
    exact Li R (by congr 1;exact gb:(MV.int<|((p+s.length:Q):g') -(s.length:Q))=.int p)
   refine⟨[sc x<|p+s.length,E6 s],?_,C⟩
   simp only[w5,jr,j1,y0]
   refine rq (Lh<|by decide) ?_
   refine(?_:(Fc pg (EZ pg W n) W 1 N5 [sc x p,E6 s]).bind _=_)
   refine rq hs ?_;rfl
  |La=>
   rw[hq]at h
   rw[hq]at e3
   refine E7 (ih (E6 t) (λy hy=>hl y<|q_ _ hy) h) λρ' Y T'=>?_
   refine⟨ρ',?_,T'⟩
   have hs:Fc pg (EZ pg W n) W 1 N5 [sc x p,E6 t]=R (.nx,[sc x p,E6 t]):=zb e3 E8
   simp only[w5,jr,j1,y0]
   refine rq (Lh<|by decide) ?_
   refine(?_:(Fc pg (EZ pg W n) W 1 N5 [sc x p,E6 t]).bind _=_)
   refine rq hs ?_;exact Y
def SJ:∀t∈NV,t.length≤10:=by decide
def zex (hx:x.length≤1000000) (hp:p≤x.length) {s:Sx} (h:NV.find? (λt=>decide (t<+:x.drop p))=R s):
  EZ pg W (n+1) 26 [sc x p]=R (.d<|wz EX s p,[sc x<|p+s.length]):=by
 refine E7 (Yj (n:=n) hx hp NV Z SJ h) λρ' Y T'=>?_
 refine zd (F:=Mf) C C (zq ?_) T'
 exact(Lh (by decide:1≤1∧1<2)).trans Y
nonrec abbrev Tk:=Sx×Sx
abbrev OX:Pc→Lc Tk
 | .bl _=>Z
 | .nm s=>R (BT,s)
 | .nu s=>R (GZ,s)
 | .sg s=>R (EX,s)
def TP:(∀(c:Q),OX (Pc.bl c)=Z)∧(∀(s:Sx),OX (Pc.nm s)=R (BT,s))∧(∀(s:Sx),OX (Pc.nu s)=R (GZ,s))∧(∀(s:Sx),OX (Pc.sg s)=R (EX,s)):=⟨λH=>C,λH=>C,λH=>C,λH=>C⟩
abbrev toks (ps:D Pc):D Tk:=ps.filterMap OX
abbrev Yk (k:Tk) (m:MV):Prop:=∃s:g',m=wz k.1 k.2 s
abbrev NW:Pc→Lc Q→Prop
 | .bl c,_=>c=32∨c=10
 | .nm s,o=>Wd s∧(∃c r,s=c::r∧c∈IP)∧∀c,o=R c→c∉GX∧c≠47
 | .nu s,o=>s≠[]∧(∀c∈s,c∈MU)∧s.length≤1000∧∀c,o=R c→c∉GX
 | .sg s,o=>s∈NV∧∀c,o=R c→(∀t∈NV,¬(s++[c])<+:t)∧(s="-"→c≠45)
abbrev Sb:D Pc→Prop
 |[]=>True
 |p::ps=>NW p (flat ps).head?∧Sb ps
def gV:∀s∈NV,(match s with|c::r=>decide (c∉[32,9,13,10]∧c≠47∧c∉MU∧c∉IP∧(c=45→r=[]∨r=">"))|[]=>La)=f':=by decide
def SK:∀s∈NV,NV.find? (λt=>decide (t<+:s))=R s:=by decide
def xm {α:Type} {p q:α→Ld}:∀{l:D α},(∀a∈l,p a=q a)→l.find? p=l.find? q
 |[],_=>rfl
 |a::l,h=>by(refine rq (D.find?_cons) ?_;refine rq (D.find?_cons) ?_;refine rq (h a<|j0 ..) ?_;exact rq (xm λb hb=>h b<|q_ _ hb) C)
def Yl {s v:Sx} (hs:s∈NV) (hv:∀c r,v=c::r→∀t∈NV,¬(s++[c])<+:t):NV.find? (λt=>decide (t<+:s++v))=R s:=by
 refine rp (SK s hs) ?_
 refine xm λt ht=>?_
 have:t<+:s++v↔t<+:s:=by
  refine⟨λh=>?_,λh=>h.trans<|BP _ _⟩
  rcases Q.lt_or_ge s.length t.length with hl|hl
  rotate_left
  ·exact C4 h (BP _ _) hl
  ·have T':s<+:t:=C4 (BP _ _) h<|Bu hl
   refine Fg T' λr e1=>?_
   clear hs T';subst e1
   cases r with
   |nil=>simp at hl
   |cons c r=>
    refine Fg h λq hq=>?_
    rw[j3,D.append_cancel_left_eq]at hq
    clear h;cases v with
    |nil=>contradiction
    |cons c' v=>
     simp only[j6,B5]at hq
     refine qk hq λe0 H=>?_
     clear hl hq;subst e0
     exact Lg ⟨r,by simp⟩<|hv c v C _ ht
 simp only[this]
def yA {ps:D Pc} {c:Q} {r:Sx} (h:flat ps=c::r):(flat ps).head?=R c:=by refine rq h ?_;rfl
def Jl (hx:x.length≤1000000) {bs:Sx} {t:Pc} {ps:D Pc} (hb:∀c∈bs,c=32∨c=10) (ht:∀c,t≠.bl c) (hk:Sb<|t::ps) (hd:x.drop p=bs++(t.str++flat ps)) (hp:p≤x.length):
  ∃k m p',OX t=R k∧Yk k m∧EZ pg W (n+4) 27 [sc x p]=R (.d m,[sc x p'])∧x.drop p'=flat ps∧p'≤x.length∧p<p':=by
 have hll:=Li V' hd
 simp at hll
 have d2:x.drop (p+bs.length)=t.str++flat ps:=by(refine rp J5 ?_;refine rq hd ?_);simp
 refine qk hk λY T'=>?_
 clear hk;cases t with
 |bl c=>exact Lg C<|ht c
 |nm s=>
  clear T' ht;obtain⟨hw,⟨c,r,C,U'⟩,hv⟩:=Y
  have hl:=λJ=>jb (n:=n+2) (x:=x) (p:=p+bs.length) hx (YK hp hll hx) J
  rw[d2]at hl
  have hs:=yz (n:=n+1) hx (u:=bs) (v:=(Pc.nm<|c::r).str++flat ps) (λc' r' e=>by
   simp only[Pc.str,j6,B5]at e
   refine qk e λe0 e1=>?_
   subst e0
   subst e1
   have:∀c∈IP,c∉[32,9,13,10]∧c≠47∧c≠45:=by decide
   refine yG (this c U') λa1 a2 a3=>?_
   exact⟨a1,λe=>a2 (by simpa using Li X9 e),λe=>a3 (by simpa using Li X9 e),λe=>a2<|by simpa using Li X9 e⟩) hd hp hb
  refine⟨_,_,p+bs.length+(c::r).length,C,⟨((p+bs.length:Q):g'),C⟩,?_,by(refine rp J5 ?_;refine rq d2 ?_);simp[Pc.str],by simp[Pc.str]at hll⊢;exact YM hll,by simp;exact(@Pf _ _ _)⟩
  refine zd (F:=F_) C C (jO (zU (c:=1) (f:=22) C C C hs C)<|zb (ze C (hl _) C C C)<|zb (ze C (hl _) C C ?_)<|zw<|qm (ze C (hl _) C C ?_)<|zU (c:=1) (f:=25) C C C (zev (n:=n) hx (w:=c::r) (v:=flat ps) d2 (YL hp hll) (λc' r' e=>hv c'<|yA e) hw) C) C
  ·refine(?_:R (decide (c∈MU))=_)
   have:∀c∈IP,c∉MU:=by decide
   exact rq (Lk<|this c U') C
  ·refine(?_:R (decide (c∈IP))=_)
   exact rq (Ll U') C
 |nu s=>
  refine JS Y λhne hf hz hv=>?_
  refine Ib (K5 hne) λc r e2=>?_
  clear hne ht;subst e2
  have U':=hf c<|j0 ..
  have hl:=λJ=>jb (n:=n+2) (x:=x) (p:=p+bs.length) hx (YK hp hll hx) J
  rw[d2]at hl
  have hs:=yz (n:=n+1) hx (u:=bs) (v:=(Pc.nu<|c::r).str++flat ps) (λc' r' e=>by
   simp only[Pc.str,j6,B5]at e
   refine qk e λe0 e1=>?_
   subst e0
   clear T';subst e1
   have:∀c∈MU,c∉[32,9,13,10]∧c≠47∧c≠45:=by decide
   refine yG (this c U') λa1 a2 a3=>?_
   exact⟨a1,λe=>a2 (by simpa using Li X9 e),λe=>a3 (by simpa using Li X9 e),λe=>a2<|by simpa using Li X9 e⟩) hd hp hb
  refine⟨_,_,p+bs.length+(c::r).length,C,⟨((p+bs.length:Q):g'),C⟩,?_,by(refine rp J5 ?_;refine rq d2 ?_);simp[Pc.str],by simp[Pc.str]at hll⊢;exact YM hll,by simp;exact(@Pf _ _ _)⟩
  refine zd (F:=F_) C C (jO (zU (c:=1) (f:=22) C C C hs C)<|zb (ze C (hl _) C C C)<|zG (ze C (hl _) C C ?_)<|zU (c:=1) (f:=24) C C C (Yi (n:=n) hx (u:=c::r) (v:=flat ps) d2 (YL hp hll) (λc' r' e=>hv c'<|yA e) hf hz) C) C
  refine(?_:R (decide (c∈MU))=_)
  exact rq (Ll U') C
 |sg s=>
  refine qk Y λhs hv=>?_
  have h3:=gV s hs
  clear Y ht;cases s with
  |nil=>exact nB h3
  |cons c r=>
  refine ZB (Lm h3) λa1 a2 a3 a4 a5=>?_
  have hl:=λJ=>jb (n:=n+2) (x:=x) (p:=p+bs.length) hx (YK hp hll hx) J
  rw[d2]at hl
  have hsk:=yz (n:=n+1) hx (u:=bs) (v:=(Pc.sg<|c::r).str++flat ps) (λc' r' e=>by
   simp only[Pc.str,j6,B5]at e
   refine qk e λe0 e1=>?_
   clear h3;subst e0
   clear T';subst e1
   refine⟨a1,λe=>a2 (by simpa using Li X9 e),λe=>?_,λe=>a2<|by simpa using Li X9 e⟩
   have e0:c=45:=by simpa using Li X9 e
   clear a1 a2;rcases a5 e0 with C|rfl
   ·cases q:flat ps with
    |nil=>rw[q]at e;simp at e
    |cons d y=>
     rw[q]at e
     exact(hv d<|yA q).2 (rq e0 C) (by simpa[e0]using e)
   ·simp at e) hd hp hb
  have hm:NV.find? (λt=>decide (t<+:x.drop (p+bs.length)))=R (c::r):=by
   refine rq d2 ?_;exact Yl hs λc' r' e=>(hv c'<|yA e).1
  refine⟨_,_,p+bs.length+(c::r).length,C,⟨((p+bs.length:Q):g'),C⟩,?_,by(refine rp J5 ?_;refine rq d2 ?_);simp[Pc.str],by simp[Pc.str]at hll⊢;exact YM hll,by simp;exact(@Pf _ _ _)⟩
  refine zd (F:=F_) C C (jO (zU (c:=1) (f:=22) C C C hsk C)<|zb (ze C (hl _) C C C)<|zb (ze C (hl _) C C ?_)<|zw<|qb (ze C (hl _) C C ?_)<|zU (c:=1) (f:=26) C C C (zex (n:=n+2) hx (p:=p+bs.length) (YL hp hll) hm) C) C
  ·refine(?_:R (decide (c∈MU))=_)
   exact rq (Lk a3) C
  ·refine(?_:R (decide (c∈IP))=_)
   exact rq (Lk a4) C
def Jm (hx:x.length≤1000000) {bs:Sx} (hb:∀c∈bs,c=32∨c=10) (hd:x.drop p=bs) (hp:p≤x.length):
  ∃m p',Yk (FG,[]) m∧EZ pg W (n+4) 27 [sc x p]=R (.d m,[sc x p']):=by
 have hll:=Li V' hd
 simp at hll
 have d2:x.drop (p+bs.length)=[]:=by(refine rp J5 ?_;refine rq hd ?_);simp
 have hl:=λJ=>jb (n:=n+2) (x:=x) (p:=p+bs.length) hx (zoz hll hx hp) J
 rw[d2]at hl
 exact⟨_,_,⟨_,C⟩,zd (F:=F_) C C (jO (zU (c:=1) (f:=22) C C C (yz (n:=n+1) hx (u:=bs) (v:=[]) (λc' r' e=>by contradiction) (by refine rq hd ?_;simp) hp hb) C)<|zG (ze C (hl _) C C C) C) C⟩
def rE {P:Pg} {cl:HM} {c f:Q} {es:X} {as:D Ar} {J ρ1 ρ2 ρ3 U ts':Ev} {fs:D Fl} (ha:Pl P cl es J=R (as,ρ1)) (hi:P.init c=R f) (ht:GK as ρ1=R (U,ρ2)) (U':cl f (R (.o c [])::U)=R (.d .none,R (.o c fs)::ts')) (hb:Id as ts' ρ2=ρ3):
  E0 P cl (.new c es) J=R (.o c fs,ρ3):=bn ha<|bn hi<|bn (o:=GK as ρ1) ht<|bn U'<|(Lh C).trans<|Li (λq=>R (Th.o c fs,q)) hb
def NX:∀ps:D Pc,Sb ps→(∃bs:Sx,(∀c∈bs,c=32∨c=10)∧flat ps=bs∧toks ps=[])∨∃(bs:Sx) (t:Pc) (ps':D Pc),(∀c∈bs,c=32∨c=10)∧(∀c,t≠.bl c)∧flat ps=bs++(t.str++flat ps')∧Sb (t::ps')∧toks ps=toks (t::ps')∧ps'.length<ps.length
 |[],_=>.inl ⟨[],by simp,C,C⟩
 | .bl c::ps,h=>by
  rcases NX ps h.2 with⟨bs,Y,T',h3⟩|⟨bs,t,ps',Y,T',h3,h4,h5,h6⟩
  ·exact .inl ⟨c::bs,λy hy=>by rcases w3.mp hy with C|hy;exact h.1;exact Y y hy,by simp[Pc.str,T'],h3⟩
  ·exact .inr ⟨c::bs,t,ps',λy hy=>by rcases w3.mp hy with C|hy;exact h.1;exact Y y hy,T',by simp[Pc.str,h3],h4,h5,by simp;exact Tv h6⟩
 | .nm s::ps,h=>.inr ⟨[],.nm s,ps,by simp,(λc e=>nomatch e),C,h,C,by simp⟩
 | .nu s::ps,h=>.inr ⟨[],.nu s,ps,by simp,(λc e=>nomatch e),C,h,C,by simp⟩
 | .sg s::ps,h=>.inr ⟨[],.sg s,ps,by simp,(λc e=>nomatch e),C,h,C,by simp⟩
def yB {l:D MV} {i:g'} {j:Q} {m:MV} (hz:l.length≤1000000) (hi:(0≤i∧i=j)∨(i<0∧i+l.length=j)) (h:l[j]?=R m):vf l (.int i)=R m:=by
 have Y:l.length≤Z1:=by refine rq y_ ?_;exact Ga hz omT
 have hj:=(D.getElem?_eq_some_iff.mp h).1
 have e:Df i l.length=R j:=by
  unfold Df
  clear hz;rcases hi with⟨h0,C⟩|⟨h0,T'⟩
  ·have Y:¬((j:g')<0):=by exact xN
   simp[Y,hj]
  ·simp[h0,T',hj]
 refine(?_:(if l.length≤Z1 then(Df i l.length).bind (l[·]?)else Z)=_)
 (refine rq (Lh Y) ?_;refine rq e ?_)
 exact h
def vQ {l:D MV} {m:MV} (hz:l.length+1≤1000000):vf (l++[m]) (.int<| -1)=R m:=
 yB (j:=l.length) (by simp;exact iE hz omT) (.inr ⟨by decide,by simp;exact zo0⟩) (by simp)
nonrec abbrev rF:X:=.cmp .ne (.idx (.idx FD<|.neg<|EY 1)<|EY 0)<|Da HG
nonrec abbrev rG:S:=#v[.app 2<|.meth 1 8 .nil]
def vR {cl:HM} {a b:Lc Th} {l:D MV} {k t:Sx} {s:g'} (hz:l.length+1≤1000000):E0 pg cl rF [a,b,E4<|l++[wz k t s]]=R (.d<|.bool<|!decide (k=HG),[a,b,E4<|l++[wz k t s]]):=
 ze C (yj (qg C (kU (l:=l++[wz k t s]) C C C<|vQ hz) C) C C) C C C
def Jn {t:Pc} {k:Tk} (h:OX t=R k):k.1≠FG:=by
 cases t<;>(first|exact nO h|cases h)<;>exact λh=>by cases h
def Ym (hx:x.length≤1000000) {a:Lc Th} (L:Q):∀(ps:D Pc) (p k:Q) (l:D MV) (k0:Tk) (m0:MV),ps.length<L→Sb ps→x.drop p=flat ps→p≤x.length→Yk k0 m0→k0.1≠FG→L+1≤k→l.length+L≤500001→
  ∃U p',F2 Yk (toks ps++[(FG,[])]) U∧qj (E0 pg (EZ pg W<|n+4) rF) (Fc pg (EZ pg W<|n+4) W 1 rG) k [a,sc x p,E4<|l++[m0]]=R (.nx,[a,sc x p',E4<|l++m0::U]):=by
 induction L with
 |zero=>exact λps p k l k0 m0 hL=>Lg hL<|Du _
 |succ L ih=>
  intro ps p k l k0 m0 hL ho hd hp hm0 hk0 hk hz
  refine Fg (⟨k -2,zo1 hk⟩:∃q,k=q+2) λk e=>?_
  subst e
  refine Fg hm0 λs0 e1=>?_
  clear hm0;subst e1
  have hz1:l.length≤500000:=gw hz
  have ht0:=vR (cl:=EZ pg W<|n+4) (a:=a) (b:=sc x p) (l:=l) (k:=k0.1) (t:=k0.2) (s:=s0)<|yo hz1 omT
  rw[Lk hk0]at ht0
  have hB:∀{m p'},EZ pg W (n+4) 27 [sc x p]=R (.d m,[sc x p'])→Fc pg (EZ pg W<|n+4) W 1 rG [a,sc x p,E4<|l++[wz k0.1 k0.2 s0]]=R (.nx,[a,sc x p',E4<|l++[wz k0.1 k0.2 s0]++[m]]):=λhr=>
   zc (vt C (zU (c:=1) (f:=27) C C C hr C) C<|by refine rq q8 ?_;exact yo (c2:=1) hz1 omT) E8
  refine(NX ps ho).elim (λh=>Hs h λbs Y T' h3=>?_) λh=>M0 h λbs t ps' Y T' h3 h4 h5 h6=>?_
  ·refine F4 (Jm (n:=n) hx Y (by(refine rq hd ?_;exact rq T' C)) hp) λm p' hm hr=>Fg hm λs1 em=>?_
   clear hm;subst em
   refine⟨[_],p',by refine rq h3 ?_;exact #[⟨s1,C⟩],?_⟩
   have:=qf ht0 (hB hr)<|qn (k:=k)<|vR (cl:=EZ pg W<|n+4) (a:=a) (b:=sc x p') (l:=l++[wz k0.1 k0.2 s0]) (k:=FG) (t:=[]) (s:=s1)<|by refine rq q8 ?_;exact yo (c2:=1) (c1:=500001) (yo (c2:=1) hz1 omT) omT
   rw[j3]at this
   exact this
  ·refine M0 (Jl (n:=n) hx Y T' h4 (by(refine rq hd ?_;exact rq h3 C)) hp) λk1 m p' hk1 hm1 hr hd' hp' hlt=>?_
   refine F4 (ih ps' p' (k+1) (l++[wz k0.1 k0.2 s0]) k1 m (v_ h6<|Bt hL) h4.2 hd' hp' hm1 (Jn hk1) (Y4 hk)<|by(refine rq q8 ?_;rewrite [Ca];refine rq (Y5 _ L) ?_);exact hz) λU p'' hF hl=>?_
   refine⟨m::U,p'',?_,?_⟩
   ·refine rq h5 ?_;simp only[toks,Ei,hk1];exact .cons hm1 hF
   ·have:=qf ht0 (hB hr) hl
    rw[j3]at this
    exact this
def Yn {ps:D Pc} (ho:Sb ps) (hx:(flat ps).length≤100000) (hl:ps.length≤100000):
  ∃U,F2 Yk (toks ps++[(FG,[])]) U∧EZ pg W (n+5) 28 [E6<|flat ps]=R (.l U,[E6<|flat ps]):=by
 have hi:EZ pg W (n+4) 19 [R<|.o 1 [],E6<|flat ps]=R (.d .none,[sc (flat ps) 0,E6<|flat ps]):=
  jx (F:=H2) C C (zc (xe C C C)<|zc (xe C C C) E8) C
 have hn:=rE (P:=pg) (cl:=EZ pg W<|n+4) (c:=1) (es:=#[Ff]) (J:=[E6<|flat ps,Z,Z]) (zf C Fk) C C hi C
 rcases NX ps ho with⟨bs,Y,T',h3⟩|⟨bs,t,ps',Y,T',h3,h4,h5,h6⟩
 ·clear ho hi;obtain⟨m,p',⟨s1,C⟩,hr⟩:=Jm (n:=n) (x:=flat ps) (p:=0) (Ga hx omT) Y (by refine rq T' ?_;rfl)<|@RM _
  have ht1:=vR (cl:=EZ pg W<|n+4) (a:=E6<|flat ps) (b:=sc (flat ps) p') (l:=[]) (k:=FG) (t:=[]) (s:=s1)<|by simp
  refine⟨[_],by refine rq h3 ?_;exact #[⟨s1,C⟩],?_⟩
  exact zd (F:=Mg) C C (zt hn C<|zt (Jf (za (zU (c:=1) (f:=27) C C C hr C) Fb) C) C<|jo (qn ht1)<|zw C) C
 ·refine M0 (Jl (n:=n) (x:=flat ps) (p:=0) (Ga hx omT) Y T' h4 (by(refine rq Bn ?_;exact rq h3 C))<|@RM _) λk1 m p' hk1 hm1 hr hd' hp' hlt=>?_
  refine F4 (Ym (n:=n) (x:=flat ps) (a:=E6<|flat ps) (Ga hx omT) 100001 ps' p' W [] k1 m (v_ h6<|Q.le_succ_of_le hl) h4.2 hd' hp' hm1 (Jn hk1) (q0 (by decide) hW)<|by decide) λU p'' hF hl=>?_
  refine⟨m::U,?_,?_⟩
  ·refine rq h5 ?_;simp only[toks,Ei,hk1];exact .cons hm1 hF
  ·exact zd (F:=Mg) C C (zt hn C<|zt (Jf (za (zU (c:=1) (f:=27) C C C hr C) Fb) C) C<|jo hl<|zw C) C
end
mutual namespace A
abbrev jc (ps:D Pc) (o:Lc Q):Lc Q:=(flat ps).head?.or o
abbrev Mw:D Pc→Lc Q→Prop
 |[],_=>True
 |p::ps,o=>NW p (jc ps o)∧Mw ps o
def gW:(∀(x:Lc Q),Mw [] x=True)∧(∀(x:Lc Q) (p:Pc) (ps:D Pc),Mw (p::ps) x=(NW p (jc ps x)∧Mw ps x)):=⟨λH=>C,λH H H=>C⟩
def xn (a b:D Pc) (o:Lc Q):jc (a++b) o=jc a (jc b o):=by
 unfold jc
 rw[Fo]
 cases flat a with
 |nil=>simp
 |cons c r=>simp
def Gd:∀{a b:D Pc} {o:Lc Q},Mw (a++b) o↔Mw a (jc b o)∧Mw b o
 |[],b,o=>by simp[gW]
 |p::a,b,o=>by
  simp only[j6,gW,Gd (a:=a),xn,and_assoc]
def Pt:∀{ps:D Pc},Mw ps Z→Sb ps
 |[],_=>trivial
 |p::ps,h=>⟨by have:=h.1;simpa[jc]using this,Pt h.2⟩
def vS {ps:D Pc} {c:Q} {r:Sx} (h:flat ps=c::r) (o:Lc Q):jc ps o=R c:=by simp[jc,h]
abbrev Rp:D Q:=" )],[.\n:"
abbrev jd (o:Lc Q):Prop:=∀c,o=R c→c∈Rp
def Pu:jd Z:=λc e=>nomatch e
def qB {c:Q} (h:c∈Rp):jd<|R c:=λd e=>by have e:=z' e;subst e;exact h
abbrev Pv (s:Sx):Ld:=
 let r:=s.dropWhile (· !=47)
 (s.takeWhile (· !=47)).all (λc=>decide (c∈GX))&&(match s with|c::_=>decide (c∈IP)|[]=>La)&&
 (match r with|[]=>f'|d::c::q=>d==47&&decide (c∈IP)&&q.all (λc=>decide (c∈GX))|_=>La)
def Wr {s:Sx} (h:Pv s=f'):Wd s∧∃c r,s=c::r∧c∈IP:=by
 unfold Pv at h
 simp only[V1]at h
 obtain⟨⟨Y,T'⟩,h3⟩:=h
 have e:s=s.takeWhile (· !=47)++s.dropWhile (· !=47):=D.takeWhile_append_dropWhile.symm
 refine⟨?_,?_⟩
 ·generalize s.takeWhile (· !=47)=u at Y e
  generalize s.dropWhile (· !=47)=r at h3 e
  subst e
  have hu:∀c∈u,c∈GX:=λc U'=>Lm (Q7.mp Y c U')
  match r,h3 with
  |[],_=>rw[Z8];exact .one hu
  |d::c::q,h3=>
   simp only[V1,beq_iff_eq,decide_eq_true_eq]at h3
   clear Y;obtain⟨⟨C,U'⟩,hq⟩:=h3
   exact .two hu U' λy hy=>Lm<|Q7.mp hq y hy
 ·clear h3 e Y;induction s with
  |nil=>exact nB T'
  |cons c r=>exact⟨c,r,C,Lm T'⟩
def kX {s:Sx} (h:Pv s=f') {o:Lc Q} (ho:jd o):NW (.nm s) o:=by
 refine qk (Wr h) λY T'=>?_
 refine⟨Y,T',λc e=>?_⟩
 have:∀c∈Rp,c∉GX∧c≠47:=by decide
 exact this c (ho c e)
def zrn {k:Q} (h:k<20) {o:Lc Q} (ho:jd o):NW (.nu<|zW k) o:=by
 refine yG ((by decide:∀k:Q,k<20→zW k≠[]∧(∀c∈zW k,c∈MU)∧(zW k).length≤1000) k h) λa b c=>?_
 refine⟨a,b,c,λc e=>?_⟩
 have:∀c∈Rp,c∉GX∧c≠47:=by decide
 exact(this c (ho c e)).1
abbrev Sc:D Sx:=["(",")","[","]","{","}",",","~","^","*","#","."]
def kA {s:Sx} (h:s∈Sc) (o:Lc Q):NW (.sg s) o:=by
 refine yG ((by decide:∀s∈Sc,s∈NV∧s≠"-"∧∀t∈NV,s<+:t→t.length≤s.length) s h) λa b c=>?_
 refine⟨a,λd e=>⟨λt ht hp=>?_,λe=>Lg e b⟩⟩
 have h3:=hp.length_le
 simp at h3;exact zo2 h3<|c t ht<|(BP _ _).trans hp
def zey {s:Sx} (h:s∈NV):NW (.sg s)<|R 32:=by
 exact⟨h,λd e=>by have e:=z' e;subst e;exact⟨(by decide:∀s∈NV,∀t∈NV,¬(s++" ")<+:t) s h,λH=>by decide⟩⟩
abbrev P5:Sx:=IP++MU++"({~^*#-!"
def Ws {c:Q} (h:c∈P5):NW (.sg "!")<|R c:=by
 exact⟨by decide,λd e=>by have e:=z' e;subst e;exact⟨(by decide:∀c∈P5,∀t∈NV,¬([33,c])<+:t) c h,λe=>by cases e⟩⟩
def zez {c:Q} (h:c∈P5) (T':c≠45):NW (.sg "-")<|R c:=by
 exact⟨by decide,λd e=>by have e:=z' e;subst e;exact⟨(by decide:∀c∈P5,∀t∈NV,¬([45,c])<+:t) c h,λH=>T'⟩⟩
abbrev rH (s:Sx):Ld:=decide (s≠[]∧(∀c∈s,c∈MU)∧s.length≤1000)
abbrev ny (c:Q):Pc→Ld
 | .bl d=>Bh d 32||Bh d 10
 | .nm s=>Pv s&&decide (c∉GX∧c≠47)
 | .nu s=>rH s&&decide (c∉GX)
 | .sg s=>decide (s∈NV)&&(NV.all λt=>!decide ((s++[c])<+:t))&&decide (s="-"→c≠45)
def zj5 {c:Q} {p:Pc} (h:ny c p=f'):NW p<|R c:=by
 induction p with
 |bl d=>exact(BJ.mp h).imp Q5 Q5
 |nm s=>
  have h:=w8.mp h
  exact⟨(Wr h.1).1,(Wr h.1).2,λd e=>z' e▸Lm h.2⟩
 |nu s=>
  have h:=w8.mp h
  have Y:=Lm h.1
  exact⟨Y.1,Y.2.1,Y.2.2,λd e=>z' e▸Lm h.2⟩
 |sg s=>
  have h:=w8.mp h
  have Y:=w8.mp h.1
  exact⟨Lm Y.1,λd e=>z' e▸⟨λt ht hp=>by have:=Q7.mp Y.2 t ht;rw[Ll hp]at this;exact nB this,Lm h.2⟩⟩
abbrev SM (b:Ld):D Pc→Ld:=D.rec f' λp ps r=>D.rec (Pc.rec (λd=>Bh d 32||Bh d 10) (λs=>b&&Pv s) (λs=>b&&rH s) (λs=>decide (s∈Sc)) p) (λq H H=>D.rec La (λc H H=>ny c p&&r) q.str) ps
def KA {b:Ld} {ps:D Pc} (h:SM b ps=f') {o:Lc Q} (ho:b=f'→jd o):Mw ps o:=by
 induction ps with
 |nil=>trivial
 |cons p ps ih=>
  cases ps with
  |nil=>
   refine⟨?_,trivial⟩
   cases p with
   |bl d=>exact(BJ.mp h).imp Q5 Q5
   |nm s=>have h:=w8.mp h;exact kX h.2<|ho h.1
   |nu s=>
    have h:=w8.mp h
    have Y:=Lm h.2
    exact⟨Y.1,Y.2.1,Y.2.2,λc e=>((by decide:∀c∈Rp,c∉GX) c<|ho h.1 c e)⟩
   |sg s=>exact kA (Lm h) _
  |cons q r=>
   replace h:(D.rec La (λc H H=>ny c p&&SM b (q::r)) q.str:Ld)=f':=h
   generalize e:q.str=s at h
   cases s with
   |nil=>exact nB h
   |cons c s=>
    have h:=w8.mp h
    refine⟨?_,ih h.2⟩
    rw[vS<|show flat (q::r)=c::(s++flat r) by rw[F9,e];rfl]
    exact zj5 h.1
def MF {ps:D Pc} (h:SM La ps=f') {o:Lc Q}:Mw ps o:=KA h λe=>nB e
abbrev rI (ps:D Pc):Ld:=SM f' ps&&D.rec f' (λc H H=>decide (c∈Rp)) (flat ps)
def Wu {ps:D Pc} (h:rI ps=f') {o:Lc Q} (ho:jd o):Mw ps o∧jd (jc ps o):=by
 have h:=w8.mp h
 refine⟨KA h.1 λH=>ho,?_⟩
 have T':=h.2
 unfold jc
 generalize flat ps=s at T'
 cases s with
 |nil=>exact ho
 |cons c s=>exact qB<|Lm T'
def TQ {ps:D Pc} (h:SM f' ps=f') {o:Lc Q} (ho:jd o):Mw ps o:=KA h λH=>ho
nonrec abbrev FC (p:D Pc):Prop:=∃c r,flat p=c::r∧c∈P5
structure Good (p:D Pc):Prop where
 ok:∀o,jd o→Mw p o
 fc:FC p
def nz {s:Sx} {c:Q} (h:s.head?=R c):s=c::s.tail:=by
 induction s with
 |nil=>exact nO h
 |cons a s ih=>exact z' h▸C
def Good.fst {p:D Pc} (h:Good p) (o:Lc Q):∃c,jc p o=R c∧c∈P5:=by
 refine F4 h.fc λc r e U'=>?_
 exact⟨c,vS e o,U'⟩
def Jo {p:D Pc} (h:Good p):Good<|wy p:=by
 refine⟨λo ho=>?_,40,flat p++")",by simp[wy,Pc.str],by decide⟩
 unfold wy
 rw[j3,Gd,Gd]
 exact⟨(MF C),h.ok _<|qB<|by decide,kA (by decide) _,trivial⟩
def qF {p:D Pc} (h:Good p) (l k:g'):Good<|zZ l k p:=by
 unfold zZ;split
 ·exact h
 ·exact Jo h
def Yo {p:D Pc} (h:Good p):Good<|qu p:=by
 unfold qu;split
 ·exact Jo h
 ·exact h
def IG:∀{l:D<|D Pc},(∀p∈l,Good p)→∀o,jd o→Mw (zo l) o
 |[],_,o,_=>trivial
 |a::r,h,o,ho=>by
  have tl:∀r:D<|D Pc,(∀p∈r,Good p)→Mw ((r.map λb=>[.sg ",",sp]++b).flatten) o∧jd (jc ((r.map λb=>[.sg ",",sp]++b).flatten) o):=by
   intro r
   induction r with
   |nil=>intro _;exact⟨trivial,by simpa[jc]using ho⟩
   |cons b r ih=>
    intro h
    refine qk (ih λy hy=>h y<|q_ _ hy) λY T'=>?_
    (refine rq w5 ?_;refine rq W6 ?_)
    refine⟨?_,?_⟩
    ·rw[j3,Gd,Gd]
     exact⟨(MF C),(h b<|j0 ..).ok _ T',Y⟩
    ·have:jc ([.sg ",",sp]++b++((r.map λb=>[.sg ",",sp]++b).flatten)) o=R 44:=by simp[jc,Pc.str]
     refine rq this ?_;exact qB<|by decide
  refine qk (tl r λy hy=>h y<|q_ _ hy) λY T'=>?_
  unfold zo
  rw[Gd]
  exact⟨(h a<|j0 ..).ok _ T',Y⟩
def Sd:∀{l:D<|D Pc},(∀p∈l,Good p)→∀o,jd o→Mw (qz l) o
 |[],_,o,_=>trivial
 |a::r,h,o,ho=>by
  have tl:∀r:D<|D Pc,(∀p∈r,Good p)→Mw ((r.map λb=>sp::b).flatten) o∧jd (jc ((r.map λb=>sp::b).flatten) o):=by
   intro r
   induction r with
   |nil=>intro _;exact⟨trivial,by simpa[jc]using ho⟩
   |cons b r ih=>
    intro h
    refine qk (ih λy hy=>h y<|q_ _ hy) λY T'=>?_
    (refine rq w5 ?_;refine rq W6 ?_)
    refine⟨?_,?_⟩
    ·(refine rq (show(sp::b)++((r.map λb=>sp::b).flatten)=[sp]++(b++((r.map λb=>sp::b).flatten))from C) ?_;rw[Gd,Gd])
     exact⟨(MF C),(h b<|j0 ..).ok _ T',Y⟩
    ·have:jc ((sp::b)++((r.map λb=>sp::b).flatten)) o=R 32:=by simp[jc,Pc.str]
     refine rq this ?_;exact qB<|by decide
  refine qk (tl r λy hy=>h y<|q_ _ hy) λY T'=>?_
  unfold qz
  rw[Gd]
  exact⟨(h a<|j0 ..).ok _ T',Y⟩
def Jp {l:D<|D Pc} (h:∀p∈l,Good p):Good<|FA l:=by
 induction l with
 |nil=>exact⟨λo ho=>(MF C),123," }",C,by decide⟩
 |cons a r=>
  refine⟨λo ho=>?_,123,_,by simp[IM,Pc.str];rfl,by decide⟩
  refine(?_:Mw ([.sg "{",sp]++qz ((a::r).map qu)++[sp,.sg "}"]) o)
  rw[j3,Gd,Gd]
  refine⟨(MF C),Sd (λp hp=>?_) _<|qB (c:=32)<|by decide,.inl C,kA (by decide) _,trivial⟩
  refine E7 (J9.mp hp) λq hq e2=>?_
  clear hp;subst e2
  exact Yo<|h q hq
def Se:∀x∈MN,Pv x=f'∧∃c∈P5,c≠45∧x.head?=R c:=by decide
def SN:∀x∈IN,Pv x=f':=by decide
def Rq:∀x∈Gq,Pv x=f':=by decide
def SP:∀x∈Rj,Pv x=f':=by decide
def SQ:∀x∈Oa,x=[]∨Pv x=f':=by decide
def NY:∀x∈GE,x=[]∨Pv x=f':=by decide
def Sf:∀x∈Gk,Pv x=f':=by decide
def zrp {x:Sx} (h:Pv x=f'):∃c r,x=c::r∧c∈P5∧c≠45:=by
 refine cps λGG kk=>?_
 obtain⟨-,c,r,e,U'⟩:=Wr h
 have:∀c∈IP,c∈P5∧c≠45:=by decide
 refine kk ?_
 exact⟨c,r,e,this c U'⟩
set_option tactic.hygienic true in
def ZX {w:Sx} (h:w=[]∨Pv w=f') {o:Lc Q}:Mw (zF w) o:=by
 unfold zF;split
 ·trivial
 ·rename_i hn
  rcases h with C|h
  ·exact Lg C hn
  ·exact⟨kX h<|qB (c:=32)<|by decide,.inl C,trivial⟩
set_option tactic.hygienic true in
def zj6 {s:Sx} (hs:s∈HA) {c:Q} (U':c∈P5):Mw (kg s++N6 s++kg s) (R c)∧jd (jc (kg s++N6 s++kg s)<|R c):=by
 by_cases h46:s="."
 ·subst h46
  exact⟨(MF C),qB (c:=46)<|by decide⟩
 ·have e:kg s=[sp]:=Lj h46
  refine rq e ?_
  refine⟨?_,qB (c:=32)<|by decide⟩
  refine⟨.inl C,?_⟩
  refine(?_:Mw (N6 s++[sp]) _)
  rw[Gd]
  refine⟨?_,.inl C,trivial⟩
  refine(?_:Mw (N6 s)<|R 32)
  unfold N6
  split
  ·rename_i h;clear h46 e;subst h;exact⟨kX (by decide)<|qB<|by decide,trivial⟩
  ·split
   ·exact⟨Ws (by decide),kX (by decide)<|qB<|by decide,trivial⟩
   ·rename_i Y T'
    have:∀s∈HA,s≠"in"→s≠"!in"→s∈NV:=by decide
    exact⟨zey<|this s hs Y T',trivial⟩
def zj7 {s:Sx}:s∈HA→(10≤Ir s→10≤js s):=by
 have:∀s∈HA,(10≤Ir s→10≤js s):=by decide
 exact this s
structure Jq (d:Nd):Prop extends Good (Ge d) where
 f10:10≤lv d→∃c r,flat (Ge d)=c::r∧c≠45
def Wv {d:Nd} (h:Jq d) {k:g'} (hk:10≤k):∃c r,flat (zZ (lv d) k<|Ge d)=c::r∧c≠45:=by
 unfold zZ;split
 ·exact h.f10<|y7 hk ‹_›
 ·exact⟨40,flat (Ge d)++")",by simp[wy,Pc.str],by decide⟩
def Ww {a b:D Pc} {c:Q} {r:Sx} (h:flat a=c::r):flat (a++b)=c::(r++flat b):=by(rewrite [Fo];refine rq h ?_);rfl
abbrev OY (p:D Pc):Prop:=∃c r,flat p=c::r∧c≠45
def FC.app {a b:D Pc} (h:FC a):FC<|a++b:=F4 h λc r e m=>⟨c,_,Ww e,m⟩
def OY.app {a b:D Pc} (h:OY a):OY<|a++b:=F4 h λc r e m=>⟨c,_,Ww e,m⟩
def vz {x:Sx} (h:Pv x=f') {ps:D Pc}:FC (.nm x::ps)∧OY (.nm x::ps):=Fv (zrp h) λc r e Y T'=>by
 subst e;exact⟨⟨c,_,C,Y⟩,c,_,C,T'⟩
def rJ {k:Q} (h:k<20):FC [.nu<|zW k]∧OY [.nu<|zW k]:=Hs ((by decide:∀k:Q,k<20→∃c,c∈P5∧c≠45∧(zW k).head?=R c) k h) λc Y T' h3=>by
 have e:zW k=c::(zW k).tail:=nz h3
 have e:flat [.nu<|zW k]=c::((zW k).tail++[]):=Li (· ++[]) e
 exact⟨⟨c,_,e,Y⟩,c,_,e,T'⟩
def Hm {a b:D Pc} {o:Lc Q} (Y:Mw a<|jc b o) (T':Mw b o):Mw (a++b) o:=Gd.mpr ⟨Y,T'⟩
def xo {as:D Nd} (z_:∀a∈as,Wf a→Jq a) (w:PX as):∀p∈FX as,Good p:=by
 induction as with
 |nil=>exact λp h=>nomatch h
 |cons a as ih=>exact Q_.mpr ⟨(z_ a (.head _) w.1).toGood,ih (λb h=>z_ b<|.tail _ h) w.2⟩
def Ob:jd<|R 32:=qB<|by decide
def ax:∀xs∈R7,(SM f' (vr xs)=f')∧∃c,c∈P5∧(flat<|vr xs).head?=R c:=by decide
def zbn {d:Dc} (z_:Wf (Nc d)→Jq (Nc d)) (w:PY d):Good<|Mm d:=by
 cases d with
 |mk dj xs mu a=>
  refine qk (ax xs w.1) λg h=>E7 h λc U' e=>?_
  refine⟨λo ho=>Hm (Hm (Hm (Hm ?_<|TQ g<|qB<|by decide)<|MF C)<|ZX<|SQ mu w.2.1)<|(qF (z_ w.2.2).toGood (lv a) 8).ok o ho,FC.app<|FC.app<|FC.app ?_⟩
  ·induction dj
   ·trivial
   ·exact MF C
  ·induction dj
   ·exact⟨c,_,nz e,U'⟩
   ·exact FC.app (vz C).1
def vT {ds:D Dc} (z_:∀d∈ds,Wf (Nc d)→Jq (Nc d)) (w:MT ds):∀p∈FM ds,Good p:=by
 induction ds with
 |nil=>exact λp h=>nomatch h
 |cons a as ih=>exact Q_.mpr ⟨zbn (z_ a<|.head _) w.1,ih (λb h=>z_ b<|.tail _ h) w.2⟩
def gX:∀h∈Nf,h∉Gk→h∈["~","^","*","#","-","!"]:=by decide
def zrq {h:Sx} {p:D Pc} (hh:h∈["~","^","*","#","-","!"]) {c:Q} (U':c∈P5) (h5:h="-"→c≠45):NW (.sg h) (R c)∧FC [.sg h]∧(10≤I_ h→OY [.sg h]):=by
 simp only[w3,Z_,or_false]at hh
 rcases hh with C|rfl|rfl|rfl|rfl|rfl
 ·exact⟨kA (by decide) _,⟨_,_,C,by decide⟩,λH=>⟨_,_,C,by decide⟩⟩
 ·exact⟨kA (by decide) _,⟨_,_,C,by decide⟩,λH=>⟨_,_,C,by decide⟩⟩
 ·exact⟨kA (by decide) _,⟨_,_,C,by decide⟩,λH=>⟨_,_,C,by decide⟩⟩
 ·exact⟨kA (by decide) _,⟨_,_,C,by decide⟩,λh=>Lg h<|by decide⟩
 ·exact⟨zez U'<|h5 C,⟨_,_,C,by decide⟩,λh=>Lg h<|by decide⟩
 ·exact⟨Ws U',⟨_,_,C,by decide⟩,λh=>Lg h<|by decide⟩
set_option tactic.hygienic true in
def Jr (d:Nd):Wf d→Jq d:=by
 induction d using Nd.ind with
 |name x=>exact λw=>have h:=(Se x w).1;⟨⟨λo ho=>⟨kX h ho,trivial⟩,(vz h).1⟩,λH=>(vz h).2⟩
 |num k=>exact λw=>⟨⟨λo ho=>⟨zrn w ho,trivial⟩,(rJ w).1⟩,λH=>(rJ w).2⟩
 |con x=>exact λw=>have h:=SN x w;⟨⟨λo ho=>⟨kX h ho,trivial⟩,(vz h).1⟩,λH=>(vz h).2⟩
 |un h a iha=>
  intro w
  have ga:=iha w.2
  have gp:=qF ga.toGood (lv a)<|if h="-"then 10 else I_ h
  suffices z_:∀{o},jd o→Mw (if h∈Gk then [.nm h,sp]else [.sg h]) (jc (zZ (lv a) (if h="-"then 10 else I_ h)<|Ge a) o)∧FC (if h∈Gk then [.nm h,sp]else [.sg h])∧(10≤I_ h→OY (if h∈Gk then [.nm h,sp]else [.sg h]))from
   ⟨⟨λo ho=>Hm (z_ ho).1<|gp.ok o ho,(z_ Pu).2.1.app⟩,λhl=>((z_ Pu).2.2 hl).app⟩
  intro o ho
  split
  ·rename_i hm
   have Y:=Sf h hm
   exact⟨⟨kX Y Ob,.inl C,trivial⟩,(vz Y).1,λH=>(vz Y).2⟩
  ·rename_i hm
   refine E7 (gp.fst o) λc hf U'=>?_
   refine yG (zrq (p:=[]) (gX h w.1 hm) U' λe=>?_) λY T' h3=>⟨⟨hf.symm▸Y,trivial⟩,T',h3⟩
   rw[Lh e]at hf
   refine F4 (Wv (k:=10) ga<|by decide) λc3 r3 e3 hn3=>?_
   have:=(vS e3 o).symm.trans hf
   exact z' this▸hn3
 |bin s a b iha ihb=>
  intro w
  have ga:=iha w.2.1
  have pa:=qF ga.toGood (lv a)<|js s
  have pb:=qF (ihb w.2.2).toGood (lv b)<|jv s
  refine⟨⟨λo ho=>?_,pa.fc.app.app.app.app⟩,λhl=>(show OY _ from Wv (k:=js s) ga (zj7 w.1 hl)).app.app.app.app⟩
  refine E7 (pb.fst o) λc2 hf hc2=>?_
  refine qk (zj6 w.1 hc2) λg1 g2=>?_
  rw[←hf]at g1 g2
  rw[xn,xn]at g2
  refine qk (Gd.mp g1) λg1 g3=>qk (Gd.mp g1) λg1 g4=>Hm (Hm (Hm (Hm (pa.ok _ g2) g1) g4) g3)<|pb.ok o ho
 |arrow l r a b iha ihb=>
  intro w
  have ga:=iha w.2.2.1
  have pa:=qF ga.toGood (lv a) 12
  refine⟨⟨λo ho=>Hm (Hm (Hm (Hm (pa.ok _ ?_) ?_)<|MF C)<|ZX<|NY r w.2.1)<|(qF (ihb w.2.2.2).toGood (lv b) 13).ok o ho,pa.fc.app.app.app.app⟩,λhl=>(show OY _ from Wv (k:=12) ga (by decide)).app.app.app.app⟩
  ·split<;>exact Ob
  ·split
   ·trivial
   ·rename_i hn
    exact(NY l w.1).elim (λh=>Lg h hn) λh=>⟨.inl C,kX h Ob,trivial⟩
 |box a as iha ihs=>
  intro w
  have ga:=iha w.1
  have pa:=qF ga.toGood (lv a) 15
  exact⟨⟨λo ho=>Hm (Hm (Hm (pa.ok _<|qB (c:=91)<|by decide)<|MF C)<|IG (xo ihs w.2.1) _<|qB (c:=93)<|by decide)<|MF C,pa.fc.app.app.app⟩,λhl=>(show OY _ from Wv (k:=15) ga (by decide)).app.app.app⟩
 |ite a b c iha ihb ihc=>
  intro w
  have pa:=qF (iha w.1).toGood (lv a) 4
  exact⟨⟨λo ho=>Hm (Hm (Hm (Hm (pa.ok _ Ob)<|MF C)<|(qF (ihb w.2.1).toGood (lv b) 4).ok _ Ob)<|MF C)<|(qF (ihc w.2.2).toGood (lv c) 3).ok o ho,pa.fc.app.app.app.app⟩,λhl=>Lg hl<|show¬(10:g')≤3 by decide⟩
 |quant q ds a ihs iha=>
  intro w
  have Y:=Rq q w.1
  exact⟨⟨λo ho=>Hm (Hm (Hm ⟨kX Y Ob,.inl C,trivial⟩<|IG (vT ihs w.2.1) _ Ob)<|MF C)<|(iha w.2.2.2.2).ok o ho,(vz Y).1.app.app.app⟩,λhl=>Lg hl<|show¬(10:g')≤0 by decide⟩
 |lett x v a ihv iha=>
  intro w
  exact⟨⟨λo ho=>Hm (Hm (Hm ⟨kX (by decide) Ob,.inl C,kX (SP x w.1) Ob,MF C⟩<|(ihv w.2.1).ok _ Ob)<|MF C)<|(iha w.2.2).ok o ho,(vz<|by decide).1.app.app.app⟩,λhl=>Lg hl<|show¬(10:g')≤0 by decide⟩
 |block as ihs=>
  intro w
  refine⟨Jp<|xo ihs w.1,λH=>?_⟩
  refine(?_:OY<|FA<|FX as)
  cases FX as with
  |nil=>exact⟨123," }",C,by decide⟩
  |cons a r=>exact OY.app<|OY.app ⟨123," ",C,by decide⟩
 |compr ds a ihs iha=>
  intro w
  exact⟨⟨λo ho=>Hm (Hm (Hm (Hm (MF C)<|IG (vT ihs w.1) _ Ob)<|MF C)<|(iha w.2.2.2).ok _ Ob)<|MF C,FC.app<|FC.app<|FC.app<|FC.app ⟨123," ",C,by decide⟩⟩,λH=>OY.app<|OY.app<|OY.app<|OY.app ⟨123," ",C,by decide⟩⟩
def zrr (as:D Nd) (w:PX as):∀p∈FX as,Good p:=xo (λa H=>Jr a) w
def rK (ds:D Dc) (w:MT ds):∀p∈FM ds,Good p:=vT (λd H=>Jr<|Nc d) w
nonrec abbrev pr (c:Q) (U:D MV) (p:Q) (dp:g'):Lc Th:=R<|.o c [.l U,.d<|.int p,.d<|.int dp]
abbrev FE (c:Q):Prop:=c=2∨c=3
def Ng {c m f:Q} (U':FE c) (T':Kr 2 m=R f) (h3:Kr 3 m=R f):pg.mt c m=R f:=by rcases U' with C|rfl;exact T';exact h3
structure E2 (U:D MV) (p:Q) (l:D Tk):Prop where
 f:F2 Yk l (U.drop p)
 z:U.length≤200000
 e:∃l0,l=l0++[(FG,[])]
def zs8 {α β:Type} {I':α→β→Prop} {l:D α} {m:D β} (h:F2 I' l m):∀{i:Q} {a:α},l[i]?=R a→∃b,m[i]?=R b∧I' a b:=
 F2.ind (P:=λl m=>∀{i:Q} {a:α},l[i]?=R a→∃b,m[i]?=R b∧I' a b) (λe=>nomatch e) (λa b l m p H ih i x e=>by
  induction i with
  |zero=>exact⟨b,C,z' e▸p⟩
  |succ i=>exact ih e) h
def zs9 {α β:Type} {I':α→β→Prop} (i:Q) {l:D α} {m:D β} (h:F2 I' l m):F2 I' (l.drop i)<|m.drop i:=by
 induction i generalizing l m with
 |zero=>exact h
 |succ i ih=>
  induction m with
  |nil=>cases (h:l=[]);exact .nil
  |cons b m=>exact Fv h λa k e H q=>by clear tail_ih h H;subst e;exact ih q
def E2.ne {U:D MV} {p:Q} {l:D Tk} (v:E2 U p l):0<l.length:=by obtain⟨l0,C⟩:=v.e;simp
def E2.len {U:D MV} {p:Q} {l:D Tk} (v:E2 U p l):U.length=p+l.length:=by
 have Y:=F2.len v.f
 rw[V9]at Y
 exact zo3 (v.ne) Y
def E2.get {U:D MV} {p i:Q} {l:D Tk} {t:Tk} (v:E2 U p l) (h:l[i]?=R t):∃s:g',U[p+i]?=R (wz t.1 t.2 s):=by
 refine cps λGG kk=>?_
 obtain⟨m,Y,s,C⟩:=zs8 v.f h
 rw[D.getElem?_drop]at Y
 refine kk ?_
 exact⟨s,Y⟩
def E2.step {U:D MV} {p:Q} {t:Tk} {l:D Tk} (v:E2 U p<|t::l) (h:t.1≠FG):E2 U (p+1) l:=by
 refine⟨?_,v.z,?_⟩
 ·have:=zs9 1 v.f
  rwa [J5]at this
 ·refine Fg v.e λl0 e=>?_
  induction l0 with
  |nil=>clear v;cases e;exact Lg C h
  |cons a l0=>clear h tail_ih v;cases e;exact⟨l0,C⟩
set_option tactic.hygienic true in
def jp {k a:D Q} {x m:MV} {l:D<|D Q×MV} (h:zA k ((a,x)::l)=R m):(k=a∧m=x)∨zA k l=R m:=by
 unfold zA at h
 split at h
 ·rename_i e;replace h:=z' h;subst h;exact .inl ⟨e.symm,C⟩
 ·exact .inr h
abbrev wd (x:Sx):Sx:=match zA x (Hd 0)with|R (.str y)=>y|_=>x
def zrs (x:Sx):(zA x<|Hd 0).getD (.str x)=.str (wd x):=by
 unfold wd
 induction h:zA x (Hd 0)with
 |Z=>rfl
 |R m=>
  have:∃y,m=.str y:=by
   rcases jp h with⟨-,C⟩|h;exact⟨_,C⟩
   rcases jp h with⟨-,C⟩|h;exact⟨_,C⟩
   rcases jp h with⟨-,C⟩|h;exact⟨_,C⟩
   rcases jp h with⟨-,C⟩|h;exact⟨_,C⟩
   rcases jp h with⟨-,C⟩|h;exact⟨_,C⟩
   rcases jp h with⟨-,C⟩|h;exact⟨_,C⟩
   exact nO h
  refine Fg this λy e1=>?_
  clear h this;subst e1
  rfl
abbrev gY:D Sx:=[GA,"all","and","as",GI,"but",H0,GF,GH,Mu,Hh,Ix,H1,HR,"for",Ma,Hr,"iff","implies","in",HE,Fy,"module","no",Ho,"not",FN,HQ,"or",HS,"run",Gv,G2,Fx,"sum",Hq]
abbrev qC (t:Tk):Ld:=decide (t.1=BT)&&decide (t.2∉gY)
def qJ {k:Sx}:∀r:D Sx,jD k (r.map .str)=R (decide (k∈r))
 |[]=>rfl
 |x::r=>by
  simp only[w5,jD,qJ r,BC,w3]
  congr 1
  by_cases Y:x=k
  ·subst Y;simp
  ·have:¬k=x:=λe=>Y e.symm
   simp[Y,this]
abbrev zV (l:D Tk) (a:Q):Tk:=(l[min a<|l.length -1]?).getD (FG,[])
def E2.ahead {U:D MV} {p:Q} {l:D Tk} (v:E2 U p l) (a:Q):∃s:g',U[p+min a (l.length -1)]?=R (wz (zV l a).1 (zV l a).2 s):=by
 have h:=v.ne
 have Y:min a (l.length -1)<l.length:=by exact zo4 h
 have e:l[min a<|l.length -1]?=R l[min a<|l.length -1]:=D.getElem?_eq_getElem Y
 refine Fg (v.get e) λs hs=>?_
 refine⟨s,?_⟩
 refine rq hs ?_;unfold zV;refine rq e ?_;rfl
end
mutual section
variable {P:Pg} {cl:HM} {J ρ1 ρ2:Ev} {a b:X} {x y:g'}
def zj8 (ha:E0 P cl a J=R (.d<|.int x,ρ1)) (hb:E0 P cl b ρ1=R (.d<|.int y,ρ2)):E0 P cl (.min2 a b) J=R (.d<|.int<|min x y,ρ2):=bn ha<|bn C<|bn hb<|bn C C
def zj9 {M':Q} {k:Sx} {m:MV} (ha:E0 P cl a J=R (.d<|.str k,ρ1)) (hb:E0 P cl b ρ1=R (.d m,ρ2)):E0 P cl (.dget M' a b) J=R (.d<|(zA k<|P.ds M').getD m,ρ2):=bn ha<|bn C<|bn hb<|bn C C
def Js {M':Q} {k:Sx} (ha:E0 P cl a J=R (.d<|.str k,ρ1)):E0 P cl (.din M' a) J=R (.d<|.bool (zA k<|P.ds M').isSome,ρ1):=bn ha<|bn C C
def KB {M':Q} {k:Sx} {m:MV} (ha:E0 P cl a J=R (.d<|.str k,ρ1)) (h:zA k (P.ds M')=R m):E0 P cl (.didx M' a) J=R (.d m,ρ1):=bn ha<|bn C<|mp h C
end
mutual section
variable {n c p:Q} {U:D MV} {dp:g'} {t:Tk} {l:D Tk}
def zrt (h:U.length≤200000):aH .len (.l U)=R (.int (U.length:Q)):=by
 have:U.length≤Z1:=by refine rq y_ ?_;exact Ga h omT
 exact Lh this
def E2.at0 (v:E2 U p<|t::l):∃s:g',U[p]?=R (wz t.1 t.2 s):=v.get (i:=0) C
def wS {J:Ev} {cl:HM} (U':FE c) {b:X} {i:g'} {j:Q} {m:MV} (hz:U.length≤200000) (hb:E0 pg cl b (pr c U p dp::J)=R (.d<|.int i,pr c U p dp::J)) (hp:ON b=f') (hi:0≤i∧i=j) (h:U[j]?=R m):
  E0 pg cl (.idx (.fld 2 0 0) b) (pr c U p dp::J)=R (.d m,pr c U p dp::J):=by
 refine kU (l:=U) ?_ (by simp[hp]) hb<|yB (Ga hz omT) (.inl hi) h
 clear hz hb hp hi h;rcases U' with C|rfl<;>rfl
def Zp {J:Ev} {cl:HM} (U':FE c):E0 pg cl (.fld 2 0 1) (pr c U p dp::J)=R (.d<|.int p,pr c U p dp::J):=by
 rcases U' with C|rfl<;>rfl
def vA (U':FE c) (v:E2 U p<|t::l):EZ pg W (n+1) 30 [pr c U p dp]=R (.d<|.str t.1,[pr c U p dp]):=by
 refine Fg v.at0 λs h=>?_
 exact zd (F:=IS) C C (zw<|yj (qg C (wS U' v.z (Zp U') C iK h) C) C C) C
def ze0 (U':FE c) (v:E2 U p<|t::l):∃s:g',EZ pg W (n+1) 32 [pr c U p dp]=R (.d<|.int s,[pr c U p dp]):=by
 refine Fg v.at0 λs h=>?_
 exact⟨s,zd (F:=IU) C C (zw<|yj (qg C (wS U' v.z (Zp U') C iK h) C) C C) C⟩
def rL {a:Q} {cl:HM} {J:Ev} (U':FE c) (v:E2 U p l):E0 pg cl (.min2 (.bin .add (.fld 2 0 1) Fe)<|.bin .sub (.b1 .len<|.fld 2 0 0)<|EY 1) (pr c U p dp::E9 (a:Q)::J)=
  R (.d<|.int<|(p+min a (l.length -1):Q),pr c U p dp::E9 (a:Q)::J):=by
 have hl:=v.len
 have:=zj8 (zY (Zp U') C C:E0 pg cl (.bin .add (.fld 2 0 1) Fe) (pr c U p dp::E9 (a:Q)::J)=R (.d<|.int<|(p:g')+a,pr c U p dp::E9 (a:Q)::J)) (zY (jJ (w:=.l U) (by rcases U' with C|rfl<;>rfl)<|zrt v.z) C C:E0 pg cl (.bin .sub (.b1 .len<|.fld 2 0 0)<|EY 1) (pr c U p dp::E9 (a:Q)::J)=R (.d<|.int ((U.length:Q) -1:g'),pr c U p dp::E9 (a:Q)::J))
 refine rq this ?_
 congr 3
 refine rq hl ?_;congr 1;exact zo5<|v.ne
def vC (U':FE c) (v:E2 U p l) (a:Q):EZ pg W (n+1) 31 [pr c U p dp,E9 (a:Q)]=R (.d<|.str<|wd (zV l a).2,[pr c U p dp,E9 (a:Q)]):=by
 refine Fg (v.ahead a) λs h=>?_
 rw[←zrs]
 have hi:∀ρ2,E0 pg (EZ pg W n) (.idx (.idx (.fld 2 0 0) FD)<|EY 1) (pr c U p dp::E9 (a:Q)::E9 ((p+min a (l.length -1):Q))::ρ2)=R (.d<|.str (zV l a).2,pr c U p dp::E9 (a:Q)::E9 ((p+min a (l.length -1):Q))::ρ2):=
  λρ2=>yj (qg C (wS U' v.z (b:=.var 2) (i:=((p+min a (l.length -1):Q))) C C oE h) C) C C
 exact zd (F:=IT) C C (zt (rL U' v) C<|zw<|zj9 (P:=pg) (M':=0) (hi _)<|hi _) C
def wu (U':FE c) (v:E2 U p l) (a:Q):EZ pg W (n+1) 36 [pr c U p dp,E9 (a:Q)]=R (.d<|.bool<|qC<|zV l a,[pr c U p dp,E9 (a:Q)]):=by
 refine Fg (v.ahead a) λs h=>?_
 have hi:∀(ρ2:Ev) (k:g') (z:MV),vf [.str (zV l a).1,.str (zV l a).2,.int s] (.int k)=R z→E0 pg (EZ pg W n) (.idx (.idx (.fld 2 0 0) FD)<|EY k) (pr c U p dp::E9 (a:Q)::E9 ((p+min a (l.length -1):Q))::ρ2)=R (.d z,pr c U p dp::E9 (a:Q)::E9 ((p+min a (l.length -1):Q))::ρ2):=
  λρ2 k z hk=>yj (qg C (wS U' v.z (b:=.var 2) (i:=((p+min a (l.length -1):Q))) C C oE h) C) C hk
 refine zd (F:=H5) (J:=pr c U p dp::E9 (a:Q)::E9 ((p+min a (l.length -1):Q))::[]) C C (zt (rL U' v) C<|zq<|jK (v:=.d<|.bool<|qC<|zV l a) ?_) C
 have Y:E0 pg (EZ pg W n) (.cmp .eq (.idx (.idx (.fld 2 0 0) FD)<|EY 0)<|Da Fz) (pr c U p dp::E9 (a:Q)::E9 ((p+min a (l.length -1):Q))::[])=R (.d<|.bool<|decide ((zV l a).1=BT),pr c U p dp::E9 (a:Q)::E9 ((p+min a (l.length -1):Q))::[]):=
  ze C (hi _ 0 _ C) C C C
 unfold qC
 clear v h;induction hq:decide ((zV l a).1=BT)with
 |La=>rw[hq]at Y;exact zu Y
 |f'=>
  rw[hq]at Y
  refine zi Y<|ze C (hi _ 1 _ C) C C ?_
  refine(?_:(jD (zV l a).2<|gY.map .str).map (!·)=_)
  rw[qJ]
  simp
def ZY (U':FE c) (v:E2 U p<|t::l):EZ pg W (n+1) 33 [pr c U p dp]=R (.d<|.str t.2,[pr c U (p+1) dp]):=by
 refine Fg v.at0 λs h=>?_
 exact zd (F:=IV) C C (zc (by rcases U' with C|rfl<;>rfl:Fc pg (EZ pg W n) W 1 (.augF 2 0 1 .add<|EY 1) ([pr c U p dp]++Bm 0 Z)=R (.nx,[pr c U (p+1) dp]))<|zw<|yj (qg C (wS U' v.z (b:=.bin .sub (.fld 2 0 1)<|EY 1) (i:=((p+1:Q):g') -1) (j:=p) (zY (Zp U') C C) C zo6 h) C) C C) C
def yC (U':FE c):pg.mt c 9=R 30:=Ng U' C C
def Wx (U':FE c) (v:E2 U p<|t::l) (x:Sx):EZ pg W (n+2) 34 [pr c U p dp,E6 x]=R (.d<|.bool<|decide (t.1≠FG∧t.2=x),[pr c U (if t.1≠FG∧t.2=x then p+1 else p) dp,E6 x]):=by
 refine Fg v.at0 λs h=>?_
 have hk:E0 pg (EZ pg W<|n+1) (.cmp .ne (.meth 0 9 .nil)<|Da HG) [pr c U p dp,E6 x]=R (.d<|.bool<|!decide (t.1=FG),[pr c U p dp,E6 x]):=
  ze C (zU (c:=c) C (yC U') C (vA U' v) C) C C C
 have ht:E0 pg (EZ pg W<|n+1) (.cmp .eq (.idx (.idx (.fld 2 0 0)<|.fld 2 0 1)<|EY 1) Fe) [pr c U p dp,E6 x]=R (.d<|.bool<|decide (t.2=x),[pr c U p dp,E6 x]):=
  ze C (yj (qg C (wS U' v.z (Zp U') C iK h) C) C C) C C C
 by_cases Y:t.1=FG
 ·rw[Ll Y]at hk
  (refine rq (Lk λh=>h.1 Y) ?_;refine rq (Lj λh=>h.1 Y) ?_)
  exact zd (F:=GR) C C (zb (zu hk)<|zw C) C
 ·rw[Lk Y]at hk
  by_cases T':t.2=x
  ·rw[Ll T']at ht
   (refine rq (Ll ⟨Y,T'⟩) ?_;refine rq (Lh ⟨Y,T'⟩) ?_)
   exact zd (F:=GR) C C (zq<|zl (zi hk ht)<|zc (by clear v Y;rcases U' with C|rfl<;>rfl:Fc pg (EZ pg W<|n+1) W 2 (.augF 2 0 1 .add<|EY 1) [pr c U p dp,E6 x]=R (.nx,[pr c U (p+1) dp,E6 x]))<|zw C) C
  ·rw[Lk T']at ht
   (refine rq (Lk λh=>T' h.2) ?_;refine rq (Lj λh=>T' h.2) ?_)
   exact zd (F:=GR) C C (zb (zi hk ht)<|zw C) C
def jV (U':FE c) {x:Sx} {k:Sx} (hk:k≠FG) (v:E2 U p<|(k,x)::l):EZ pg W (n+2) 34 [pr c U p dp,E6 x]=R (.d<|.bool f',[pr c U (p+1) dp,E6 x]):=by
 have:=Wx (n:=n) (dp:=dp) U' v x
 rwa [Ll ⟨hk,C⟩,Lh ⟨hk,C⟩]at this
def kC (U':FE c) {x:Sx} (v:E2 U p<|t::l) (h:t.2≠x):EZ pg W (n+2) 34 [pr c U p dp,E6 x]=R (.d<|.bool La,[pr c U p dp,E6 x]):=by
 have:=Wx (n:=n) (dp:=dp) U' v x
 rwa [Lk λq=>h q.2,Lj λq=>h q.2]at this
def qh (U':FE c):pg.mt c 13=R 34:=Ng U' C C
def kD (U':FE c) {x:Sx} {k:Sx} (hk:k≠FG) (v:E2 U p<|(k,x)::l):EZ pg W (n+3) 35 [pr c U p dp,E6 x]=R (.d .none,[pr c U (p+1) dp,E6 x]):=
 jx (F:=IW) C C (zb (Je<|qe (c:=c) C (qh U') C C (jV U' hk v) C) E8) C
def wv (U':FE c):pg.mt c 15=R 36:=Ng U' C C
def ZZ (U':FE c):pg.mt c 12=R 33:=Ng U' C C
def yD (U':FE c):pg.mt c 10=R 31:=Ng U' C C
def ze1 (U':FE c):pg.mt c 11=R 32:=Ng U' C C
def FO:zV (t::l) 0=t:=by simp[zV]
def jQ (U':FE c) (v:E2 U p<|t::l) (h:qC t=f'):EZ pg W (n+2) 37 [pr c U p dp]=R (.d<|.str t.2,[pr c U (p+1) dp]):=by
 have hn:=wu (n:=n) (dp:=dp) U' v 0
 rw[FO,h]at hn
 exact zd (F:=Hy) C C (zb (Je<|qe (c:=c) C (wv U') C C hn C)<|zw<|zU (c:=c) C (ZZ U') C (ZY U' v) C) C
def xq (U':FE c) {k:Q} (hk:xW (zW k)=R (k:g')) (v:E2 U p<|(GZ,zW k)::l):EZ pg W (n+2) 38 [pr c U p dp]=R (.d<|.int k,[pr c U (p+1) dp]):=
 zd (F:=G3) C C (zb (ze C (zU (c:=c) C (yC U') C (vA U' v) C) C C C)<|zw<|jJ (w:=.d<|.str<|zW k) (qg C (zU (c:=c) C (ZZ U') C (ZY U' v) C) C)<|by refine(?_:(xW<|zW k).map MV.int=_);refine rq hk ?_;rfl) C
def NC:∀k:Q,k<20→xW (zW k)=R (k:g'):=by decide
abbrev OZ:D Tk→Ld
 |t::u::r=>if qC t=f' then(if wd u.2=","then OZ r else decide (wd u.2=":"))else La
 |_=>La
nonrec abbrev Mn:Sx:=GF
abbrev je (l:D Tk) (a:Q):Ld:=if wd (zV l a).2=Mn then OZ (l.drop<|a+1)else OZ (l.drop a)
abbrev Pw (l:D Tk):Ld:=decide ((zV l 0).1=BT)&&decide (wd (zV l 0).2∈Gq)&&je l 1
def qU {i:Q} {r:D Tk} (h:l.drop i=t::r):zV l i=t:=by
 have Y:i<l.length:=by
  apply Bb
  intro T'
  rw[J6 T']at h;contradiction
 have e:l[i]?=R t:=by
  have:=Li (·[0]?) h
  simpa using this
 unfold zV
 (refine rq (V4<|us Y) ?_;refine rq e ?_);rfl
def Jt {i:Q} {l0:D Tk} (e:l=l0++[(FG,[])]) (h:l.drop i=[]):zV l i=(FG,[]):=by
 subst e
 have Y:=Cy.mp h
 unfold zV
 refine rq (BB<|ut Y) ?_
 simp
def zbq {i:Q} {l0:D Tk} (e:l=l0++[(FG,[])]) (h:l.drop i=[t]):t=(FG,[]):=by
 subst e
 have Y:i<(l0++[(FG,[])]).length:=by
  apply Bb
  intro T'
  rw[J6 T']at h;contradiction
 rw[D.drop_append]at h
 have T':=Li V' h
 simp at Y T'
 have h3:l0.length≤i:=by exact uu T'
 rw[J6 h3,show i -l0.length=0 by exact uv Y]at h
 simpa using h.symm
def NK:qC (FG,[])=La:=by decide
nonrec abbrev TJ:X:=.and (.meth 0 15 #[FD])<|.cmp .eq (.meth 0 10 #[.bin .add FD<|EY 1])<|Da ","
nonrec abbrev bdB:S:=#v[.aug 2 .add<|EY 2]
def rM (U':FE c) (v:E2 U p l) {a i:Q}:E0 pg (EZ pg W<|n+1) (.meth 0 15 #[FD]) [pr c U p dp,E9 (a:Q),E9 (i:Q)]=R (.d<|.bool<|qC<|zV l i,[pr c U p dp,E9 (a:Q),E9 (i:Q)]):=
 qe (c:=c) C (wv U') C C (wu U' v i) C
def rN (U':FE c) (v:E2 U p l) {a i:Q} {x:Sx}:E0 pg (EZ pg W<|n+1) (.cmp .eq (.meth 0 10 #[.bin .add FD<|EY 1])<|Da x) [pr c U p dp,E9 (a:Q),E9 (i:Q)]=R (.d<|.bool<|decide (wd (zV l<|i+1).2=x),[pr c U p dp,E9 (a:Q),E9 (i:Q)]):=
 ze C (qe (c:=c) C (yD U') C C (vC U' v<|i+1) C) C C C
def ze2 (U':FE c) (v:E2 U p l) {a:Q} (k:Q):∀(z8:Q) (i:Q),(l.drop i).length≤z8→z8<k→
  ∃i':Q,qj (E0 pg (EZ pg W<|n+1) TJ) (Fc pg (EZ pg W<|n+1) W 2 bdB) k [pr c U p dp,E9 (a:Q),E9 (i:Q)]=R (.nx,[pr c U p dp,E9 (a:Q),E9 (i':Q)])∧
   (qC (zV l i')&&decide (wd (zV l<|i'+1).2=":"))=OZ (l.drop i):=by
 induction k with
 |zero=>exact λz8 i H hk=>Lg hk<|Du _
 |succ k ih=>
  intro z8 i hN hk
  refine Fg v.e λl0 e=>?_
  have hn:=rM (n:=n) (dp:=dp) U' v (a:=a) (i:=i)
  have hw:=rN (n:=n) (dp:=dp) U' v (a:=a) (i:=i) (x:=",")
  induction q:l.drop i with
  |nil=>
   rw[Jt e q,NK]at hn
   refine⟨i,qn<|zu hn,?_⟩
   (refine rq (Jt e q) ?_;refine rq NK ?_);rfl
  |cons t r=>
   rw[qU q]at hn
   clear tail_ih;induction r with
   |nil=>
    have:=zbq e q
    subst this
    rw[NK]at hn
    refine⟨i,qn<|zu hn,?_⟩
    (refine rq (qU q) ?_;refine rq NK ?_);rfl
   |cons u r=>
    have q1:l.drop (i+1)=u::r:=by(refine rp J5 ?_;refine rq q ?_);rfl
    rw[qU q1]at hw
    induction hq:qC t with
    |La=>
     rw[hq]at hn
     refine⟨i,qn<|zu hn,?_⟩
     (refine rq (qU q) ?_;refine rq hq ?_);simp[OZ,hq]
    |f'=>
     rw[hq]at hn
     by_cases h44:wd u.2=","
     ·rw[Ll h44]at hw
      have q2:l.drop (i+2)=r:=by(refine rp J5 ?_;refine rq q ?_);rfl
      obtain⟨i',Y,T'⟩:=ih (z8 -2) (i+2) (by refine rq q2 ?_;rw[q]at hN;simp at hN;exact uw hN)<|by rw[q]at hN;simp at hN;exact ux hN hk
      refine⟨i',qf (zi hn hw) (zc (zrg (x:=.int i) (y:=.int 2) C C C C) E8) Y,?_⟩
      (refine rq T' ?_;refine rq q2 ?_);simp[OZ,hq,h44]
     ·rw[Lk h44]at hw
      refine⟨i,qn<|zi hn hw,?_⟩
      (refine rq (qU q) ?_;refine rq (qU q1) ?_;refine rq hq ?_);simp[OZ,hq,h44]
def xu (U':FE c) (v:E2 U p l) (a:Q):EZ pg W (n+2) 40 [pr c U p dp,E9 (a:Q)]=R (.d<|.bool<|je l a,[pr c U p dp,E9 (a:Q)]):=by
 have hw:E0 pg (EZ pg W<|n+1) (.cmp .eq (.meth 0 10 #[Fe])<|Da GF) [pr c U p dp,E9 (a:Q),Z]=R (.d<|.bool<|decide (wd (zV l a).2=Mn),[pr c U p dp,E9 (a:Q),Z]):=
  ze C (qe (c:=c) C (yD U') C C (vC U' v a) C) C C C
 have fin:∀i:Q,E0 pg (EZ pg W<|n+1) (.bin .add Fe<|.ite (.cmp .eq (.meth 0 10 #[Fe])<|Da GF) (EY 1)<|EY 0) [pr c U p dp,E9 (a:Q),Z]=R (.d<|.int (i:Q),[pr c U p dp,E9 (a:Q),Z])→je l a=OZ (l.drop i)→
   EZ pg W (n+2) 40 [pr c U p dp,E9 (a:Q)]=R (.d<|.bool<|je l a,[pr c U p dp,E9 (a:Q)]):=by
  intro i Y T'
  obtain⟨i',h3,h4⟩:=ze2 (n:=n) (dp:=dp) U' v (a:=a) W (l.drop i).length i (j2 _)<|by refine rq V9 ?_;exact uy hW (v.len) (v.z)
  have hn:=rM (n:=n) (dp:=dp) U' v (a:=a) (i:=i')
  (refine rq T' ?_;refine rp h4 ?_)
  refine zd (F:=G4) (J:=[pr c U p dp,E9 (a:Q),E9 (i':Q)]) C C (zt Y C<|jo h3<|zw ?_) C
  clear T' h3 h4;induction hq:qC (zV l i')with
  |La=>rw[hq]at hn;exact zu hn
  |f'=>rw[hq]at hn;rw[Y8];exact zi hn<|rN (n:=n) (dp:=dp) U' v (a:=a) (i:=i') (x:=":")
 by_cases h:wd (zV l a).2=Mn
 ·rw[Ll h]at hw
  refine fin (a+1) (zY C (qm hw C) C) ?_
  unfold je;exact rq (Lh h) C
 ·rw[Lk h]at hw
  refine fin a (zY C (qb hw C) ?_) ?_
  ·refine(?_:R (MV.int<|(a:g')+0)=_)
   rw[g'.add_zero]
  ·unfold je;exact rq (Lj h) C
def xw (U':FE c):pg.mt c 19=R 40:=Ng U' C C
def zbr (U':FE c) (v:E2 U p l):EZ pg W (n+3) 42 [pr c U p dp]=R (.d<|.bool<|Pw l,[pr c U p dp]):=by
 refine Ib (K9 v.ne) λt r e2=>?_
 subst e2
 have hk:E0 pg (EZ pg W<|n+2) (.cmp .eq (.meth 0 9 .nil)<|Da Fz) [pr c U p dp]=R (.d<|.bool<|decide (t.1=BT),[pr c U p dp]):=
  ze C (zU (c:=c) C (yC U') C (vA U' v) C) C C C
 have hw:E0 pg (EZ pg W<|n+2) (.cmp .isin (.meth 0 10 #[EY 0])<|.glb<|.tup<|Gq.map .str) [pr c U p dp]=R (.d<|.bool<|decide (wd (zV (t::r) 0).2∈Gq),[pr c U p dp]):=
  ze C (qe (c:=c) C (yD U') C C (vC U' v 0) C) C C (qJ _)
 refine zd (F:=GC) (J:=[pr c U p dp]) C C (zw ?_) C
 unfold Pw
 refine rq FO ?_
 rw[FO]at hw
 induction Y:decide (t.1=BT)with
 |La=>rw[Y]at hk;simp only[Bp];exact zu hk
 |f'=>
  rw[Y]at hk
  clear Y;induction T':decide (wd t.2∈Gq)with
  |La=>rw[T']at hw;simp only[Bq,Bp];exact zi hk<|zu hw
  |f'=>rw[T']at hw;simp only[Y8];exact zi hk<|zi hw (qe (c:=c) C (xw U') C C (xu U' v 1) C:E0 pg (EZ pg W<|n+2) (.meth 0 19 #[EY 1]) [pr c U p dp]=R (.d<|.bool<|je (t::r) 1,[pr c U p dp]))
abbrev Ox:D Sx→D Tk
 |[]=>[]
 |x::r=>(BT,x)::(r.map λy=>[(EX,","),(BT,y)]).flatten
def TR:(Ox []=[])∧(∀(x_1:Sx) (r:D Sx),Ox (x_1::r)=(BT,x_1)::DW (CS (λy=>[(EX,","),(BT,y)]) r)):=⟨C,λH H=>C⟩
def vD (U':FE c):pg.mt c 16=R 37:=Ng U' C C
nonrec abbrev rO:X:=.meth 0 13 #[Da ","]
nonrec abbrev rP:S:=#v[.app 1<|.meth 0 16 .nil]
def KC (U':FE c) (ht:t.2≠",") (xs:D Sx):∀(p k:Q) (q:D MV),(∀x∈xs,qC (BT,x)=f')→E2 U p ((xs.map λy=>[(EX,","),(BT,y)]).flatten++t::l)→xs.length<k→q.length+xs.length≤100000→
  ∃p',E2 U p' (t::l)∧qj (E0 pg (EZ pg W<|n+2) rO) (Fc pg (EZ pg W<|n+2) W 1 rP) k [pr c U p dp,E4 q]=R (.nx,[pr c U p' dp,E4<|q++xs.map .str]):=by
 induction xs with
 |nil=>
  intro p k q hx v hk hz
  obtain⟨k,C,h0⟩:=qr hk
  refine⟨p,v,?_⟩
  (refine rq DU ?_;rw[Z8])
  exact qn<|qe (c:=c) C (qh U') C C (kC U' v ht) C
 |cons x xs ih=>
  intro p k q hx v hk hz
  obtain⟨k,C,h0⟩:=qr hk
  have v0:E2 U p<|(EX,",")::(BT,x)::((xs.map λy=>[(EX,","),(BT,y)]).flatten++t::l):=by simpa using v
  have v1:=v0.step<|by decide
  have v2:=v1.step (by decide:BT≠FG)
  obtain⟨p',Y,T'⟩:=ih (p+1+1) k (q++[.str x]) (λy hy=>hx y<|q_ _ hy) v2 h0<|by simp at hz⊢;exact WY hz omT
  refine⟨p',Y,?_⟩
  have:=qf (qe (c:=c) C (qh U') C C (jV U' (by decide) v0) C:E0 pg (EZ pg W<|n+2) rO [pr c U p dp,E4 q]=R (.d<|.bool f',[pr c U (p+1) dp,E4 q])) (zc (vt (l:=q) C (zU (c:=c) C (vD U') C (jQ U' v1<|hx x<|j0 ..) C) C<|by simp at hz;exact Qn hz omT) E8:Fc pg (EZ pg W<|n+2) W 1 rP [pr c U (p+1) dp,E4 q]=R (.nx,[pr c U (p+1+1) dp,E4<|q++[.str x]])) T'
  simpa using this
def xx (U':FE c) (ht:t.2≠",") {xs:D Sx} (hn:xs≠[]) (hl:xs.length≤1000) (hx:∀x∈xs,qC (BT,x)=f') (v:E2 U p<|Ox xs++t::l):
  ∃p',E2 U p' (t::l)∧EZ pg W (n+3) 39 [pr c U p dp]=R (.d<|.tup<|xs.map .str,[pr c U p' dp]):=by
 refine Ib (K5 hn) λx xs e2=>?_
 clear hn;subst e2
 have v0:E2 U p<|(BT,x)::((xs.map λy=>[(EX,","),(BT,y)]).flatten++t::l):=v
 have v1:=v0.step (by decide:BT≠FG)
 obtain⟨p',Y,T'⟩:=KC (n:=n) (dp:=dp) U' ht xs (p+1) W [.str x] (λy hy=>hx y<|q_ _ hy) v1 (by simp at hl;exact JP hW hl omT)<|by simp at hl⊢;exact lE hl omT
 refine⟨p',Y,zd (F:=IC) C C (zt (Jf (za (zU (c:=c) C (vD U') C (jQ U' v0<|hx x<|j0 ..) C) Fb) C) C<|jo T'<|zw<|jJ (w:=.l<|(x::xs).map .str) C ?_) C⟩
 exact Lh (by(refine rq y_ ?_;rw[j9]);exact Ga hl omT:((x::xs).map MV.str).length≤Z1)
end
mutual namespace A
inductive Wk where
 |ahead (h:Sx)
 |els
 |arr (l r:Sx)
 |op (s:Sx)
abbrev Wk.ctorIdx (x:Wk):Q:=Wk.casesOn (motive:=λH=>Q) x (λH=>0) 1 (λH H=>2) λH=>3
nonrec abbrev IQ:Sx:="ahead "
nonrec abbrev HB:Sx:=GH
abbrev Wk.sg:Wk→Sx
 | .ahead h=>IQ++h
 | .els=>HB
 | .arr _ _=>"->"
 | .op s=>s
abbrev Wk.lf:Wk→Sx
 | .arr l _=>l
 |_=>[]
abbrev Wk.rt:Wk→Sx
 | .arr _ r=>r
 |_=>[]
abbrev Wk.ok:Wk→Prop
 | .ahead h=>h.length≤20
 | .op s=>s.length≤20∧s.take 6≠IQ∧s≠HB∧s≠"->"
 |_=>True
nonrec abbrev Wt:=g'×Wk
abbrev rQ (w:Wt) (m:MV):Prop:=w.2.ok∧∃sp:g',m=.tup [.int w.1,.str w.2.sg,.int sp,.str w.2.lf,.str w.2.rt]
abbrev SS:Wk→D Nd→Lc (D Nd)
 | .ahead h,a::r=>R<|.un h a::r
 | .els,c::b::a::r=>R<|.ite a b c::r
 | .arr l r',b::a::r=>R<|.arrow l r' a b::r
 | .op s,b::a::r=>R<|.bin s a b::r
 |_,_=>Z
abbrev RS {α:Type} (I':α→MV→Prop) (ps:D α) (pl:D MV):Prop:=F2 I' ps pl.reverse
nonrec abbrev Mo:D Nd→D MV→Prop:=RS IF
nonrec abbrev Nh:D Wt→D MV→Prop:=RS rQ
def zbs {α:Type} {l:D α} {a:α} {r:D α} (h:l.reverse=a::r):l=r.reverse++[a]:=by
 (refine rp (D_ l) ?_;refine rq h ?_;exact rq CR C)
end
mutual section
variable {α:Type} {I':α→MV→Prop} {d:α} {ps:D α} {pl:D MV} {m:MV}
def RS.nil:RS I' [] []:=F2.nil
def RS.len (h:RS I' ps pl):ps.length=pl.length:=(F2.len h).trans D.length_reverse
def RS.pop (h:RS I' (d::ps) pl):∃q m,pl=q++[m]∧I' d m∧RS I' ps q:=by
 have hf:F2 I' (d::ps) pl.reverse:=h
 induction q:pl.reverse with
 |nil=>rw[q]at hf;contradiction
 |cons m r=>
  rw[q]at hf
  exact⟨r.reverse,m,zbs q,hf.one.1,by rw[RS,D_];exact hf.one.2⟩
def RS.emp (h:RS I' ([]:D α) pl):pl=[]:=J0 h.len.symm
def RS.push (h:RS I' ps pl) (hm:I' d m):RS I' (d::ps)<|pl++[m]:=by(rewrite [RS];refine rq D.reverse_append ?_);exact F2.cons hm h
end
mutual section
variable {P:Pg} {cl:HM} {J ρ1 ρ2:Ev}
def zka {j:Q} {l:D MV} {m:MV} (h:gt J j=E4 l) (e:l.getLast?=R m) (hz:l.length≤Z1):E0 P cl (.pop j) J=R (.d m,st J j<|.l l.dropLast):=by
 refine(?_:(match(generalizing:=false) gt J j with|R (.l l)=>(match(generalizing:=false) l.getLast? with|R m=>if l.length≤Z1 then R (Th.d m,st J j<|.l l.dropLast)else Z|Z=>Z)|_=>Z)=_)
 refine rq h ?_
 refine(?_:(match(generalizing:=false) l.getLast? with|R m=>if l.length≤Z1 then R (Th.d m,st J j<|.l l.dropLast)else Z|Z=>Z)=_)
 refine rq e ?_
 exact Lh hz
def jL {j:Q} {q:D MV} {m:MV} (h:gt J j=E4 (q++[m])) (hz:q.length≤500000) (hs:st J j (.l q)=ρ1):E0 P cl (.pop j) J=R (.d m,ρ1):=
 (zka h D.getLast?_concat<|by(refine rq y_ ?_;refine rq q8 ?_);exact J2 (q0 hz<|by decide)).trans (by(refine rq Cz ?_;exact rq hs C))
end
mutual section
variable {n c p:Q} {U:D MV} {dp:g'} {t:Tk} {l:D Tk}
nonrec abbrev rR (o:Lc Th) (pl:D MV) (m:MV):Ev:=[o,E4 pl,FR m]
def rT {s:Sx} (h:s.length≤100):ZJ (.str s) .none (.int 6)=R (.str<|s.take 6):=by
 rw[vx (l:=Z) (u:=R 6) C C<|by rw[y_];exact Ga h omT]
 rfl
def zrw {s:Sx} (h:s.length≤100):ZJ (.str s) (.int 6) .none=R (.str<|s.drop 6):=by
 rw[vx (l:=R 6) (u:=Z) C C<|by rw[y_];exact Ga h omT]
 unfold Hn
 simp
def KD {o:Lc Th} {w:Wt} {m:MV} {ps ps':D Nd} {pl:D MV} (hm:rQ w m) (hp:Mo ps pl) (ht:SS w.2 ps=R ps') (hz:pl.length≤400000):
  ∃pl',Mo ps' pl'∧pl'.length≤pl.length∧EZ pg W (n+1) 50 (rR o pl m)=R (.d .none,rR o pl' m):=by
 obtain⟨lv,k⟩:=w
 obtain⟨ho,sp0,C⟩:=hm
 induction k with
 |ahead h=>
  induction ps with
  |nil=>exact nO ht
  |cons a r=>
   replace ht:=z' ht;clear tail_ih;subst ht
   obtain⟨q,ma,C,ha,hq⟩:=hp.pop
   simp only[q8,j1,y0]at hz
   have hl:(IQ++h).length≤100:=by have:h.length≤20:=ho;simp;exact Ga this omT
   refine⟨q++[.tup [.str av,.int sp0,.str h,ma]],hq.push ⟨sp0,ma,C,ha⟩,by simp,?_⟩
   have e1:(IQ++h).take 6=IQ:=by simp
   have e2:(IQ++h).drop 6=h:=by simp
   have s1:=rT hl
   have s2:=zrw hl
   rw[e1]at s1
   rw[e2]at s2
   exact jx (F:=FH) C C (zc (kW C C) (zt (jL (q:=q) C (Pb hz omT) C) C (zc (zl (ze C (jI C C C s1) C C C)
    (zc (vt (l0:=q) (l:=q) C (zr (za C<|za C<|za (jI C C C s2)<|za C Fb) C) C<|Pb hz omT) E8)) E8))) C
 |els=>
  match ps,ht with
  |c'::b::a::r,ht=>
   replace ht:=z' ht;subst ht
   obtain⟨q,mc,C,hc',hq⟩:=hp.pop
   obtain⟨q,mb,C,hb,hq⟩:=hq.pop
   obtain⟨q,ma,C,ha,hq⟩:=hq.pop
   simp only[q8,j1,y0]at hz
   refine⟨q++[.tup [.str na,.int sp0,ma,mb,mc]],hq.push ⟨sp0,ma,mb,mc,C,ha,hb,hc'⟩,by simp,?_⟩
   exact jx (F:=FH) C C (zc (kW C C) (zt (jL (q:=q++[ma]++[mb]) C (by simp;exact iI hz omT) C) C (zc (zR C
    (zc (zl C<|zt (jL (q:=q++[ma]) C (by simp;exact iI hz omT) C) C<|zc (vt (l0:=q++[ma]) (l:=q) C (zr (za C<|za C<|za (jL (q:=q) C (iI hz omT) C)<|za C<|za C Fb) C) C<|iI hz omT) E8) E8)) E8))) C
 |arr l' r'=>
  match ps,ht with
  |b::a::r,ht=>
   replace ht:=z' ht;subst ht
   obtain⟨q,mb,C,hb,hq⟩:=hp.pop
   obtain⟨q,ma,C,ha,hq⟩:=hq.pop
   simp only[q8,j1,y0]at hz
   refine⟨q++[.tup [.str NT,.int sp0,.str l',.str r',ma,mb]],hq.push ⟨sp0,ma,mb,C,ha,hb⟩,by simp,?_⟩
   exact jx (F:=FH) C C (zc (kW C C) (zt (jL (q:=q++[ma]) C (by simp;exact Va hz omT) C) C (zc (zR C
    (zc (zR C<|zc (zl C<|zc (vt (l0:=q++[ma]) (l:=q) C (zr (za C<|za C<|za C<|za C<|za (jL (q:=q) C (Va hz omT) C)<|za C Fb) C) C<|Va hz omT) E8) E8) E8)) E8))) C
 |op s=>
  match ps,ht with
  |b::a::r,ht=>
   replace ht:=z' ht;subst ht
   clear ht;obtain⟨q,mb,C,hb,hq⟩:=hp.pop
   clear hp;obtain⟨q,ma,C,ha,hq⟩:=hq.pop
   simp only[q8,j1,y0]at hz
   obtain⟨h0,Y,T',h3⟩:=ho
   refine⟨q++[.tup [.str Pq,.int sp0,.str s,ma,mb]],hq.push ⟨sp0,ma,mb,C,ha,hb⟩,by simp,?_⟩
   have d3:jE .eq (.str s) (.str "->")=R La:=by show R (decide _)=_;exact rq (Lk h3) C
   exact jx (F:=FH) C C (zc (kW C C) (zt (jL (q:=q++[ma]) C (by simp;exact Va hz omT) C) C (zc (zR (ze C (jI C C C<|rT (s:=s)<|Ga h0 omT) C C (by show R (decide _)=_;exact rq (Lk Y) C:jE .eq (.str<|s.take 6) (.str IQ)=R La))
    (zc (zR (qt C C (by show R (decide _)=_;exact rq (Lk T') C:jE .eq (.str s) (.str HB)=R La))<|zc (zR (qt C C d3)<|zc (vt (l0:=q++[ma]) (l:=q) C (zr (za C<|za C<|za C<|za (jL (q:=q) C (Va hz omT) C)<|za C Fb) C) C<|Va hz omT) E8) E8) E8)) E8))) C
abbrev GL:D Wt→D Nd→Lc (D Nd)
 |[],ps=>R ps
 |w::wd,ps=>(SS w.2 ps).bind<|GL wd
def NZ:(∀(x:D Nd),GL [] x=R x)∧(∀(x:D Nd) (w:Wt) (wd:D Wt),GL (w::wd) x=Lc.bind (SS (Prod.snd w) x) (GL wd)):=⟨λH=>C,λH H H=>C⟩
def Nt:∀(a b:D Wt) (ps:D Nd),GL (a++b) ps=(GL a ps).bind (GL b)
 |[],b,ps=>rfl
 |w::a,b,ps=>by
  simp only[j6,NZ]
  cases SS w.2 ps with
  |Z=>rfl
  |R q=>exact Nt a b q
def KE (U':FE c):pg.mt c 29=R 50:=Ng U' C C
def vE {l:D MV} (hz:l.length≤500000) {o:X} {cl:HM} {J:Ev} {j:Q} (h:gt J j=E4 l):E0 pg cl (.cmp .gt (.b1 .len<|.var j)<|EY 0) J=R (.d<|.bool<|decide (0<l.length),J):=by
 refine ze C (jJ (w:=.l l) (z:=.int (l.length:Q)) (by show Lc.map (λv=>(v,J)) ((gt J j).bind Th.vw)=_;refine rq h ?_;rfl:opn (.var j) (E0 pg cl<|.var j) J=R (.l l,J))<|Lh (by refine rq y_ ?_;exact Ga hz omT:l.length≤Z1)) C C ?_
 show R (decide _)=_
 congr 1
 by_cases h:0<l.length<;>simp[h]
def vU {q:D MV} {l:D MV} {cl:HM} {J:Ev} {j:Q} {i:g'} {z:MV} (h:gt J j=E4 (q++[.tup l])) (hz:q.length≤500000) (hi:vf l (.int i)=R z):
  E0 pg cl (.idx (.idx (.var j)<|.neg<|EY 1)<|EY i) J=R (.d z,J):=by
 exact yj (qg C (kU (l:=q++[.tup l]) (by refine(?_:Lc.map (λv=>(v,J)) ((gt J j).bind Th.vw)=_);refine rq h ?_;rfl:opn (.var j) (E0 pg cl<|.var j) J=R (.l<|q++[.tup l],J)) C C<|vQ<|yo hz omT) C) C hi
nonrec abbrev rU:X:=.and (.cmp .gt (.b1 .len FD)<|EY 0)<|.cmp .gt (.idx (.idx FD<|.neg<|EY 1)<|EY 0) GU
nonrec abbrev rV:S:=#v[.exp<|.meth 0 29 #[Fe,.pop 2]]
abbrev Wy (b:g'):D Wt→Prop
 |[]=>True
 |w::_=>w.1≤b
def Ju (U':FE c) {lvl:g'} {base:D Wt} (hb:Wy lvl base) (wd:D Wt):∀(ps ps':D Nd) (pl wl:D MV) (k:Q),(∀w∈wd,lvl<w.1)→GL wd ps=R ps'→Mo ps pl→Nh (wd++base) wl→wl.length≤400000→pl.length≤400000→wd.length<k→
  ∃pl' wl',Mo ps' pl'∧Nh base wl'∧pl'.length≤pl.length∧wl'.length≤wl.length∧qj (E0 pg (EZ pg W<|n+1) rU) (Fc pg (EZ pg W<|n+1) W 4 rV) k [pr c U p dp,E4 pl,E4 wl,E9 lvl]=R (.nx,[pr c U p dp,E4 pl',E4 wl',E9 lvl]):=by
 induction wd with
 |nil=>
  intro ps ps' pl wl k hl hcs hp hw hz hz2 hk
  obtain⟨k,C,h0⟩:=qr hk
  replace hcs:=z' hcs;subst hcs
  refine⟨pl,wl,hp,hw,j2 _,j2 _,qn ?_⟩
  cases base with
  |nil=>
   have:=RS.emp hw
   subst this
   exact zu<|vE (l:=[]) (o:=.nil) (by decide) C
  |cons w base=>
   obtain⟨q,m,C,⟨_,sp0,C⟩,hq⟩:=RS.pop hw
   have Y:=vE (l:=q++[.tup [.int w.1,.str w.2.sg,.int sp0,.str w.2.lf,.str w.2.rt]]) (o:=.nil) (cl:=EZ pg W<|n+1) (j:=2) (J:=[pr c U p dp,E4 pl,E4<|q++[.tup [.int w.1,.str w.2.sg,.int sp0,.str w.2.lf,.str w.2.rt]],E9 lvl]) (by exact Ga hz omT) C
   rw[Ll<|by simp]at Y
   refine zi Y<|ze C (vU (q:=q) C (by simp at hz;exact Ga hz omT) C) C C ?_
   show R (decide _)=_
   rw[Lk]
   have:w.1≤lvl:=hb
   exact uz this
 |cons w wd ih=>
  intro ps ps' pl wl k hl hcs hp hw hz hz2 hk
  obtain⟨k,C,h0⟩:=qr hk
  refine cps λGG kk=>?_
  obtain⟨q,m,C,hm,hq⟩:=RS.pop hw
  simp only[NZ]at hcs
  obtain⟨ps1,ht,hcs⟩:=Bf.mp hcs
  simp only[q8,j1,y0]at hz
  obtain⟨pl1,hp1,hl1,hr⟩:=KD (n:=n) (o:=pr c U p dp) hm hp ht<|Ga hz2 omT
  obtain⟨pl',wl',Y,T',h3,h4,h5⟩:=ih ps1 ps' pl1 q k (λx hx=>hl x<|q_ _ hx) hcs hp1 hq (Pb hz omT) (vb hz2 hl1 omT) h0
  refine kk ?_
  refine⟨pl',wl',Y,T',by exact cj hl1 h3,by simp;exact cm h4,?_⟩
  clear hb hp hz2 h0 hk hw kk hq ht hcs hp1 hl1 Y T' h3 h4;obtain⟨_,sp0,C⟩:=hm
  have hg:=vE (l:=q++[.tup [.int w.1,.str w.2.sg,.int sp0,.str w.2.lf,.str w.2.rt]]) (o:=.nil) (cl:=EZ pg W<|n+1) (j:=2) (J:=[pr c U p dp,E4 pl,E4<|q++[.tup [.int w.1,.str w.2.sg,.int sp0,.str w.2.lf,.str w.2.rt]],E9 lvl]) (by simp;exact Pb hz omT) C
  rw[Ll<|by simp]at hg
  have hT:E0 pg (EZ pg W<|n+1) rU [pr c U p dp,E4 pl,E4<|q++[.tup [.int w.1,.str w.2.sg,.int sp0,.str w.2.lf,.str w.2.rt]],E9 lvl]=R (.d<|.bool f',[pr c U p dp,E4 pl,E4<|q++[.tup [.int w.1,.str w.2.sg,.int sp0,.str w.2.lf,.str w.2.rt]],E9 lvl]):=by
   refine zi hg<|ze C (vU (q:=q) C (Pb hz omT) C) C C ?_
   show R (decide _)=_
   exact rq (Ll<|hl w<|j0 ..) C
  exact qf hT (jO (jm (c:=c) C (KE U') (zf C<|zf (jw C<|jL (q:=q) C (Pb hz omT) C) Fk) C hr C) E8:Fc pg (EZ pg W<|n+1) W 4 rV [pr c U p dp,E4 pl,E4<|q++[.tup [.int w.1,.str w.2.sg,.int sp0,.str w.2.lf,.str w.2.rt]],E9 lvl]=R (.nx,[pr c U p dp,E4 pl1,E4 q,E9 lvl])) h5
def vV (U':FE c) {lvl:g'} {base wd:D Wt} {ps ps':D Nd} {pl wl:D MV} (hb:Wy lvl base) (hl:∀w∈wd,lvl<w.1) (hcs:GL wd ps=R ps') (hp:Mo ps pl) (hw:Nh (wd++base) wl) (hz:wl.length≤400000) (hz2:pl.length≤400000):
  ∃pl' wl',Mo ps' pl'∧Nh base wl'∧pl'.length≤pl.length∧wl'.length≤wl.length∧EZ pg W (n+2) 45 [pr c U p dp,E4 pl,E4 wl,E9 lvl]=R (.d .none,[pr c U p dp,E4 pl',E4 wl',E9 lvl]):=by
 have hlen:wd.length≤wl.length:=by have:=hw.len;simp at this;exact cn this
 obtain⟨pl',wl',Y,T',h3,h4,h5⟩:=Ju (n:=n) (U:=U) (p:=p) (dp:=dp) U' hb wd ps ps' pl wl W hl hcs hp hw hz hz2<|cq hW hz hlen
 exact⟨pl',wl',Y,T',h3,h4,jx (F:=HO) C C (jo h5 E8) C⟩
abbrev GT:D Sx:=[FN,Fy,Fx,Gv]
nonrec abbrev RX:Tk→Prop:=λt=>t.1=BT∨t.1=EX
structure wT (l:D Tk):Prop where
 box:¬((zV l 0).1=EX∧wd (zV l 0).2="[")
 els:¬((zV l 0).1=BT∧wd (zV l 0).2=HB)
 op:¬((zV l 0).1=BT∨(zV l 0).1=EX)∨
  (¬((zV l 0).1=BT∧wd (zV l 0).2∈GT∧wd (zV l 1).2="->")∧¬(wd (zV l 0).2="!"∧(zA (wd (zV l 1).2)<|Hd 3).isSome=f')∧(zA (wd (zV l 0).2)<|Hd 2).isSome=La)
def jB (U':FE c) (v:E2 U p<|t::l) {J:Ev}:E0 pg (EZ pg W<|n+1) (.meth 0 9 .nil) (pr c U p dp::J)=R (.d<|.str t.1,pr c U p dp::J):=zU (c:=c) C (yC U') C (vA U' v) C
def qV (U':FE c) (v:E2 U p l) {a:Q} {J:Ev}:E0 pg (EZ pg W<|n+1) (.meth 0 10 #[EY (a:Q)]) (pr c U p dp::J)=R (.d<|.str<|wd (zV l a).2,pr c U p dp::J):=qe (c:=c) C (yD U') C C (vC U' v a) C
def kj (U':FE c) (v:E2 U p<|t::l) {J:Ev}:E0 pg (EZ pg W<|n+1) (.meth 0 12 .nil) (pr c U p dp::J)=R (.d<|.str t.2,pr c U (p+1) dp::J):=zU (c:=c) C (ZZ U') C (ZY U' v) C
def zbt (U':FE c):pg.mt c 26=R 47:=Ng U' C C
def Sg (U':FE c) (v:E2 U p<|t::l):EZ pg W (n+2) 47 [pr c U p dp]=R (.d<|.str<|wd t.2,[pr c U (p+1) dp]):=by
 have h:=qV (n:=n) (dp:=dp) U' v (a:=0) (J:=[Z])
 rw[FO]at h
 exact zd (F:=GW) C C (zt h C<|jO (kj U' v)<|zw C) C
def TS (U':FE c) (v:E2 U p<|t::l) {J:Ev}:E0 pg (EZ pg W<|n+2) (.meth 0 26 .nil) (pr c U p dp::J)=R (.d<|.str<|wd t.2,pr c U (p+1) dp::J):=zU (c:=c) C (zbt U') C (Sg U' v) C
nonrec abbrev OE:D Sx:=[BT,EX]
def rW (x:Sx):jE .notin (.str x) (.tup [.str BT,.str EX])=R (!decide (x∈OE)):=by
 refine(?_:(jD x<|OE.map .str).map (!·)=_)
 rw[qJ];rfl
def xy (x:Sx):jE .isin (.str x) (.tup<|GT.map .str)=R (decide (x∈GT)):=qJ _
def Yp (U':FE c) (v:E2 U p<|t::l) (h:wT<|t::l):EZ pg W (n+3) 46 [pr c U p dp]=R (.d<|.tup [.str [],.str []],[pr c U p dp]):=by
 have hop:=h.op
 rw[FO]at hop
 have hk:E0 pg (EZ pg W<|n+2) (.cmp .notin (.meth 0 9 .nil)<|.tupD #[Da Fz,Da Gn]) [pr c U p dp,Z]=R (.d<|.bool<|!decide (t.1∈OE),[pr c U p dp,Z]):=ze C (jB U' v) C C<|rW _
 by_cases Y:t.1∈OE
 ·rw[Ll Y]at hk
  rcases hop with hop|⟨T',h3,h4⟩
  ·simp at Y;exact Lg Y hop
  have hw:=λJ=>qV (n:=n+1) (dp:=dp) U' v (a:=0) (J:=J)
  have hw1:=λJ=>qV (n:=n+1) (dp:=dp) U' v (a:=1) (J:=J)
  rw[FO]at hw
  have t2:E0 pg (EZ pg W<|n+2) (.and (.cmp .eq (.meth 0 9 .nil)<|Da BT)<|.and (.cmp .isin Fe<|.glb<|.tup<|GT.map .str)<|.cmp .eq (.meth 0 10 #[EY (1:Q)])<|Da "->") [pr c U p dp,E6<|wd t.2]=R (.d<|.bool La,[pr c U p dp,E6<|wd t.2]):=by
   have a1:=(λJ=>ze C (jB U' v) C C C:∀J,E0 pg (EZ pg W<|n+2) (.cmp .eq (.meth 0 9 .nil)<|Da BT) (pr c U p dp::J)=R (.d<|.bool<|decide (t.1=BT),pr c U p dp::J)) [E6<|wd t.2]
   by_cases q1:t.1=BT
   ·rw[Ll q1]at a1
    refine zi a1 ?_
    by_cases q2:wd t.2∈GT
    ·refine zi (qt C C<|by(rewrite [xy];exact rq (Ll q2) C))<|ze C (hw1 _) C C ?_
     show R (decide _)=_
     exact rq (Lk λq3=>T' ⟨q1,q2,q3⟩) C
    ·exact zu<|qt C C<|by(rewrite [xy];exact rq (Lk q2) C)
   ·rw[Lk q1]at a1
    exact zu a1
  have t3:E0 pg (EZ pg W<|n+2) (.and (.cmp .eq Fe<|Da "!")<|.din 3<|.meth 0 10 #[EY (1:Q)]) [pr c U p dp,E6<|wd t.2]=R (.d<|.bool La,[pr c U p dp,E6<|wd t.2]):=by
   by_cases q1:wd t.2="!"
   ·refine zi (qt C C (rq (Ll q1) C:R (decide _)=_)) ?_
    have:=Js (P:=pg) (M':=3)<|hw1 [E6<|wd t.2]
    have e:(zA (wd (zV (t::l) 1).2)<|pg.ds 3).isSome=La:=by
     clear v h T' hw1;induction q:(zA (wd (zV (t::l) 1).2)<|pg.ds 3).isSome with
     |La=>rfl
     |f'=>exact Lg ⟨q1,q⟩ h3
    rw[e]at this;exact this
   ·exact zu<|qt C C (rq (Lk q1) C:R (decide _)=_)
  have t4:E0 pg (EZ pg W<|n+2) (.din 2 Fe) [pr c U p dp,E6<|wd t.2]=R (.d<|.bool La,[pr c U p dp,E6<|wd t.2]):=by
   have:=Js (P:=pg) (cl:=EZ pg W<|n+2) (M':=2) (a:=.var 1) (k:=wd t.2) (J:=[pr c U p dp,E6<|wd t.2]) C
   rw[show(zA (wd t.2)<|pg.ds 2).isSome=La from h4]at this;exact this
  exact zd (F:=FF) C C (zb hk<|zt (hw _) C<|zb t2<|zb t3<|zw<|qb t4 C) C
 ·rw[Lk Y]at hk
  exact zd (F:=FF) C C (zG hk C) C
def rX (U':FE c) (v:E2 U p<|t::l) (hk:t.1∈OE) (Y:wd t.2∉GT) (T':wd t.2≠"!") (h3:(zA (wd t.2)<|Hd 2).isSome=f'):EZ pg W (n+3) 46 [pr c U p dp]=R (.d<|.tup [.str [],.str<|wd t.2],[pr c U (p+1) dp]):=by
 refine cps λGG kk=>?_
 have hw:=λJ=>qV (n:=n+1) (dp:=dp) U' v (a:=0) (J:=J)
 rw[FO]at hw
 have t2:E0 pg (EZ pg W<|n+2) (.and (.cmp .eq (.meth 0 9 .nil)<|Da BT)<|.and (.cmp .isin Fe<|.glb<|.tup<|GT.map .str)<|.cmp .eq (.meth 0 10 #[EY (1:Q)])<|Da "->") [pr c U p dp,E6<|wd t.2]=R (.d<|.bool La,[pr c U p dp,E6<|wd t.2]):=by
  have a1:=(λJ=>ze C (jB U' v) C C C:∀J,E0 pg (EZ pg W<|n+2) (.cmp .eq (.meth 0 9 .nil)<|Da BT) (pr c U p dp::J)=R (.d<|.bool<|decide (t.1=BT),pr c U p dp::J)) [E6<|wd t.2]
  by_cases q1:t.1=BT
  ·rw[Ll q1]at a1
   exact zi a1<|zu<|qt C C<|by(rewrite [xy];exact rq (Lk Y) C)
  ·rw[Lk q1]at a1
   exact zu a1
 have t4:E0 pg (EZ pg W<|n+2) (.din 2 Fe) [pr c U p dp,E6<|wd t.2]=R (.d<|.bool f',[pr c U p dp,E6<|wd t.2]):=by
  have:=Js (P:=pg) (cl:=EZ pg W<|n+2) (M':=2) (a:=.var 1) (k:=wd t.2) (J:=[pr c U p dp,E6<|wd t.2]) C
  rw[show(zA (wd t.2)<|pg.ds 2).isSome=f' from h3]at this;exact this
 refine kk ?_
 exact zd (F:=FF) C C (zb (ze C (jB U' v) C C (by(rewrite [rW];refine rq (Ll hk) ?_);rfl):E0 pg (EZ pg W<|n+2) (.cmp .notin (.meth 0 9 .nil)<|.tupD #[Da Fz,Da Gn]) [pr c U p dp,Z]=R (.d<|.bool La,[pr c U p dp,Z])) (zt (hw _) C (zb t2 (zb (zu<|qt C C (rq (Lk T') C:R (decide _)=_))
  (zw<|qm t4<|zr (za C<|za (TS U' v) Fb) C))))) C
def zkb (U':FE c) (v:E2 U p<|(EX,"!")::(BT,"in")::l):EZ pg W (n+3) 46 [pr c U p dp]=R (.d<|.tup [.str [],.str "!in"],[pr c U (p+2) dp]):=by
 have hw:=λJ=>qV (n:=n+1) (dp:=dp) U' v (a:=0) (J:=J)
 have hw1:=λJ=>qV (n:=n+1) (dp:=dp) U' v (a:=1) (J:=J)
 have e1:zV ((EX,"!")::(BT,"in")::l) 1=(BT,"in"):=qU C
 rw[FO]at hw
 rw[e1]at hw1
 exact zd (F:=FF) C C (zb (ze C (jB U' v) C C C) (zt (hw _) C (zb (zu<|ze C (jB U' v) C C C)
  (zq<|zl (zi C<|Js (P:=pg) (M':=3)<|hw1 _)<|jO (kj U' v)<|zw<|zr (za C<|za (KB (P:=pg) (M':=3) (TS U'<|v.step<|by decide) C) Fb) C)))) C
def zkc (U':FE c) {w:Sx} (hw0:w=FN∨w=Fy∨w=Fx) (v:E2 U p<|(BT,w)::(EX,"->")::l):EZ pg W (n+3) 46 [pr c U p dp]=R (.d<|.tup [.str w,.str "->"],[pr c U (p+2) dp]):=by
 have hw:=λJ=>qV (n:=n+1) (dp:=dp) U' v (a:=0) (J:=J)
 have hw1:=λJ=>qV (n:=n+1) (dp:=dp) U' v (a:=1) (J:=J)
 have e1:zV ((BT,w)::(EX,"->")::l) 1=(EX,"->"):=qU C
 rw[FO]at hw
 rw[e1]at hw1
 clear e1;rcases hw0 with C|rfl|rfl<;>
 exact zd (F:=FF) C C (zb (ze C (jB U' v) C C C) (zt (hw _) C (zq (zl (zi (ze C (jB U' v) C C C)<|zi C<|ze C (hw1 _) C C C)
  (jO (kj U' v)<|jO (kj U'<|v.step (by decide:BT≠FG))<|zw C))))) C
def zbv (U':FE c) (v:E2 U p<|t::l) (h:¬(t.1=BT∧wd t.2∈GT)):EZ pg W (n+2) 48 [pr c U p dp]=R (.d<|.str [],[pr c U p dp]):=by
 have hw:=λJ=>qV (n:=n) (dp:=dp) U' v (a:=0) (J:=J)
 rw[FO]at hw
 have a1:E0 pg (EZ pg W<|n+1) (.cmp .eq (.meth 0 9 .nil)<|Da BT) [pr c U p dp,Z]=R (.d<|.bool<|decide (t.1=BT),[pr c U p dp,Z]):=ze C (jB U' v) C C C
 have a2:E0 pg (EZ pg W<|n+1) (.and (.cmp .eq (.meth 0 9 .nil)<|Da BT)<|.cmp .isin (.meth 0 10 #[EY 0])<|.glb<|.tup<|GT.map .str) [pr c U p dp,Z]=R (.d<|.bool La,[pr c U p dp,Z]):=by
  by_cases q1:t.1=BT
  ·rw[Ll q1]at a1
   exact zi a1<|ze C (hw _) C C<|by(rewrite [xy];exact rq (Lk λq2=>h ⟨q1,q2⟩) C)
  ·rw[Lk q1]at a1
   exact zu a1
 exact zd (F:=G5) C C (zb a2<|zw C) C
def zbw (U':FE c) {w:Sx} (hw0:w=FN∨w=Fy∨w=Fx) (v:E2 U p<|(BT,w)::l):EZ pg W (n+2) 48 [pr c U p dp]=R (.d<|.str w,[pr c U (p+1) dp]):=by
 have hw:=λJ=>qV (n:=n) (dp:=dp) U' v (a:=0) (J:=J)
 rw[FO]at hw
 rcases hw0 with C|rfl|rfl<;>
 exact zd (F:=G5) C C (zq<|zl (zi (ze C (jB U' v) C C C)<|ze C (hw _) C C C)<|zt (kj U' v) C<|zw C) C
end
mutual namespace A
nonrec abbrev aP:X:=.var 3
nonrec abbrev rY:S:=#v[.app 1<|.meth 0 31 .nil,.asg 3<|.meth 0 23 #[Fe,FD]]
nonrec abbrev aQ:S:=.seq (.exp<|.meth 0 22 #[FD]) rY
nonrec abbrev rZ:X:=.and (.cmp .isin (.meth 0 9 .nil)<|.tupD #[Da Fz,Da Gn])<|.and (.din 1<|.meth 0 10 #[EY 0])<|.not<|.meth 0 21 .nil
nonrec abbrev saB:S:=#v[.asgT [2,3] #[.meth 0 10 #[EY 0],.meth 0 11 .nil],.exp<|.meth 0 12 .nil,.app 1<|.tupD #[.didx 1 FD,.bin .add (Da "ahead ") FD,GU,Da [],Da []]]
nonrec abbrev i4:X:=.and (.cmp .eq (.meth 0 9 .nil)<|Da Gn)<|.cmp .eq (.meth 0 10 #[EY 0])<|Da "["
nonrec abbrev i5:S:=#v[.exp<|.meth 0 24 #[Fe,FD,.bin .sub (.glb<|.int 15)<|EY 1],.asg 3<|.meth 0 11 .nil,.exp<|.meth 0 12 .nil,.app 1<|.tupD #[Da "box",GU,.pop 1,.meth 0 30 #[Da "]"]]]
nonrec abbrev nA:S:=#v[.ite (.and (.cmp .eq (.meth 0 9 .nil)<|Da Fz)<|.cmp .eq (.meth 0 10 #[EY 0])<|Da GH) #v[.ret<|.meth 0 28 #[Fe,FD]] .skip,.asg 3<|.meth 0 11 .nil,.unp [4,5]<|.meth 0 25 .nil,.ite (.cmp .eq G_<|Da []) #v[.ret<|.lit<|.bool La] .skip,.asg 6<|.ite (.cmp .eq G_<|Da "!in") (.glb<|.int 6)<|.didx 2 G_,.exp<|.meth 0 24 #[Fe,FD,Im],.ite (.and (.cmp .gt (.b1 .len FD)<|EY 0)<|.and (.cmp .eq (.idx (.idx FD<|.neg<|EY 1)<|EY 0) Im)<|.cmp .ne Im<|.glb<|.int 3) #v[.ite (.cmp .eq Im<|.glb<|.int 6) #v[.bad] .skip,.exp<|.meth 0 29 #[Fe,.pop 2]] .skip,.asg 7<|.ite (.cmp .eq G_<|Da "->") (.meth 0 27 .nil)<|Da [],.app 2<|.tupD #[Im,G_,GU,Iq,OO],.ret<|.lit<|.bool f']
end
mutual section
variable (n c:Q) (U:D MV) (dp:g')
structure ztf (ps:D Nd) (ws:D Wt) (l:D Tk) (J:Ev):Prop where
 h:∃pl wl p,Mo ps pl∧Nh ws wl∧E2 U p l∧J=[pr c U p dp,R<|.l pl,R<|.l wl,R<|.d<|.bool La]
abbrev Sz (ps:D Nd) (ws:D Wt) (l:D Tk):Prop:=ps.length+ws.length+l.length≤250000
abbrev AS (F:Ev→Prop) (ps:D Nd) (ws:D Wt) (l:D Tk):Prop:=Sz ps ws l→∀(pl wl:D MV) (p kE kS:Q) (o1 o2:Lc Th),Mo ps pl→Nh ws wl→E2 U p l→l.length<kE→l.length<kS→
 ∃wl1 p1 o1' o2' ρ2 ρ',qj (E0 pg (EZ pg W n) rZ) (Fc pg (EZ pg W n) W 2 saB) kS [pr c U p dp,E4 wl,o1,o2]=R (.nx,[pr c U p1 dp,E4 wl1,o1',o2'])∧
  Fc pg (EZ pg W<|n+1) W 1 rY [pr c U p1 dp,E4 pl,E4 wl1,GY f']=R (.nx,ρ2)∧qj (E0 pg (EZ pg W<|n+1) aP) (Fc pg (EZ pg W<|n+1) W 1 aQ) kE ρ2=R (.nx,ρ')∧F ρ'
abbrev BS (F:Ev→Prop) (ps:D Nd) (ws:D Wt) (l:D Tk):Prop:=Sz ps ws l→∀(pl wl:D MV) (p kE kB:Q) (o:Lc Th),Mo ps pl→Nh ws wl→E2 U p l→l.length<kE→l.length<kB→
 ∃g pl1 wl1 p1 ρ1 ρ2 ρ',qj (E0 pg (EZ pg W n) i4) (Fc pg (EZ pg W n) W 3 i5) kB [pr c U p dp,E4 pl,E4 wl,o,Z,Z,Z,Z]=R (.nx,ρ1)∧Fc pg (EZ pg W n) W 3 nA ρ1=R (.rt<|.d<|.bool g,ρ2)∧
  ρ2.take 3=[pr c U p1 dp,E4 pl1,E4 wl1]∧qj (E0 pg (EZ pg W<|n+1) aP) (Fc pg (EZ pg W<|n+1) W 1 aQ) kE [pr c U p1 dp,E4 pl1,E4 wl1,GY g]=R (.nx,ρ')∧F ρ'
abbrev zrx (d:Nd) (l l':D Tk):Prop:=∀p,E2 U p l→∃m p',IF d m∧E2 U p' l'∧EZ pg W (n+1) 52 [pr c U p dp]=R (.d m,[pr c U p' dp])
end
mutual namespace A
abbrev KF (l:D Tk):Prop:=¬((zV l 0).1∈OE∧(zA (wd (zV l 0).2)<|Hd 1).isSome=f'∧Pw l=La)
end
mutual section
variable {n c p:Q} {U:D MV} {dp:g'} {t:Tk} {l:D Tk} {ps:D Nd} {ws:D Wt} {F:Ev→Prop}
def zbx (U':FE c):pg.mt c 21=R 42:=Ng U' C C
def nC (U':FE c):pg.mt c 22=R 43:=Ng U' C C
def zry (U':FE c):pg.mt c 23=R 44:=Ng U' C C
def vW (U':FE c):pg.mt c 24=R 45:=Ng U' C C
def Wz (U':FE c):pg.mt c 25=R 46:=Ng U' C C
def ze3 (U':FE c):pg.mt c 27=R 48:=Ng U' C C
def Qa (U':FE c):pg.mt c 28=R 49:=Ng U' C C
def zbz (U':FE c):pg.mt c 30=R 51:=Ng U' C C
def zkd (U':FE c):pg.mt c 31=R 52:=Ng U' C C
def nD (U':FE c) (v:E2 U p l) {J:Ev}:E0 pg (EZ pg W<|n+3) (.meth 0 21 .nil) (pr c U p dp::J)=R (.d<|.bool<|Pw l,pr c U p dp::J):=zU (c:=c) C (zbx U') C (zbr U' v) C
def ze4 (x:Sx):jE .isin (.str x) (.tup [.str BT,.str EX])=R (decide (x∈OE)):=qJ OE
def jR (U':FE c) (v:E2 U p<|t::l):∃s:g',∀J,E0 pg (EZ pg W<|n+1) (.meth 0 11 .nil) (pr c U p dp::J)=R (.d<|.int s,pr c U p dp::J):=by
 refine Fg (ze0 (n:=n) (dp:=dp) U' v) λs h=>?_
 exact⟨s,λJ=>zU (c:=c) C (ze1 U') C h C⟩
def r7 (U':FE c) (v:E2 U p<|t::l) {J:Ev} {b:Ld} (hb:(decide (t.1∈OE)&&(zA (wd t.2)<|Hd 1).isSome&&!Pw (t::l))=b):E0 pg (EZ pg W<|n+3) rZ (pr c U p dp::J)=R (.d<|.bool b,pr c U p dp::J):=by
 have hk:E0 pg (EZ pg W<|n+3) (.cmp .isin (.meth 0 9 .nil)<|.tupD #[Da Fz,Da Gn]) (pr c U p dp::J)=R (.d<|.bool<|decide (t.1∈OE),pr c U p dp::J):=ze C (jB U' v) C C<|ze4 _
 have hw:=qV (n:=n+2) (dp:=dp) U' v (a:=0) (J:=J)
 rw[FO]at hw
 have hd:=Js (P:=pg) (M':=1) hw
 subst hb
 induction Y:decide (t.1∈OE)with
 |La=>rw[Y]at hk;simp only[Bp];exact zu hk
 |f'=>
  rw[Y]at hk
  induction T':(zA (wd t.2)<|Hd 1).isSome with
  |La=>rw[show(zA (wd t.2)<|pg.ds 1).isSome=La from T']at hd;simp only[Bq,Bp];exact zi hk<|zu hd
  |f'=>rw[show(zA (wd t.2)<|pg.ds 1).isSome=f' from T']at hd;simp only[Y8];exact zi hk<|zi hd<|Je<|nD (n:=n) (dp:=dp) U' v (J:=J)
def zrz (U':FE c) {k h:Sx} {lvl:g'} (hk:k∈OE) (hh:wd h=h) (hl:zA h (Hd 1)=R (.int lvl)) (hz:h.length≤20) (hq:Pw ((k,h)::l)=La) (z_:AS (n+3) c U dp F ps ((lvl,.ahead h)::ws) l):AS (n+3) c U dp F ps ws<|(k,h)::l:=by
 intro hs pl wl p kE kS o1 o2 hp hw v hE hS
 refine cps λGG kk=>?_
 obtain⟨kS,C⟩:∃q,kS=q+1:=⟨kS -1,ZA hS⟩
 refine Fg (jR (n:=n+2) (dp:=dp) U' v) λs hsp=>?_
 simp only[j1]at hE hS
 have hwd:=λJ=>qV (n:=n+2) (dp:=dp) U' v (a:=0) (J:=J)
 rw[FO]at hwd
 simp only[hh]at hwd
 obtain⟨wl1,p1,o1',o2',ρ2,ρ',Y,T',h3,h4⟩:=z_ (by unfold Sz at hs⊢;simp at hs⊢;exact ct hs) pl (wl++[.tup [.int lvl,.str<|IQ++h,.int s,.str [],.str []]]) (p+1) kE kS (E6 h) (E9 s) hp (hw.push ⟨hz,s,C⟩) (v.step<|by rintro C;revert hk;decide) (cu hE)<|bW hS
 refine kk ?_
 refine⟨wl1,p1,o1',o2',ρ2,ρ',qf (r7 U' v (b:=f') ?_) ?_ Y,T',h3,h4⟩
 ·simp only[hh,hl,hq];simp[hk]
 ·exact zc (qA (zx (hwd _)<|zx (hsp _) GS) C)<|jO (kj U' v)<|zc (vt (l0:=wl) (l:=wl) C (zr (za (KB (P:=pg) (M':=1) (k:=h) C hl)<|za (zY C C<|Jg<|by simp;exact lE hz omT)<|za C<|za C<|za C Fb) C) C<|Ga (by have:=hw.len;unfold Sz at hs;exact Rx this hs:wl.length≤250000) omT) E8
def kY (U':FE c) {d:Nd} {l':D Tk} (hn:KF l) (hl:l'.length<l.length) (ho:zrx (n+3) c U dp d l l') (z_:BS (n+3) c U dp F (d::ps) ws l'):AS (n+3) c U dp F ps ws l:=by
 intro hs pl wl p kE kS o1 o2 hp hw v hE hS
 refine cps λGG kk=>?_
 refine Ib (K9 v.ne) λt r e2=>?_
 subst e2
 obtain⟨kS,C⟩:∃q,kS=q+1:=⟨kS -1,ZA hS⟩
 refine Fv (ho p v) λm p1 hm v1 hr=>?_
 have hlen:=v.len
 simp only[j1]at hl hE hS hlen
 obtain⟨g,pl1,wl1,p2,ρ1,ρ2,ρ',Y,T',h3,h4,h5⟩:=z_ (by unfold Sz at hs⊢;simp at hs⊢;exact cv hl hs) (pl++[m]) wl p1 kE W Z (hp.push hm) hw v1 (Te hE hl)<|Tf hW hlen (v.z) hl
 refine kk ?_
 refine⟨wl,p,o1,o2,[pr c U p2 dp,E4 pl1,E4 wl1,GY g],ρ',qn<|r7 U' v (b:=La) ?_,?_,h4,h5⟩
 ·unfold KF at hn
  rw[FO]at hn
  cases Y:decide (t.1∈OE)<;>cases T':(zA (wd t.2)<|Hd 1).isSome<;>cases h3:Pw (t::r)<;>first|rfl|exact Lg ⟨Lm Y,T',h3⟩ hn
 ·exact zc (vt (l0:=pl) (l:=pl) C (zU (c:=c) C (zkd U') C hr C) C<|Ga (by have:=hp.len;unfold Sz at hs;exact Ry hs this:pl.length≤250000) omT)<|zt (jm (c:=c) C (zry U') (zf C<|zf C Fk) C (zd (F:=Hz) C C (jo Y T') h3:EZ pg W (n+3+1) 44 [pr c U p1 dp,E4<|pl++[m],E4 wl]=R (.d<|.bool g,[pr c U p2 dp,E4 pl1,E4 wl1])) C) C E8
def Qb (U':FE c) (v:E2 U p<|t::l) {J:Ev}:E0 pg (EZ pg W<|n+1) i4 (pr c U p dp::J)=R (.d<|.bool<|decide (t.1=EX)&&decide (wd t.2="["),pr c U p dp::J):=by
 have hk:E0 pg (EZ pg W<|n+1) (.cmp .eq (.meth 0 9 .nil)<|Da Gn) (pr c U p dp::J)=R (.d<|.bool<|decide (t.1=EX),pr c U p dp::J):=ze C (jB U' v) C C C
 have hw:=qV (n:=n) (dp:=dp) U' v (a:=0) (J:=J)
 rw[FO]at hw
 induction Y:decide (t.1=EX)with
 |La=>rw[Y]at hk;simp only[Bp];exact zu hk
 |f'=>rw[Y]at hk;simp only[Y8];exact zi hk<|ze C hw C C C
def KG (U':FE c) (v:E2 U p<|t::l) {J:Ev}:E0 pg (EZ pg W<|n+1) (.and (.cmp .eq (.meth 0 9 .nil)<|Da Fz)<|.cmp .eq (.meth 0 10 #[EY 0])<|Da GH) (pr c U p dp::J)=R (.d<|.bool<|decide (t.1=BT)&&decide (wd t.2=HB),pr c U p dp::J):=by
 have hk:E0 pg (EZ pg W<|n+1) (.cmp .eq (.meth 0 9 .nil)<|Da Fz) (pr c U p dp::J)=R (.d<|.bool<|decide (t.1=BT),pr c U p dp::J):=ze C (jB U' v) C C C
 have hw:=qV (n:=n) (dp:=dp) U' v (a:=0) (J:=J)
 rw[FO]at hw
 induction Y:decide (t.1=BT)with
 |La=>rw[Y]at hk;simp only[Bp];exact zu hk
 |f'=>rw[Y]at hk;simp only[Y8];exact zi hk<|ze C hw C C C
def ze5 (U':FE c) (h:wT l) (hF:Sz ps ws l→∀pl wl p,Mo ps pl→Nh ws wl→E2 U p l→F [pr c U p dp,E4 pl,E4 wl,GY La]):BS (n+3) c U dp F ps ws l:=by
 intro hs pl wl p kE kB o hp hw v hE hB
 refine Ib (K9 v.ne) λt r e2=>?_
 subst e2
 obtain⟨kE,C⟩:∃q,kE=q+1:=⟨kE -1,ZA hE⟩
 obtain⟨kB,C⟩:∃q,kB=q+1:=⟨kB -1,ZA hB⟩
 refine Fg (jR (n:=n+2) (dp:=dp) U' v) λs hsp=>?_
 have hb:=h.box
 have he:=h.els
 rw[FO]at hb he
 have eb:(decide (t.1=EX)&&decide (wd t.2="["))=La:=by
  cases Y:decide (t.1=EX)<;>cases T':decide (wd t.2="[")<;>first|rfl|exact Lg ⟨Lm Y,Lm T'⟩ hb
 have ee:(decide (t.1=BT)&&decide (wd t.2=HB))=La:=by
  cases Y:decide (t.1=BT)<;>cases T':decide (wd t.2=HB)<;>first|rfl|exact Lg ⟨Lm Y,Lm T'⟩ he
 have Y:=λJ=>Qb (n:=n+2) (dp:=dp) U' v (J:=J)
 have T':=λJ=>KG (n:=n+2) (dp:=dp) U' v (J:=J)
 rw[eb]at Y
 rw[ee]at T'
 refine⟨La,pl,wl,p,_,_,_,qn<|Y _,zb (T' _)<|zt (hsp _) C<|zc (kW (zU (c:=c) C (Wz U') C (Yp (n:=n) (dp:=dp) U' v h) C) C)<|zG C C,C,qn C,hF hs pl wl p hp hw v⟩
nonrec abbrev coS:S:=.ite (.and (.cmp .gt (.b1 .len FD)<|EY 0)<|.and (.cmp .eq (.idx (.idx FD<|.neg<|EY 1)<|EY 0) Im)<|.cmp .ne Im<|.glb<|.int 3) #v[.ite (.cmp .eq Im<|.glb<|.int 6) #v[.bad] .skip,.exp<|.meth 0 29 #[Fe,.pop 2]] .skip
def qD {P:Pg} {cl:HM} {np j:Q} {e:X} {J ρ1 ρ2:Ev} {x:MV} {l l0:D MV} (h0:gt J j=E4 l0) (he:E0 P cl e J=R (.d x,ρ1)) (Y:gt ρ1 j=E4 l) (hz:l.length≤1000000) (hs:st ρ1 j (.l<|l++[x])=ρ2):Fc P cl W np (.app j e) J=R (.nx,ρ2):=by
 refine rp hs ?_;exact vt h0 he Y hz
def r_ {a b:g'} (h:a=b):jE .eq (.int a) (.int b)=R f':=Li R<|Ll h
def nF {a b:g'} (h:a≠b):jE .eq (.int a) (.int b)=R La:=Li R<|Lk h
def zta {a b:g'} (h:a≠b):jE .ne (.int a) (.int b)=R f':=by refine(?_:R (!decide (a=b))=_);refine rq (Lk h) ?_;rfl
def nG {a b:Sx} (h:a=b):jE .eq (.str a) (.str b)=R f':=Li R<|Ll h
def KI {a b:Sx} (h:a≠b):jE .eq (.str a) (.str b)=R La:=Li R<|Lk h
inductive Oy (lvl:g'):D Nd→D Wt→D Nd→D Wt→Prop where
 |keep {ps:D Nd} {base:D Wt}:(∀w r,base=w::r→w.1<lvl∨(w.1=3∧lvl=3))→Oy lvl ps base ps base
 |join {ps ps':D Nd} {w:Wt} {base:D Wt}:w.1=lvl→lvl≠3→lvl≠6→SS w.2 ps=R ps'→Oy lvl ps (w::base) ps' base
def Oy.top {lvl:g'} {ps ps':D Nd} {b b':D Wt} (h:Oy lvl ps b ps' b'):Wy lvl b:=by
 cases h with
 |keep h=>
  cases b with
  |nil=>trivial
  |cons w r=>exact(h w r C).elim Co λh=>(uA h.2 h.1:w.1≤lvl)
 |join h=>show _≤_;exact uB h
set_option tactic.hygienic true in
def ze6 (U':FE c) {lvl:g'} {ps ps':D Nd} {b b':D Wt} (h:Oy lvl ps b ps' b') {pl wl:D MV} (hp:Mo ps pl) (hw:Nh b wl) (hz:pl.length≤400000) (hz2:wl.length≤400000) {s3 s4 s5:Lc Th}:
  ∃pl' wl',Mo ps' pl'∧Nh b' wl'∧pl'.length≤pl.length∧wl'.length≤wl.length∧Fc pg (EZ pg W<|n+1) W 3 coS [pr c U p dp,E4 pl,E4 wl,s3,s4,s5,E9 lvl,Z]=R (.nx,[pr c U p dp,E4 pl',E4 wl',s3,s4,s5,E9 lvl,Z]):=by
 cases h with
 |keep h=>
  refine⟨pl,wl,hp,hw,j2 _,j2 _,zR ?_ E8⟩
  cases b with
  |nil=>
   have:=RS.emp hw
   subst this
   exact zu<|vE (l:=[]) (o:=.nil) (by decide) C
  |cons w r=>
   obtain⟨q,m,C,⟨_,sp0,C⟩,hq⟩:=RS.pop hw
   simp only[q8,j1,y0]at hz2
   have Y:=vE (l:=q++[.tup [.int w.1,.str w.2.sg,.int sp0,.str w.2.lf,.str w.2.rt]]) (o:=.nil) (cl:=EZ pg W<|n+1) (j:=2) (J:=[pr c U p dp,E4 pl,E4<|q++[.tup [.int w.1,.str w.2.sg,.int sp0,.str w.2.lf,.str w.2.rt]],s3,s4,s5,E9 lvl,Z]) (by simp;exact Pb hz2 omT) C
   rw[Ll<|by simp]at Y
   rcases h w r C with T'|⟨T',h3⟩
   ·refine zi Y<|zu<|ze C (vU (q:=q) C (Pb hz2 omT) C) C C ?_
    exact nF<|uC T'
   ·clear h;subst h3
    refine zi Y<|zi (ze C (vU (q:=q) C (Pb hz2 omT) C) C C ?_) C
    exact r_ T'
 |join Y T' h3 h4=>
  rename_i w
  refine Fv (RS.pop hw) λq m e2 hm hq=>?_
  clear hw;subst e2
  simp only[q8,j1,y0]at hz2
  refine Hs (KD (n:=n) (o:=pr c U p dp) hm hp h4<|Ga hz omT) λpl1 hp1 hl1 hr=>?_
  refine⟨pl1,q,hp1,hq,hl1,by simp,?_⟩
  clear hp hz h4 hq hp1 hl1;obtain⟨_,sp0,C⟩:=hm
  have hg:=vE (l:=q++[.tup [.int w.1,.str w.2.sg,.int sp0,.str w.2.lf,.str w.2.rt]]) (o:=.nil) (cl:=EZ pg W<|n+1) (j:=2) (J:=[pr c U p dp,E4 pl,E4<|q++[.tup [.int w.1,.str w.2.sg,.int sp0,.str w.2.lf,.str w.2.rt]],s3,s4,s5,E9 lvl,Z]) (by simp;exact Pb hz2 omT) C
  rw[Ll<|by simp]at hg
  refine zl (zi hg<|zi (ze C (vU (q:=q) C (Pb hz2 omT) C) C C<|r_ Y)<|qt C C<|zta T') (zb (qt C C<|nF h3)
   (jO (jm (c:=c) C (KE U') (zf C<|zf (jw C<|jL (q:=q) C (Pb hz2 omT) C) Fk) C hr C) E8))
def WA (U':FE c) {lf sg rt:Sx} {lvl:g'} {k:Wk} {l1 l2:D Tk} {wd base base1:D Wt} {ps0 ps1:D Nd} (hb:(decide ((zV l 0).1=EX)&&decide (Mine.Internal.L.wd (zV l 0).2="["))=La) (he:(decide ((zV l 0).1=BT)&&decide (Mine.Internal.L.wd (zV l 0).2=HB))=La)
  (hsg:sg≠[]) (Y:k.sg=sg) (T':k.lf=lf) (h3:k.rt=rt) (h4:k.ok) (hlv:(sg="!in"∧lvl=6)∨(sg≠"!in"∧zA sg (Hd 2)=R (.int lvl)))
  (hop:∀p,E2 U p l→∃p1,E2 U p1 l1∧EZ pg W (n+3) 46 [pr c U p dp]=R (.d<|.tup [.str lf,.str sg],[pr c U p1 dp]))
  (hml:(sg="->"∧∀p,E2 U p l1→∃p1,E2 U p1 l2∧EZ pg W (n+3) 48 [pr c U p dp]=R (.d<|.str rt,[pr c U p1 dp]))∨(sg≠"->"∧rt=[]∧l1=l2))
  (hws:ws=wd++base) (hwd:∀w∈wd,lvl<w.1) (hcs:GL wd ps=R ps0) (hcb:Oy lvl ps0 base ps1 base1) (hl:l2.length<l.length) (hlen:ps1.length≤ps.length) (hlen2:base1.length≤ws.length)
  (z_:AS (n+3) c U dp F ps1 ((lvl,k)::base1) l2):BS (n+3) c U dp F ps ws l:=by
 subst hws
 intro hs pl wl p kE kB o hp hw v hE hB
 refine Ib (K9 v.ne) λt r e2=>?_
 subst e2
 obtain⟨kE,C⟩:∃q,kE=q+1:=⟨kE -1,ZA hE⟩
 obtain⟨kB,C⟩:∃q,kB=q+1:=⟨kB -1,ZA hB⟩
 refine Fg (jR (n:=n+2) (dp:=dp) U' v) λs hsp=>?_
 refine E7 (hop p v) λp1 v1 hr1=>?_
 have hvl:=v.len
 rw[FO]at hb he
 have e1:=λJ=>Qb (n:=n+2) (dp:=dp) U' v (J:=J)
 have e2:=λJ=>KG (n:=n+2) (dp:=dp) U' v (J:=J)
 rw[hb]at e1
 rw[he]at e2
 have hpl:pl.length≤250000:=by have:=hp.len;unfold Sz at hs;exact Ry hs this
 have hwl:wl.length≤250000:=by have:=hw.len;unfold Sz at hs;exact Rx this hs
 refine RO (vV (n:=n+1) (U:=U) (p:=p1) (dp:=dp) U' (lvl:=lvl) hcb.top hwd hcs hp hw (Ga hwl omT)<|Ga hpl omT) λpl1 wl1 hp1 hw1 b1 b2 hset=>?_
 refine RO (ze6 (n:=n+2) (U:=U) (p:=p1) (dp:=dp) U' hcb hp1 hw1 (vb hpl b1 omT) (vb hwl b2 omT) (s3:=E9 s) (s4:=E6 lf) (s5:=E6 sg)) λpl2 wl2 hp2 hw2 b3 b4 hco=>?_
 have hm:∃p2,E2 U p2 l2∧∀a b:D MV,E0 pg (EZ pg W<|n+3) (.ite (.cmp .eq G_<|Da "->") (.meth 0 27 .nil)<|Da []) [pr c U p1 dp,E4 a,E4 b,E9 s,E6 lf,E6 sg,E9 lvl,Z]=R (.d<|.str rt,[pr c U p2 dp,E4 a,E4 b,E9 s,E6 lf,E6 sg,E9 lvl,Z]):=by
  rcases hml with⟨q1,q2⟩|⟨q1,q2,q3⟩
  ·refine E7 (q2 p1 v1) λp2 v2 hr2=>?_
   exact⟨p2,v2,λa b=>qm (qt C C<|nG q1)<|zU (c:=c) C (ze3 U') C hr2 C⟩
  ·clear hop;subst q2 q3
   exact⟨p1,v1,λa b=>qb (qt C C<|KI q1) C⟩
 refine E7 hm λp2 v2 hmt=>?_
 have hlvE:∀ρ2 s4,E0 pg (EZ pg W<|n+3) (.ite (.cmp .eq G_<|Da "!in") (.glb<|.int 6)<|.didx 2 G_) (pr c U p1 dp::E4 pl::E4 wl::E9 s::s4::E6 sg::ρ2)=R (.d<|.int lvl,pr c U p1 dp::E4 pl::E4 wl::E9 s::s4::E6 sg::ρ2):=λρ2 s4=>by
  clear hml hwd hcs hcb hp hw hb he v1 hpl hp1 hw1 b1 b3 hm hop;rcases hlv with⟨C,C⟩|⟨q1,q2⟩
  ·rfl
  ·exact qb (qt C C<|KI q1)<|KB (P:=pg) (M':=2) (k:=sg) C q2
 have hps1:=hp2.len
 have hws1:=hw2.len
 simp only[j1]at hl hE hB hvl
 obtain⟨wl3,p3,o1',o2',ρ2,ρ',a1,a2,a3,a4⟩:=z_ (by unfold Sz at hs⊢;simp at hs hlen2⊢;exact cw hs hl hlen2 hlen) pl2 (wl2++[.tup [.int lvl,.str sg,.int s,.str lf,.str rt]]) p2 kE W Z Z hp2 (hw2.push ⟨h4,s,by(refine rq Y ?_;refine rq T' ?_;exact rq h3 C)⟩) v2 (Tg hE hl)<|Tf hW hvl (v.z) hl
 refine⟨f',pl2,wl2++[.tup [.int lvl,.str sg,.int s,.str lf,.str rt]],p2,[pr c U p dp,E4 pl,E4 wl,o,Z,Z,Z,Z],[pr c U p2 dp,E4 pl2,E4<|wl2++[.tup [.int lvl,.str sg,.int s,.str lf,.str rt]],E9 s,E6 lf,E6 sg,E9 lvl,E6 rt],ρ',?_,?_,?_,?_,?_⟩
 ·exact(qn (e1 _):qj (E0 pg (EZ pg W<|n+3) i4) (Fc pg (EZ pg W<|n+3) W 3 i5) (kB+1) [pr c U p dp,E4 pl,E4 wl,o,Z,Z,Z,Z]=R (.nx,[pr c U p dp,E4 pl,E4 wl,o,Z,Z,Z,Z]))
 ·exact(zb (e2 _) (zc (yk (hsp _) C:Fc pg (EZ pg W<|n+3) W 3 (.asg 3<|.meth 0 11 .nil) [pr c U p dp,E4 pl,E4 wl,o,Z,Z,Z,Z]=R (.nx,[pr c U p dp,E4 pl,E4 wl,E9 s,Z,Z,Z,Z]))<|zc (kW (zU (c:=c) C (Wz U') C hr1 C) C:Fc pg (EZ pg W<|n+3) W 3 (.unp [4,5]<|.meth 0 25 .nil) [pr c U p dp,E4 pl,E4 wl,E9 s,Z,Z,Z,Z]=R (.nx,[pr c U p1 dp,E4 pl,E4 wl,E9 s,E6 lf,E6 sg,Z,Z]))<|zc (zR (qt C C<|KI hsg) E8:Fc pg (EZ pg W<|n+3) W 3 (.ite (.cmp .eq G_<|Da []) #v[.ret<|.lit<|.bool La] .skip) [pr c U p1 dp,E4 pl,E4 wl,E9 s,E6 lf,E6 sg,Z,Z]=R (.nx,[pr c U p1 dp,E4 pl,E4 wl,E9 s,E6 lf,E6 sg,Z,Z]))<|zc (yk (hlvE _ _) C:Fc pg (EZ pg W<|n+3) W 3 (.asg 6<|.ite (.cmp .eq G_<|Da "!in") (.glb<|.int 6)<|.didx 2 G_) [pr c U p1 dp,E4 pl,E4 wl,E9 s,E6 lf,E6 sg,Z,Z]=R (.nx,[pr c U p1 dp,E4 pl,E4 wl,E9 s,E6 lf,E6 sg,E9 lvl,Z]))<|zc (jA (jm (c:=c) C (vW U') (zf C<|zf C<|zf C Fk) C hset C):Fc pg (EZ pg W<|n+3) W 3 (.exp<|.meth 0 24 #[Fe,FD,Im]) [pr c U p1 dp,E4 pl,E4 wl,E9 s,E6 lf,E6 sg,E9 lvl,Z]=R (.nx,[pr c U p1 dp,E4 pl1,E4 wl1,E9 s,E6 lf,E6 sg,E9 lvl,Z]))<|zc hco<|zc (yk (hmt _ _) C:Fc pg (EZ pg W<|n+3) W 3 (.asg 7<|.ite (.cmp .eq G_<|Da "->") (.meth 0 27 .nil)<|Da []) [pr c U p1 dp,E4 pl2,E4 wl2,E9 s,E6 lf,E6 sg,E9 lvl,Z]=R (.nx,[pr c U p2 dp,E4 pl2,E4 wl2,E9 s,E6 lf,E6 sg,E9 lvl,E6 rt]))<|zc (qD (l0:=wl2) (l:=wl2) C (zr (za C<|za C<|za C<|za C<|za C Fb) C) C (cx b2 hwl b4) C:Fc pg (EZ pg W<|n+3) W 3 (.app 2<|.tupD #[Im,G_,GU,Iq,OO]) [pr c U p2 dp,E4 pl2,E4 wl2,E9 s,E6 lf,E6 sg,E9 lvl,E6 rt]=R (.nx,[pr c U p2 dp,E4 pl2,E4<|wl2++[.tup [.int lvl,.str sg,.int s,.str lf,.str rt]],E9 s,E6 lf,E6 sg,E9 lvl,E6 rt]))<|zw C):Fc pg (EZ pg W<|n+3) W 3 nA [pr c U p dp,E4 pl,E4 wl,o,Z,Z,Z,Z]=R (.rt<|.d<|.bool f',[pr c U p2 dp,E4 pl2,E4<|wl2++[.tup [.int lvl,.str sg,.int s,.str lf,.str rt]],E9 s,E6 lf,E6 sg,E9 lvl,E6 rt]))
 ·rfl
 ·exact(qf (C:E0 pg (EZ pg W<|n+3+1) aP [pr c U p2 dp,E4 pl2,E4<|wl2++[.tup [.int lvl,.str sg,.int s,.str lf,.str rt]],GY f']=R (.d<|.bool f',[pr c U p2 dp,E4 pl2,E4<|wl2++[.tup [.int lvl,.str sg,.int s,.str lf,.str rt]],GY f'])) (jO (qe (c:=c) C (nC U') C C (jx (F:=FV) C C (jo a1 E8) C:EZ pg W (n+3+1) 43 [pr c U p2 dp,E4<|wl2++[.tup [.int lvl,.str sg,.int s,.str lf,.str rt]]]=R (.d .none,[pr c U p3 dp,E4 wl3])) C) a2:Fc pg (EZ pg W<|n+3+1) W 1 aQ [pr c U p2 dp,E4 pl2,E4<|wl2++[.tup [.int lvl,.str sg,.int s,.str lf,.str rt]],GY f']=R (.nx,ρ2)) a3)
 ·exact a4
nonrec abbrev otT:X:=.and (.cmp .gt (.b1 .len FD)<|EY 0)<|.cmp .eq (.idx (.idx FD<|.neg<|EY 1)<|EY 1)<|Da GH
def Qc (U':FE c) {l1:D Tk} {wd base:D Wt} {ps1:D Nd} {pl wl:D MV} (v:E2 U p<|(BT,HB)::l1) (hwd:∀w∈wd,(3:g')<w.1) (hcs:GL wd ps=R ps1) (hp:Mo ps pl) (hw:Nh (wd++(3,.op "=>")::base) wl) (hz:pl.length≤300000) (hz2:wl.length≤300000):
  ∃pl' wl',Mo ps1 pl'∧Nh ((3,.els)::base) wl'∧EZ pg W (n+3) 49 [pr c U p dp,E4 pl,E4 wl]=R (.d<|.bool f',[pr c U (p+1) dp,E4 pl',E4 wl']):=by
 refine RO (vV (n:=n) (U:=U) (p:=p) (dp:=dp) (base:=(3,.op "=>")::base) U' (lvl:=3) (by decide:(3:g')≤3) hwd hcs hp hw (Ga hz2 omT)<|Ga hz omT) λpl1 wl1 hp1 hw1 b1 b2 hset=>?_
 clear hwd hcs hp hw hz;obtain⟨q,m,C,⟨_,s,C⟩,hq⟩:=RS.pop hw1
 simp only[q8,j1,y0]at b2
 clear left hw1
 let wm:MV:=.tup [.int 3,.str "=>",.int s,.str [],.str []]
 refine⟨pl1,q++[.tup [.int 3,.str HB,.int s,.str [],.str []]],hp1,hq.push ⟨trivial,s,C⟩,?_⟩
 have hg:=vE (l:=q++[wm]) (o:=.nil) (cl:=EZ pg W<|n+2) (j:=2) (J:=[pr c U p dp,E4 pl1,E4<|q++[wm],Z,Z,Z,Z,Z]) (by simp;exact JQ hz2 b2 omT) C
 rw[Ll<|by simp]at hg
 have ht:E0 pg (EZ pg W<|n+2) (.idx (.idx FD<|.neg<|EY 1)<|EY 1) [pr c U p dp,E4 pl1,E4<|q++[wm],Z,Z,Z,Z,Z]=R (.d<|.str "=>",[pr c U p dp,E4 pl1,E4<|q++[wm],Z,Z,Z,Z,Z]):=vU (q:=q) C (JQ hz2 b2 omT) C
 have hz0:E0 pg (EZ pg W<|n+2) (.cmp .eq (.b1 .len FD)<|EY 0) [pr c U p dp,E4 pl1,E4<|q++[wm],Z,Z,Z,Z,Z]=R (.d<|.bool La,[pr c U p dp,E4 pl1,E4<|q++[wm],Z,Z,Z,Z,Z]):=by
  refine ze C (jJ (w:=.l<|q++[wm]) (z:=.int ((q++[wm]).length:Q)) C<|Lh (by refine rq y_ ?_;simp;exact JQ hz2 b2 omT:(q++[wm]).length≤Z1)) C C<|nF<|by simp;exact uD
 exact zd (F:=G6) C C (zc (jA (jm (c:=c) C (vW U') (zf C<|zf C<|zf C Fk) C hset C):Fc pg (EZ pg W<|n+2) W 3 (.exp<|.meth 0 24 #[Fe,FD,.glb<|.int 3]) [pr c U p dp,E4 pl,E4 wl,Z,Z,Z,Z,Z]=R (.nx,[pr c U p dp,E4 pl1,E4<|q++[wm],Z,Z,Z,Z,Z]))<|zc (Wm (qn<|zi hg<|ze C ht C C C):Fc pg (EZ pg W<|n+2) W 3 (.whl otT #v[.exp<|.meth 0 29 #[Fe,.pop 2]]) [pr c U p dp,E4 pl1,E4<|q++[wm],Z,Z,Z,Z,Z]=R (.nx,[pr c U p dp,E4 pl1,E4<|q++[wm],Z,Z,Z,Z,Z]))<|zc (zR (Kx hz0<|ze C ht C C C) E8:Fc pg (EZ pg W<|n+2) W 3 (.ite (.or (.cmp .eq (.b1 .len FD)<|EY 0)<|.cmp .ne (.idx (.idx FD<|.neg<|EY 1)<|EY 1)<|Da "=>") #v[.ret<|.lit<|.bool La] .skip) [pr c U p dp,E4 pl1,E4<|q++[wm],Z,Z,Z,Z,Z]=R (.nx,[pr c U p dp,E4 pl1,E4<|q++[wm],Z,Z,Z,Z,Z]))<|zc (jA (kj U' v):Fc pg (EZ pg W<|n+2) W 3 (.exp<|.meth 0 12 .nil) [pr c U p dp,E4 pl1,E4<|q++[wm],Z,Z,Z,Z,Z]=R (.nx,[pr c U (p+1) dp,E4 pl1,E4<|q++[wm],Z,Z,Z,Z,Z]))<|zc (kW (jL (q:=q) C (JQ hz2 b2 omT) C) C:Fc pg (EZ pg W<|n+2) W 3 (.unp [3,4,5,6,7]<|.pop 2) [pr c U (p+1) dp,E4 pl1,E4<|q++[wm],Z,Z,Z,Z,Z]=R (.nx,[pr c U (p+1) dp,E4 pl1,E4 q,E9 3,E6 "=>",E9 s,E6 [],E6 []]))<|zc (qD (l0:=q) (l:=q) C (zr (za C<|za C<|za C<|za C<|za C Fb) C) C (JQ hz2 b2 omT) C:Fc pg (EZ pg W<|n+2) W 3 (.app 2<|.tupD #[GU,Da GH,G_,Da [],Da []]) [pr c U (p+1) dp,E4 pl1,E4 q,E9 3,E6 "=>",E9 s,E6 [],E6 []]=R (.nx,[pr c U (p+1) dp,E4 pl1,E4<|q++[.tup [.int 3,.str HB,.int s,.str [],.str []]],E9 3,E6 "=>",E9 s,E6 [],E6 []]))<|zw C) C
def ze7 (U':FE c) {l1:D Tk} {wd base:D Wt} {ps1:D Nd} (hwd:∀w∈wd,(3:g')<w.1) (hcs:GL wd ps=R ps1) (hlen:ps1.length≤ps.length)
  (z_:AS (n+3) c U dp F ps1 ((3,.els)::base) l1):BS (n+3) c U dp F ps (wd++(3,.op "=>")::base)<|(BT,HB)::l1:=by
 intro hs pl wl p kE kB o hp hw v hE hB
 obtain⟨kE,C⟩:∃q,kE=q+1:=⟨kE -1,ZA hE⟩
 obtain⟨kB,C⟩:∃q,kB=q+1:=⟨kB -1,ZA hB⟩
 have hvl:=v.len
 refine Fv (Qc (n:=n) (dp:=dp) U' v hwd hcs hp hw (Ga (by have:=hp.len;unfold Sz at hs;exact Ry hs this:pl.length≤250000) omT)<|Ga (by have:=hw.len;unfold Sz at hs;exact Rx this hs:wl.length≤250000) omT) λpl2 wl2 hp2 hw2 hr=>?_
 simp only[j1]at hE hB hvl
 obtain⟨wl3,p3,o1',o2',ρ2,ρ',a1,a2,a3,a4⟩:=z_ (by unfold Sz at hs⊢;simp at hs⊢;exact cA hs hlen) pl2 wl2 (p+1) kE W Z Z hp2 hw2 (v.step<|by decide) (bW hE)<|cB hW hvl<|v.z
 refine⟨f',pl2,wl2,p+1,[pr c U p dp,E4 pl,E4 wl,o,Z,Z,Z,Z],[pr c U (p+1) dp,E4 pl2,E4 wl2,o,Z,Z,Z,Z],ρ',?_,?_,?_,?_,?_⟩
 ·exact(qn ((λJ=>Qb (n:=n+2) (dp:=dp) U' v (J:=J)) _):qj (E0 pg (EZ pg W<|n+3) i4) (Fc pg (EZ pg W<|n+3) W 3 i5) (kB+1) [pr c U p dp,E4 pl,E4 wl,o,Z,Z,Z,Z]=R (.nx,[pr c U p dp,E4 pl,E4 wl,o,Z,Z,Z,Z]))
 ·exact(zG ((λJ=>KG (n:=n+2) (dp:=dp) U' v (J:=J)) _) (jm (c:=c) C (Qa U') (zf C<|zf C Fk) C hr C):Fc pg (EZ pg W<|n+3) W 3 nA [pr c U p dp,E4 pl,E4 wl,o,Z,Z,Z,Z]=R (.rt<|.d<|.bool f',[pr c U (p+1) dp,E4 pl2,E4 wl2,o,Z,Z,Z,Z]))
 ·rfl
 ·exact(qf (C:E0 pg (EZ pg W<|n+3+1) aP [pr c U (p+1) dp,E4 pl2,E4 wl2,GY f']=R (.d<|.bool f',[pr c U (p+1) dp,E4 pl2,E4 wl2,GY f'])) (jO (qe (c:=c) C (nC U') C C (jx (F:=FV) C C (jo a1 E8) C:EZ pg W (n+3+1) 43 [pr c U (p+1) dp,E4 wl2]=R (.d .none,[pr c U p3 dp,E4 wl3])) C) a2:Fc pg (EZ pg W<|n+3+1) W 1 aQ [pr c U (p+1) dp,E4 pl2,E4 wl2,GY f']=R (.nx,ρ2)) a3)
 ·exact a4
abbrev ExR (n c:Q) (U:D MV) (dp:g') (as:D Nd) (l1 l2:D Tk):Prop:=∀p,E2 U p l1→∃ms p',Nx as ms∧E2 U p' l2∧EZ pg W n 51 [pr c U p dp,E6 "]"]=R (.d<|.tup ms,[pr c U p' dp,E6 "]"])
def zkh (U':FE c) {l1 l2:D Tk} {wd base:D Wt} {ps1:D Nd} {b:Nd} {as:D Nd} (hb:Wy 14 base) (hwd:∀w∈wd,(14:g')<w.1) (hcs:GL wd ps=R (b::ps1)) (hlen:ps1.length+1≤ps.length) (hl:l2.length<l1.length+1) (hx:ExR (n+3) c U dp as l1 l2)
  (z_:BS (n+3) c U dp F (.box b as::ps1) base l2):BS (n+3) c U dp F ps (wd++base)<|(EX,"[")::l1:=by
 intro hs pl wl p kE kB o hp hw v hE hB
 obtain⟨kB,C⟩:∃q,kB=q+1:=⟨kB -1,ZA hB⟩
 have hpl:pl.length≤250000:=by have:=hp.len;unfold Sz at hs;exact Ry hs this
 refine Fg (jR (n:=n+2) (dp:=dp) U' v) λs hsp=>?_
 refine RO (vV (n:=n+1) (U:=U) (p:=p) (dp:=dp) U' (lvl:=14) hb hwd hcs hp hw (Ga (by have:=hw.len;unfold Sz at hs;exact Rx this hs:wl.length≤250000) omT)<|Ga hpl omT) λpl1 wl1 hp1 hw1 b1 b2 hset=>?_
 refine Fv hp1.pop λq mb e2 hmb hq=>?_
 clear hp1;subst e2
 simp only[q8,j1,y0]at b1
 refine Fv (hx (p+1)<|v.step<|by decide) λms p2 hms v2 hr=>?_
 simp only[j1]at hE hB
 obtain⟨g,pl3,wl3,p3,ρ1,ρ2,ρ',Y,T',h3,h4,h5⟩:=z_ (by unfold Sz at hs⊢;simp at hs⊢;exact cC hl hs hlen) (q++[.tup [.str R6,.int s,mb,.tup ms]]) wl1 p2 kE kB (E9 s) (hq.push ⟨s,mb,ms,C,hmb,hms⟩) hw1 v2 (Te hE hl)<|Tg hB hl
 refine⟨g,pl3,wl3,p3,ρ1,ρ2,ρ',?_,?_,?_,?_,?_⟩
 ·exact(qf ((λJ=>Qb (n:=n+2) (dp:=dp) U' v (J:=J)) [E4 pl,E4 wl,o,Z,Z,Z,Z]) (zc (jA (jm (c:=c) C (vW U') (zf C<|zf C<|zf C Fk) C hset C):Fc pg (EZ pg W<|n+3) W 3 (.exp<|.meth 0 24 #[Fe,FD,.bin .sub (.glb<|.int 15)<|EY 1]) [pr c U p dp,E4 pl,E4 wl,o,Z,Z,Z,Z]=R (.nx,[pr c U p dp,E4<|q++[mb],E4 wl1,o,Z,Z,Z,Z])) (zc (yk (hsp _) C:Fc pg (EZ pg W<|n+3) W 3 (.asg 3<|.meth 0 11 .nil) [pr c U p dp,E4<|q++[mb],E4 wl1,o,Z,Z,Z,Z]=R (.nx,[pr c U p dp,E4<|q++[mb],E4 wl1,E9 s,Z,Z,Z,Z]))<|zc (jA (kj U' v):Fc pg (EZ pg W<|n+3) W 3 (.exp<|.meth 0 12 .nil) [pr c U p dp,E4<|q++[mb],E4 wl1,E9 s,Z,Z,Z,Z]=R (.nx,[pr c U (p+1) dp,E4<|q++[mb],E4 wl1,E9 s,Z,Z,Z,Z]))<|zc (qD (l0:=q++[mb]) (l:=q) C (zr (za C<|za C<|za (jL (q:=q) C (JQ hpl b1 omT) C)<|za (qe (c:=c) C (zbz U') C C hr C) Fb) C) C (JQ hpl b1 omT) C:Fc pg (EZ pg W<|n+3) W 3 (.app 1<|.tupD #[Da "box",GU,.pop 1,.meth 0 30 #[Da "]"]]) [pr c U (p+1) dp,E4<|q++[mb],E4 wl1,E9 s,Z,Z,Z,Z]=R (.nx,[pr c U p2 dp,E4<|q++[.tup [.str R6,.int s,mb,.tup ms]],E4 wl1,E9 s,Z,Z,Z,Z])) E8):Fc pg (EZ pg W<|n+3) W 3 i5 [pr c U p dp,E4 pl,E4 wl,o,Z,Z,Z,Z]=R (.nx,[pr c U p2 dp,E4<|q++[.tup [.str R6,.int s,mb,.tup ms]],E4 wl1,E9 s,Z,Z,Z,Z])) Y)
 ·exact T'
 ·exact h3
 ·exact h4
 ·exact h5
structure nH (c:Q) (U:D MV) (dp:g') (d:Nd) (l':D Tk) (J:Ev):Prop where
 h:∃pl wl p ps ws,Mo ps pl∧Nh ws wl∧GL ws ps=R [d]∧E2 U p l'∧pl.length≤250000∧wl.length≤250000∧J=[pr c U p dp,R<|.l pl,R<|.l wl,R<|.d<|.bool La]
nonrec abbrev m9:X:=.cmp .gt (.b1 .len FD)<|EY 0
nonrec abbrev sd:S:=#v[.exp<|.meth 0 29 #[Fe,.pop 2]]
def ze8 (U':FE c) (ws:D Wt):∀(ps ps':D Nd) (pl wl:D MV) (k:Q),GL ws ps=R ps'→Mo ps pl→Nh ws wl→wl.length≤400000→pl.length≤400000→ws.length<k→
  ∃pl',Mo ps' pl'∧qj (E0 pg (EZ pg W<|n+1) m9) (Fc pg (EZ pg W<|n+1) W 1 sd) k [pr c U p dp,E4 pl,E4 wl,GY La]=R (.nx,[pr c U p dp,E4 pl',E4 [],GY La]):=by
 induction ws with
 |nil=>
  intro ps ps' pl wl k hcs hp hw hz hz2 hk
  obtain⟨k,C,h0⟩:=qr hk
  replace hcs:=z' hcs;subst hcs
  have:=RS.emp hw
  subst this
  exact⟨pl,hp,qn<|vE (l:=[]) (o:=.nil) (by decide) C⟩
 |cons w wd ih=>
  intro ps ps' pl wl k hcs hp hw hz hz2 hk
  obtain⟨k,C,h0⟩:=qr hk
  refine cps λGG kk=>?_
  refine Fv (RS.pop hw) λq m e2 hm hq=>?_
  clear hw;subst e2
  simp only[NZ]at hcs
  refine E7 (Bf.mp hcs) λps1 ht hcs=>?_
  simp only[q8,j1,y0]at hz
  refine Hs (KD (n:=n) (o:=pr c U p dp) hm hp ht<|Ga hz2 omT) λpl1 hp1 hl1 hr=>?_
  refine E7 (ih ps1 ps' pl1 q k hcs hp1 hq (Pb hz omT) (vb hz2 hl1 omT) h0) λpl' Y h5=>?_
  refine kk ?_
  refine⟨pl',Y,?_⟩
  have hg:=vE (l:=q++[m]) (o:=.nil) (cl:=EZ pg W<|n+1) (j:=2) (J:=[pr c U p dp,E4 pl,E4<|q++[m],GY La]) (by simp;exact Pb hz omT) C
  rw[Ll<|by simp]at hg
  exact qf hg (jO (jm (c:=c) C (KE U') (zf C<|zf (jw C<|jL (q:=q) C (Pb hz omT) C) Fk) C hr C) E8:Fc pg (EZ pg W<|n+1) W 1 sd [pr c U p dp,E4 pl,E4<|q++[m],GY La]=R (.nx,[pr c U p dp,E4 pl1,E4 q,GY La])) h5
def ze9 (U':FE c) (hdp:dp+1≤25) {d:Nd} {l':D Tk} (hl:l.length≤200000) (z_:AS (n+3) c U (dp+1) (nH c U (dp+1) d l') [] [] l) (v:E2 U p l):
  ∃m p',IF d m∧E2 U p' l'∧EZ pg W (n+5) 41 [pr c U p dp]=R (.d m,[pr c U p' dp]):=by
 have hz:=v.z
 have hvl:=v.len
 refine Fg (⟨W -1,t7 hW⟩:∃k,W=k+1) λk hk=>?_
 clear hz hvl;obtain⟨wl1,p1,o1',o2',ρ2,ρ',a1,a2,a3,⟨pl,wl,p2,ps,ws,hp,hw,hcs,v2,z1,z2,C⟩⟩:=z_ (by unfold Sz;simp;exact Ga hl omT) [] [] p k W Z Z RS.nil RS.nil v (cD hW hk hl)<|JP hW hl omT
 have hlo:qj (E0 pg (EZ pg W<|n+3+1) aP) (Fc pg (EZ pg W<|n+3+1) W 1 aQ) W [pr c U p<|dp+1,E4 [],E4 [],GY f']=R (.nx,[pr c U p2<|dp+1,E4 pl,E4 wl,GY La]):=by
  have:=qf (C:E0 pg (EZ pg W<|n+3+1) aP [pr c U p<|dp+1,E4 [],E4 [],GY f']=R (.d<|.bool f',[pr c U p<|dp+1,E4 [],E4 [],GY f'])) (jO (qe (c:=c) C (nC U') C C (jx (F:=FV) C C (jo a1 E8) C:EZ pg W (n+3+1) 43 [pr c U p<|dp+1,E4 []]=R (.d .none,[pr c U p1<|dp+1,E4 wl1])) C) a2:Fc pg (EZ pg W<|n+3+1) W 1 aQ [pr c U p<|dp+1,E4 [],E4 [],GY f']=R (.nx,ρ2)) a3
  rwa [←hk]at this
 obtain⟨pl',hp',hen⟩:=ze8 (n:=n+3) (p:=p2) (U:=U) (dp:=dp+1) U' ws ps [d] pl wl W hcs hp hw (Ga z2 omT) (Ga z1 omT) (by have:=hw.len;exact cE hW z2 this)
 refine Fv hp'.pop λq m e2 hm hq=>?_
 clear hp';subst e2
 have hq0:q=[]:=by have:=hq.len;simpa using this.symm
 clear hq;subst hq0
 refine⟨m,p2,hm,v2,?_⟩
 have g2:Fc pg (EZ pg W<|n+4) W 1 (.ite (.cmp .gt (.fld 2 0 2)<|.glb<|.int 25) #v[.bad] .skip) [pr c U p<|dp+1,Z,Z,Z]=R (.nx,[pr c U p<|dp+1,Z,Z,Z]):=by
  have e:E0 pg (EZ pg W<|n+4) (.fld 2 0 2) [pr c U p<|dp+1,Z,Z,Z]=R (.d<|.int<|dp+1,[pr c U p<|dp+1,Z,Z,Z]):=by clear hl z_ v hk a1 a2 hp hw hcs v2 z1 z2 a3 hm;rcases U' with C|rfl<;>rfl
  refine zR (qt (by clear e;clear hl z_;clear v hk;clear a1 a2;clear hp hw;clear hcs v2;clear z1 z2;clear a3 hm;rcases U' with C|rfl<;>rfl:opn (.fld 2 0 2) (E0 pg (EZ pg W<|n+4)<|.fld 2 0 2) [pr c U p<|dp+1,Z,Z,Z]=R (.d<|.int<|dp+1,[pr c U p<|dp+1,Z,Z,Z])) C ?_) E8
  show R (decide _)=_
  exact rq (Lk<|uE hdp) C
 have g3:Fc pg (EZ pg W<|n+4) W 1 (.augF 2 0 2 .sub<|EY 1) [pr c U p2<|dp+1,E4 [m],E4 [],GY La]=R (.nx,[pr c U p2 dp,E4 [m],E4 [],GY La]):=by
  have:Fc pg (EZ pg W<|n+4) W 1 (.augF 2 0 2 .sub<|EY 1) [pr c U p2<|dp+1,E4 [m],E4 [],GY La]=R (.nx,[pr c U p2<|dp+1 -1,E4 [m],E4 [],GY La]):=by clear hdp;clear hl z_;clear v hk;clear a1 a2;clear hp hw;clear hcs v2;clear z1 z2;clear a3 hm;rcases U' with C|rfl<;>rfl
  (refine rq this ?_;rw[K_])
 exact zd (F:=GV) C C (zc (by clear hdp;clear hl z_;clear v hk;clear a1 a2;clear hp hw;clear hcs v2;clear z1 z2;clear a3 hm;rcases U' with C|rfl<;>rfl:Fc pg (EZ pg W<|n+4) W 1 (.augF 2 0 2 .add<|EY 1) [pr c U p dp,Z,Z,Z]=R (.nx,[pr c U p<|dp+1,Z,Z,Z]))<|zc g2<|zc (qA C C)<|zt C C<|jo hlo<|jo hen<|zc g3<|zw C) C
end
mutual section
variable (c:Q) (U:D MV) (k:g')
abbrev Yq {ι:Type} (I:ι→MV→Prop) (f n:Q) (d:ι) (l l':D Tk):Prop:=∀(dp:g') (p:Q),dp+k≤25→E2 U p l→∃m p',I d m∧E2 U p' l'∧EZ pg W n f [pr c U p dp]=R (.d m,[pr c U p' dp])
nonrec abbrev Gw:=Yq c U k IF 41
nonrec abbrev N1:=Yq c U k TL 53
nonrec abbrev se (G':X):X:=.not<|.meth 0 13 #[G']
nonrec abbrev sf (G':X) (j mi:Q):S:=#v[.app j<|.meth 0 mi .nil,.ite (.cmp .ne (.meth 0 10 #[EY 0]) G') #v[.exp<|.meth 0 14 #[Da ","]] .skip]
abbrev nI {ι:Type} (IL:D ι→D MV→Prop) (T:X) (Bd:S) (I':D MV→Ev) (np n:Q) (as:D ι) (l l':D Tk):Prop:=∀(dp:g') (p z8:Q) (q:D MV),dp+k≤25→E2 U p l→as.length<z8→q.length+as.length≤1000→∃ms p',IL as ms∧E2 U p' l'∧qj (E0 pg (EZ pg W n) T) (Fc pg (EZ pg W n) W np Bd) z8 (pr c U p dp::I' q)=R (.nx,pr c U p' dp::I' (q++ms))
abbrev Lp {ι:Type} (I:ι→MV→Prop) (IL:D ι→D MV→Prop) (G':X) (I':D MV→Ev) (j mi f:Q) (cl:Sx):Prop:=
 (∀(ρ0:Lc Th) (q:D MV) g,kM G' (E0 pg g G') f' (ρ0::I' q)=R (.v<|.d<|.str cl,ρ0::I' q))∧(∀(ρ0:Lc Th) (q:D MV) g,E0 pg g G' (ρ0::I' q)=R (.d<|.str cl,ρ0::I' q))∧(∀(ρ0:Lc Th) (q:D MV),gt (ρ0::I' q) j=E4 q)∧
 (∀(ρ0:Lc Th) (q q':D MV),st (ρ0::I' q) j (.l q')=ρ0::I' q')∧wd cl=cl∧decide (","=cl)=La∧pg.mt c mi=R f∧IL [] []∧∀a m as ms,I a m→IL as ms→IL (a::as) (m::ms)
nonrec abbrev xz {ι:Type} (IL:D ι→D MV→Prop) (G':X) (I':D MV→Ev) (j np mi n:Q) (as:D ι) (l l':D Tk):Prop:=nI c U k IL (se G') (sf G' j mi) I' np n as l l'
nonrec abbrev aR (q:D MV):Ev:=[E6 "]",E4 q]
nonrec abbrev TT:=xz c U k Nx Fe aR 2 2 20
nonrec abbrev bkT:X:=.not<|.meth 0 13 #[Da "}"]
nonrec abbrev bkB:S:=#v[.app 1<|.meth 0 20 .nil]
nonrec abbrev Oe:=nI c U k Nx bkT bkB (λq=>[E4 q]) 1
nonrec abbrev dlT:X:=.meth 0 13 #[Da ","]
nonrec abbrev dlB:S:=#v[.app 1<|.meth 0 32 .nil]
nonrec abbrev P6:=nI c U k HK dlT dlB (λq=>[E4 q]) 1
abbrev WB (n:Q) (ds:D Dc) (l l':D Tk):Prop:=∃d r l1,ds=d::r∧N1 c U k n d l l1∧P6 c U k n r l1 l'
end
section
mutual namespace A
variable {n c p:Q} {U:D MV} {dp k:g'} {t:Tk} {l l':D Tk}
def Jv {P:Pg} {cl:HM} {a:X} {J ρ1:Ev} (ha:E0 P cl a J=R (.d<|.bool f',ρ1)):E0 P cl (.not a) J=R (.d<|.bool La,ρ1):=Je ha
def Jw {P:Pg} {cl:HM} {a:X} {J ρ1:Ev} (ha:E0 P cl a J=R (.d<|.bool La,ρ1)):E0 P cl (.not a) J=R (.d<|.bool f',ρ1):=Je ha
def zk {P:Pg} {cl:HM} {np i:Q} {e:X} {J ρ1 ρ2:Ev} {v:Th} (he:E0 P cl e J=R (v,ρ1)) (hi:decide (np≤i∧i<ρ1.length)=f') (hs:st ρ1 i v=ρ2):Fc P cl W np (.asg i e) J=R (.nx,ρ2):=by
 refine rp hs ?_;exact yk he hi
def ztb {P:Pg} {cl:HM} {np:Q} {s1 s2:S} {J ρ1:Ev} (ha:Fc P cl W np s1 J=R (.br,ρ1)):Fc P cl W np (.seq s1 s2) J=R (.br,ρ1):=bn ha C
def jS (U':FE c):pg.mt c 20=R 41:=Ng U' C C
def kF (U':FE c):pg.mt c 14=R 35:=Ng U' C C
def WC (U':FE c):pg.mt c 32=R 53:=Ng U' C C
def Jx (U':FE c):pg.mt c 33=R 54:=Ng U' C C
def Qd (U':FE c):pg.mt c 34=R 55:=Ng U' C C
def zb1 (U':FE c):pg.mt c 35=R 56:=Ng U' C C
def zkk (U':FE c):pg.mt c 36=R 57:=Ng U' C C
def Zq (U':FE c):pg.mt c 37=R 58:=Ng U' C C
def xA (U':FE c):pg.mt c 18=R 39:=Ng U' C C
def WD (U':FE c):pg.mt c 17=R 38:=Ng U' C C
def kZ {l:D MV} (h:l.length≤1000000):aH .tuple (.l l)=R (.tup l):=by
 have:l.length≤Z1:=by refine rq y_ ?_;exact Ga h omT
 exact Lh this
def Ij:∀{as:D Nd} {ms:D MV},Nx as ms→ms.length=as.length
 |[],ms,h=>by subst h;rfl
 |a::as,ms,h=>by obtain⟨m,ms',C,_,h⟩:=h;simp[Ij h]
end
mutual section
variable {ι:Type} {I:ι→MV→Prop} {IL:D ι→D MV→Prop} {G':X} {I':D MV→Ev} {j np mi f:Q} {cl:Sx} {a:ι} {as:D ι} {l1 fl:D Tk}
def xB {m:MV} {q ms:D MV} {x:Lc<|Fw×Ev} {f:Fw} {J:Lc Th} (h:x=R (f,J::I' (q++[m]++ms))):x=R (f,J::I' (q++m::ms)):=by
 rw[j3]at h;exact h
def Qe {q:D MV} {m:MV} {b c:Q} (h:q.length+(b+1)≤c):(q++[m]).length+b≤c:=by rw[q8,Ca,Y5 [m].length];exact h
def zfa (U':FE c) (L:Lp c I IL G' I' j mi f cl):xz c U k IL G' I' j np mi (n+3) [] ((EX,cl)::l) l:=λdp p z8 q H v hN H=>E7 (qr hN) λM e H=>by
 subst e
 refine⟨[],p+1,L.2.2.2.2.2.2.2.1,v.step (by decide:EX≠FG),?_⟩
 rw[Z8]
 exact qn<|Jv<|qe (c:=c) C (qh U') (L.1 _ _ _) C (jV U' (by decide) v) C
def zfb (U':FE c) (L:Lp c I IL G' I' j mi f cl) (g1:t.2≠cl) (g2:Yq c U k I f (n+3) a (t::l)<|(EX,cl)::l1):xz c U k IL G' I' j np mi (n+3) [a] (t::l) l1:=λdp p z8 q hdp v hN hz=>E7 (qr hN) λM e hM=>E7 (qr hM) λM e' H=>Fv (g2 dp p hdp v) λm p1 hm v1 hr=>by
 subst e';subst e
 obtain⟨Y,T',h3,h4,h5,h6,h7,h8,h9⟩:=L
 refine⟨[m],p1+1,h9 _ _ _ _ hm h8,v1.step (by decide:EX≠FG),?_⟩
 have hw:=λJ=>qV (n:=n+2) (dp:=dp) U' v1 (a:=0) (J:=J)
 rw[FO]at hw
 exact qf (Jw<|qe (c:=c) C (qh U') (Y _ _ _) C (kC U' v g1) C) (zc (qD (l0:=q) (l:=q) (h3 _ _) (zU (c:=c) C h7 C hr C) (h3 _ _) (iB hz omT)<|h4 _ _ _)<|zb (qt (q:=La) (qg C (hw<|I'<|q++[m]) C) (T' _ _ _)<|Li (λb=>R<|!b)<|Ll h5) E8)<|qn<|Jv<|qe (c:=c) C (qh U') (Y _ _ _) C (jV U' (by decide) v1) C
def zb2 (U':FE c) (L:Lp c I IL G' I' j mi f cl) (g1:t.2≠cl) (g2:Yq c U k I f (n+3) a (t::l)<|(EX,",")::l1) (g3:xz c U k IL G' I' j np mi (n+3) as l1 l'):xz c U k IL G' I' j np mi (n+3) (a::as) (t::l) l':=λdp p z8 q hdp v hN hz=>E7 (qr hN) λM e hM=>Fv (g2 dp p hdp v) λm p1 hm v1 hr=>Fv (g3 dp (p1+1) M (q++[m]) hdp (v1.step<|by decide) hM<|Qe hz) λms p2 hms v2 hl=>by
 subst e
 obtain⟨Y,T',h3,h4,h5,h6,h7,h8,h9⟩:=L
 refine⟨m::ms,p2,h9 _ _ _ _ hm hms,v2,xB ?_⟩
 have hw:=λJ=>qV (n:=n+2) (dp:=dp) U' v1 (a:=0) (J:=J)
 rw[FO]at hw
 exact qf (Jw<|qe (c:=c) C (qh U') (Y _ _ _) C (kC U' v g1) C) (zc (qD (l0:=q) (l:=q) (h3 _ _) (zU (c:=c) C h7 C hr C) (h3 _ _) (Qn hz omT)<|h4 _ _ _)<|zc (zl (qt (q:=f') (qg C (hw<|I'<|q++[m]) C) (T' _ _ _)<|Li (λb=>R<|!b) h6)<|jO (qe (c:=c) C (kF U') C C (kD U' (by decide) v1) C) E8) E8) hl
def sh (U':FE c) (L:Lp c I IL G' I' j mi f cl) {x:D Tk} (hd:∃t r,x=t::r∧t.2≠cl) (h:Yq c U k I f (n+3) a (x++(EX,cl)::fl)<|(EX,cl)::fl):xz c U k IL G' I' j np mi (n+3) [a] (x++(EX,cl)::fl) fl:=
 F4 hd λt r e ht=>by rw[e]at h⊢;exact zfb U' L ht h
def si (U':FE c) (L:Lp c I IL G' I' j mi f cl) {T:D ι→D Tk} {tx:ι→D Tk} (h0:T []=[]) (Y:∀a,T [a]=tx a) (T':∀a b,T [a,b]=tx a++(EX,",")::tx b) (as:D ι) (hl:as.length≤2) (hd:∀a∈as,∃t r,tx a=t::r∧t.2≠cl)
  (it:∀a∈as,∀l,(l=(EX,cl)::fl∨∃b∈as,l=(EX,",")::(tx b++(EX,cl)::fl))→Yq c U k I f (n+3) a (tx a++l) l):xz c U k IL G' I' j np mi (n+3) as (T as++(EX,cl)::fl) fl:=
 iL hl (λH H=>h0.symm▸zfa U' L) (λa hd it=>(Y a).symm▸sh U' L (hd a<|.head _) (it a (.head _) _<|.inl C)) (λa b hd it=>rq (T' a b)<|rq (j3 ..) (F4 (hd a<|.head _) λt r e ht=>by have h:=it a (.head _) _<|.inr ⟨b,.tail _<|.head _,C⟩;rw[e]at h⊢;exact zb2 U' L ht h<|sh U' L (hd b<|.tail _<|.head _)<|it b (.tail _<|.head _) _<|.inl C)) hd it
end
mutual namespace A
def lpA (U':FE c):Lp c IF Nx Fe aR 2 20 41 "]":=⟨λH H H=>C,λH H H=>C,λH H=>C,λH H H=>C,C,C,jS U',C,λa m as ms h t=>⟨m,ms,C,h,t⟩⟩
def zb4 (U':FE c) (hdp:dp+k≤25) {as:D Nd} (h:TT c U k (n+3) as l l') (hl:as.length≤500) (v:E2 U p l):
  ∃ms p',Nx as ms∧E2 U p' l'∧EZ pg W (n+4) 51 [pr c U p dp,E6 "]"]=R (.d<|.tup ms,[pr c U p' dp,E6 "]"]):=
 Fv (h dp p W [] hdp v (JP hW hl omT)<|q0 (W1<|K' _)<|Ga hl omT) λms p' Y T' h3=>⟨ms,p',Y,T',zd (F:=GP) C C (zt C C<|jo h3<|zw<|jJ (w:=.l ms) C<|kZ<|by rw[Ij Y];exact Ga hl omT) C⟩
def zfc (U':FE c):Oe c U k (n+2) [] ((EX,"}")::l) l:=λdp p z8 q H v hN H=>E7 (qr hN) λM e H=>by
 subst e
 refine⟨[],p+1,C,v.step (by decide),?_⟩
 rw[Z8]
 exact qn<|Jv<|qe (c:=c) C (qh U') C C (jV U' (by decide) v) C
def zb5 (U':FE c) {a:Nd} {as:D Nd} {l1:D Tk} (g1:t.2≠"}") (g2:Gw c U k (n+2) a (t::l) l1) (g3:Oe c U k (n+2) as l1 l'):Oe c U k (n+2) (a::as) (t::l) l':=λdp p z8 q hdp v hN hz=>E7 (qr hN) λM e hM=>Fv (g2 dp p hdp v) λm p1 hm v1 hr=>Fv (g3 dp p1 M (q++[m]) hdp v1 hM<|Qe hz) λms p2 hms v2 hl=>by
 subst e
 exact⟨m::ms,p2,⟨m,ms,C,hm,hms⟩,v2,xB (I':=λq=>[E4 q])<|qf (Jw<|qe (c:=c) C (qh U') C C (kC U' v g1) C) (zc (qD (l0:=q) (l:=q) C (zU (c:=c) C (jS U') C hr C) C (Qn hz omT) C) E8) hl⟩
def WE (U':FE c) (hdp:dp+k≤25) {as:D Nd} (h:Oe c U k (n+3) as l l') (hl:as.length≤500) (v:E2 U p<|(EX,"{")::l):
  ∃ms p',Nx as ms∧E2 U p' l'∧EZ pg W (n+4) 56 [pr c U p dp]=R (.d<|.tup ms,[pr c U p' dp]):=
 Fv (h dp (p+1) W [] hdp (v.step<|by decide) (JP hW hl omT)<|q0 (W1<|K' _)<|Ga hl omT) λms p' Y T' h3=>⟨ms,p',Y,T',zd (F:=H7) C C (jO (qe (c:=c) C (kF U') C C (kD U' (by decide) v) C)<|zt C C<|jo h3<|zw<|jJ (w:=.l ms) C<|kZ<|by rw[Ij Y];exact Ga hl omT) C⟩
abbrev Jy (dj:Ld) (xs:D Sx) (mu:Sx):D Tk:=(if dj then [(BT,Mn)]else [])++Ox xs++(EX,":")::(if mu=[]then []else [(BT,mu)])
def zfd (U':FE c) {dj:Ld} {xs:D Sx} {mu:Sx} {a:Nd} (hx:xs∈R7) (hm:mu∈Oa) (ht:mu=[]→¬(t.1=BT∧wd t.2∈GT)) (h:Gw c U k (n+4) a (t::l) l'):N1 c U k (n+5) (.mk dj xs mu a) (Jy dj xs mu++t::l) l':=by
 intro dp p hdp v
 have hx':xs≠[]∧xs.length≤1000∧(∀x∈xs,qC (BT,x)=f')∧∃x r,xs=x::r∧x≠Mn:=by
  simp only[R7,w3,Z_,or_false]at hx
  rcases hx with C|rfl|rfl<;>exact⟨by decide,by decide,by decide,_,_,C,by decide⟩
 obtain⟨x1,x2,x3,x0,xr,hxx,hnd⟩:=hx'
 have v':E2 U p<|(if dj then [(BT,Mn)]else [])++(Ox xs++(EX,":")::((if mu=[]then []else [(BT,mu)])++t::l)):=by
  unfold Jy at v
  simpa using v
 obtain⟨s,hsp⟩:∃s:g',∀J,E0 pg (EZ pg W<|n+4) (.meth 0 11 .nil) (pr c U p dp::J)=R (.d<|.int s,pr c U p dp::J):=by
  refine Ib (K9 v.ne) λt0 l0 e=>?_
  rw[e]at v
  exact jR U' v
 have Y:∃p1,E2 U p1 (Ox xs++(EX,":")::((if mu=[]then []else [(BT,mu)])++t::l))∧∀J,E0 pg (EZ pg W<|n+4) (.meth 0 13 #[Da GF]) (pr c U p dp::J)=R (.d<|.bool dj,pr c U p1 dp::J):=by
  clear v;induction dj with
  |f'=>exact⟨p+1,E2.step (t:=(BT,Mn)) v' (by decide),λJ=>qe (c:=c) C (qh U') C C (jV U' (by decide:BT≠FG) v') C⟩
  |La=>
   have v2:E2 U p<|Ox xs++(EX,":")::((if mu=[]then []else [(BT,mu)])++t::l):=v'
   refine⟨p,v2,λJ=>?_⟩
   clear hx v';subst hxx
   exact qe (c:=c) C (qh U') C C (kC (t:=(BT,x0)) U' v2 hnd) C
 refine E7 Y λp1 v1 ht1=>?_
 refine E7 (xx (n:=n+1) (dp:=dp) (t:=(EX,":")) U' (by decide) x1 x2 x3 v1) λp2 v2 hr2=>?_
 have v3:=v2.step<|by decide
 have h4:∃p4,E2 U p4 (t::l)∧∀s1 s2 s3,Fc pg (EZ pg W<|n+4) W 1 #v[.asg 4<|Da [],.ite (.and (.cmp .eq (.meth 0 9 .nil)<|Da Fz)<|.cmp .isin (.meth 0 10 #[EY 0])<|.glb<|.tup<|GT.map .str) #v[.asg 4<|.meth 0 12 .nil] .skip] [pr c U (p2+1) dp,s1,s2,s3,Z]=R (.nx,[pr c U p4 dp,s1,s2,s3,E6 mu]):=by
  by_cases hmu:mu=[]
  ·clear v1 v v';subst hmu
   have v4:E2 U (p2+1)<|t::l:=v3
   refine⟨p2+1,v4,λs1 s2 s3=>?_⟩
   have hk:=λJ=>jB (n:=n+3) (dp:=dp) U' v4 (J:=J)
   have hw:=λJ=>qV (n:=n+3) (dp:=dp) U' v4 (a:=0) (J:=J)
   rw[FO]at hw
   have a2:E0 pg (EZ pg W<|n+4) (.and (.cmp .eq (.meth 0 9 .nil)<|Da BT)<|.cmp .isin (.meth 0 10 #[EY 0])<|.glb<|.tup<|GT.map .str) [pr c U (p2+1) dp,s1,s2,s3,E6 []]=R (.d<|.bool La,[pr c U (p2+1) dp,s1,s2,s3,E6 []]):=by
    by_cases q1:t.1=BT
    ·exact zi (ze C (hk _) C C<|nG q1)<|ze C (hw _) C C<|by(rewrite [xy];exact rq (Lk λq2=>ht C ⟨q1,q2⟩) C)
    ·exact zu<|ze C (hk _) C C<|KI q1
   exact zt C C<|zb a2 E8
  ·have v4:E2 U (p2+1)<|(BT,mu)::t::l:=by simpa[hmu]using v3
   refine⟨p2+1+1,v4.step (by decide:BT≠FG),λs1 s2 s3=>?_⟩
   have hw:=λJ=>qV (n:=n+3) (dp:=dp) U' v4 (a:=0) (J:=J)
   rw[FO]at hw
   have hmm:wd mu∈GT:=by
    have:∀m∈Oa,m≠[]→wd m∈GT:=by decide
    exact this mu hm hmu
   exact zt C C<|zc (zl (zi (ze C ((λJ=>jB (n:=n+3) (dp:=dp) U' v4 (J:=J)) _) C C<|nG C)<|ze C (hw _) C C<|by(rewrite [xy];exact rq (Ll hmm) C))<|zc (yk (kj U' v4) C:Fc pg (EZ pg W<|n+4) W 1 (.asg 4<|.meth 0 12 .nil) [pr c U (p2+1) dp,s1,s2,s3,E6 []]=R (.nx,[pr c U (p2+1+1) dp,s1,s2,s3,E6 mu])) E8) E8
 refine E7 h4 ?_;clear h4;intro p4 v4 h4
 refine Fv (h dp p4 hdp v4) λm p5 hm5 v5 hr5=>?_
 refine⟨.tup [.int s,.bool dj,.tup<|xs.map .str,.str mu,m],p5,⟨s,m,C,hm5⟩,v5,?_⟩
 have g4:∀{S1 S2 S3:S} {J ρ1 ρ2:Ev} {fl:Fw},Fc pg (EZ pg W<|n+4) W 1 #v[S1,S2] J=R (.nx,ρ1)→Fc pg (EZ pg W<|n+4) W 1 S3 ρ1=R (fl,ρ2)→Fc pg (EZ pg W<|n+4) W 1 (.seq S1<|.seq S2 S3) J=R (fl,ρ2):=by
  intro S1 S2 S3 J ρ1 ρ2 fl Y T'
  refine zh (o:=Fc pg (EZ pg W<|n+4) W 1 S1 J) Y λf ρa e1 Y=>bn e1 ?_
  clear e1;induction f with
  |nx=>
   refine zh (o:=Fc pg (EZ pg W<|n+4) W 1 S2 ρa) Y λf2 ρb e2 Y=>bn e2 ?_
   clear e2;induction f2 with
   |nx=>refine qK Y λH eq2=>?_;subst eq2;exact T'
   |_=>refine qK Y λeq1 eq2=>?_;subst eq2;(first|contradiction|cases eq1)
  |_=>refine qK Y λeq1 eq2=>?_;subst eq2;(first|contradiction|cases eq1)
 exact zd (F:=Ie) C C (zc (qA (zx (hsp _)<|zx (ht1 _)<|zx (zU (c:=c) C (xA U') C hr2 C) GS) C:Fc pg (EZ pg W<|n+4) W 1 (.asgT [1,2,3] #[.meth 0 11 .nil,.meth 0 13 #[Da GF],.meth 0 18 .nil]) [pr c U p dp,Z,Z,Z,Z]=R (.nx,[pr c U p2 dp,E9 s,GY dj,FI<|xs.map .str,Z]))<|zc (jA (qe (c:=c) C (kF U') C C (kD U' (by decide) v2) C):Fc pg (EZ pg W<|n+4) W 1 (.exp<|.meth 0 14 #[Da ":"]) [pr c U p2 dp,E9 s,GY dj,FI<|xs.map .str,Z]=R (.nx,[pr c U (p2+1) dp,E9 s,GY dj,FI<|xs.map .str,Z]))<|g4 (h4 (E9 s) (GY dj)<|FI<|xs.map .str)<|zw<|zr (za C<|za C<|za C<|za C<|za (zU (c:=c) C (jS U') C hr5 C) Fb) C) C
def G8:∀{as:D Dc} {ms:D MV},HK as ms→ms.length=as.length
 |[],ms,h=>by subst h;rfl
 |a::as,ms,h=>by obtain⟨m,ms',C,_,h⟩:=h;simp[G8 h]
def sj (U':FE c) (Y:t.2≠","):P6 c U k (n+2) [] (t::l)<|t::l:=λdp p z8 q H v hN H=>E7 (qr hN) λM e H=>by
 subst e
 refine⟨[],p,C,v,?_⟩
 rw[Z8]
 exact qn<|qe (c:=c) C (qh U') C C (kC U' v Y) C
def zfe (U':FE c) {d:Dc} {ds:D Dc} {l1:D Tk} (g1:N1 c U k (n+2) d l l1) (g2:P6 c U k (n+2) ds l1 l'):P6 c U k (n+2) (d::ds) ((EX,",")::l) l':=λdp p z8 q hdp v hN hz=>E7 (qr hN) λM e hM=>Fv (g1 dp (p+1) hdp<|v.step<|by decide) λm p1 hm v1 hr=>Fv (g2 dp p1 M (q++[m]) hdp v1 hM<|Qe hz) λms p2 hms v2 hl=>by
 subst e
 exact⟨m::ms,p2,⟨m,ms,C,hm,hms⟩,v2,xB (I':=λq=>[E4 q])<|qf (qe (c:=c) C (qh U') C C (jV U' (by decide) v) C) (zc (qD (l0:=q) (l:=q) C (zU (c:=c) C (WC U') C hr C) C (Qn hz omT) C) E8) hl⟩
def WF (U':FE c) (hdp:dp+k≤25) {ds:D Dc} (h:WB c U k (n+2) ds l l') (hl:ds.length≤500) (v:E2 U p l):
  ∃ms p',HK ds ms∧E2 U p' l'∧EZ pg W (n+3) 54 [pr c U p dp]=R (.d<|.tup ms,[pr c U p' dp]):=
 Gm h λd r l1 e Y T'=>Fv (Y dp p hdp v) λm p1 hm v1 hr=>by
  subst e
  refine Fv (T' dp p1 W [m] hdp v1 (cF hW hl)<|cG hl) λms p2 hms v2 hlo=>?_
  exact⟨m::ms,p2,⟨m,ms,C,hm,hms⟩,v2,zd (F:=H6) C C (zt (Jf (za (zU (c:=c) C (WC U') C hr C) Fb) C) C<|jo hlo<|zw<|jJ (w:=.l<|[m]++ms) C<|kZ<|q0 (J2<|W1<|G8 hms)<|Ga hl omT) C⟩
def Qg (U':FE c) (hdp:dp+k≤25) {a:Nd} (h:Gw c U k (n+2) a l l') (v:E2 U p<|(EX,"|")::l):
  ∃m p',IF a m∧E2 U p' l'∧EZ pg W (n+3) 55 [pr c U p dp]=R (.d m,[pr c U p' dp]):=by
 refine Fv (h dp (p+1) hdp<|v.step<|by decide) λm p1 hm v1 hr=>?_
 exact⟨m,p1,hm,v1,zd (F:=Ig) C C (zG (qe (c:=c) C (qh U') C C (jV U' (by decide) v) C)<|zU (c:=c) C (jS U') C hr C) C⟩
def zkl (U':FE c) (hdp:dp+k≤25) {x:Sx} {b a:Nd} {l1 l2:D Tk} {s0:g'} (hx:qC (BT,x)=f') (hb:Gw c U k (n+3) b l1<|(EX,"|")::l2) (ha:Gw c U k (n+2) a l2 l') (v:E2 U p<|(BT,x)::(EX,"=")::l1):
  ∃m p',IF (.lett x b a) m∧E2 U p' l'∧EZ pg W (n+4) 57 [pr c U p dp,E9 s0]=R (.d m,[pr c U p' dp,E9 s0]):=by
 have v1:=v.step (by decide:BT≠FG)
 refine Fv (hb dp (p+1+1) hdp<|v1.step<|by decide) λmb p1 hmb v3 hrb=>?_
 refine Fv (Qg (n:=n) U' hdp ha v3) λma p2 hma v4 hra=>?_
 refine Fg (jR (n:=n+2) (dp:=dp) U' v) λs hsp=>?_
 let e1:MV:=.tup [.int s,.str x]
 refine⟨.tup [.str NU,.int s0,.str x,mb,ma],p2,⟨s0,mb,ma,C,hmb,hma⟩,v4,?_⟩
 exact zd (F:=ID) C C (zt C C<|jo (zri (k:=1999999) (C:E0 pg (EZ pg W<|n+3) (.lit<|.bool f') [pr c U p dp,E9 s0,E4 [],Z,Z,Z]=R (.d<|.bool f',[pr c U p dp,E9 s0,E4 [],Z,Z,Z]))<|zc (qD (l0:=[]) (l:=[]) C (zr (za (hsp _)<|za (zU (c:=c) C (vD U') C (jQ U' v hx) C) Fb) C) C (by simp) C:Fc pg (EZ pg W<|n+3) W 2 (.app 2<|.tupD #[.meth 0 11 .nil,.meth 0 16 .nil]) [pr c U p dp,E9 s0,E4 [],Z,Z,Z]=R (.nx,[pr c U (p+1) dp,E9 s0,E4 [e1],Z,Z,Z]))<|zc (jA (qe (c:=c) C (kF U') C C (kD U' (by decide) v1) C):Fc pg (EZ pg W<|n+3) W 2 (.exp<|.meth 0 14 #[Da "="]) [pr c U (p+1) dp,E9 s0,E4 [e1],Z,Z,Z]=R (.nx,[pr c U (p+1+1) dp,E9 s0,E4 [e1],Z,Z,Z]))<|zc (qD (l0:=[e1]) (l:=[e1]) C (zU (c:=c) C (jS U') C hrb C) C (by simp) C:Fc pg (EZ pg W<|n+3) W 2 (.app 2<|.meth 0 20 .nil) [pr c U (p+1+1) dp,E9 s0,E4 [e1],Z,Z,Z]=R (.nx,[pr c U p1 dp,E9 s0,E4 [e1,mb],Z,Z,Z]))<|ztb (s2:=.skip) (zl (Jw<|qe (c:=c) C (qh U') C C (kC U' v3<|by decide) C) C:Fc pg (EZ pg W<|n+3) W 2 (.ite (.not<|.meth 0 13 #[Da ","]) #v[.brk] .skip) [pr c U p1 dp,E9 s0,E4 [e1,mb],Z,Z,Z]=R (.br,[pr c U p1 dp,E9 s0,E4 [e1,mb],Z,Z,Z])))<|zc (zk (zU (c:=c) C (Qd U') C hra C) C C:Fc pg (EZ pg W<|n+3) W 2 (.asg 3<|.meth 0 34 .nil) [pr c U p1 dp,E9 s0,E4 [e1,mb],Z,Z,Z]=R (.nx,[pr c U p2 dp,E9 s0,E4 [e1,mb],FR ma,Z,Z]))<|jo (qf (k:=1999999) (vE (l:=[e1,mb]) (o:=.nil) (by simp) C:E0 pg (EZ pg W<|n+3) (.cmp .gt (.b1 .len FD)<|EY 0) [pr c U p2 dp,E9 s0,E4 [e1,mb],FR ma,Z,Z]=R (.d<|.bool f',[pr c U p2 dp,E9 s0,E4 [e1,mb],FR ma,Z,Z])) (zc (qA (zx (jL (q:=[e1]) C (by simp) C)<|zx (jL (q:=[]) C (by simp) C) GS) C:Fc pg (EZ pg W<|n+3) W 2 (.asgT [4,5] #[.pop 2,.pop 2]) [pr c U p2 dp,E9 s0,E4 [e1,mb],FR ma,Z,Z]=R (.nx,[pr c U p2 dp,E9 s0,E4 [],FR ma,FR mb,FR e1]))<|zc (zk (zr (za C<|za C<|za C<|za C<|za C Fb) C) C C:Fc pg (EZ pg W<|n+3) W 2 (.asg 3<|.tupD #[Da HE,.ite (.cmp .eq (.b1 .len FD)<|EY 0) Fe<|.idx G_<|EY 0,.idx G_<|EY 1,Iq,GU]) [pr c U p2 dp,E9 s0,E4 [],FR ma,FR mb,FR e1]=R (.nx,[pr c U p2 dp,E9 s0,E4 [],FI [.str NU,.int s0,.str x,mb,ma],FR mb,FR e1])) E8)<|qn (vE (l:=[]) (o:=.nil) (by simp) C:E0 pg (EZ pg W<|n+3) (.cmp .gt (.b1 .len FD)<|EY 0) [pr c U p2 dp,E9 s0,E4 [],FI [.str NU,.int s0,.str x,mb,ma],FR mb,FR e1]=R (.d<|.bool La,[pr c U p2 dp,E9 s0,E4 [],FI [.str NU,.int s0,.str x,mb,ma],FR mb,FR e1])))<|zw C) C
def vF {t:Tk} {l:D Tk} (h:t.1≠BT∨wd t.2∉Gq):Pw (t::l)=La:=by
 unfold Pw
 refine rq FO ?_
 rcases h with h|h
 ·refine rq (Lk h) ?_;rfl
 ·refine rq (Lk h) ?_;simp
def qW (U':FE c) (v:E2 U p<|t::l):∃s:g',Fc pg (EZ pg W n) W 1 (.unp [1,2,3]<|.idx (.fld 2 0 0)<|.fld 2 0 1) [pr c U p dp,Z,Z,Z,Z,Z]=R (.nx,[pr c U p dp,E6 t.1,E6 t.2,E9 s,Z,Z]):=by
 refine Fg v.at0 λs h=>?_
 exact⟨s,kW (wS U' v.z (Zp U') C iK h) C⟩
def Qh (U':FE c) (v:E2 U p<|t::l) {J:Ev}:E0 pg (EZ pg W<|n+1) (.meth 0 15 #[EY 0]) (pr c U p dp::J)=R (.d<|.bool<|qC t,pr c U p dp::J):=by
 have h:=wu (n:=n) (dp:=dp) U' v 0
 rw[FO]at h
 exact qe (c:=c) C (wv U') C C h C
def sk (x:Sx):jE .isin (.str x) (.tup<|IN.map .str)=R (decide (x∈IN)):=qJ IN
def zff (U':FE c) {q:Q} (hq:q<20) (v:E2 U p<|(GZ,zW q)::l):∃m p',IF (.num q) m∧E2 U p' l∧EZ pg W (n+8) 52 [pr c U p dp]=R (.d m,[pr c U p' dp]):=by
 refine Fg (qW (n:=n+7) (dp:=dp) U' v) λs h0=>?_
 exact⟨.tup [.str au,.int s,.int q],p+1,⟨s,C⟩,v.step (by decide:GZ≠FG),zd (F:=Ft) C C (zc h0<|zG C<|zr (za C<|za C<|za (zU (c:=c) C (WD U') C (xq U' (NC q hq) v) C) Fb) C) C⟩
def zb7 (U':FE c) {x:Sx} (hx:qC (BT,x)=f') (v:E2 U p<|(BT,x)::l):∃m p',IF (.name x) m∧E2 U p' l∧EZ pg W (n+8) 52 [pr c U p dp]=R (.d m,[pr c U p' dp]):=by
 refine Fg (qW (n:=n+7) (dp:=dp) U' v) λs h0=>?_
 have Y:=λJ=>Qh (n:=n+6) (dp:=dp) U' v (J:=J)
 rw[hx]at Y
 exact⟨.tup [.str OW,.int s,.str x],p+1,⟨s,C⟩,v.step (by decide:BT≠FG),zd (F:=Ft) C C (zc h0<|zb C<|zG (Y _)<|zr (za C<|za C<|za (kj U' v) Fb) C) C⟩
def zfg (U':FE c) {x:Sx} (hx:x∈IN) (v:E2 U p<|(BT,x)::l):∃m p',IF (.con x) m∧E2 U p' l∧EZ pg W (n+8) 52 [pr c U p dp]=R (.d m,[pr c U p' dp]):=by
 refine Fg (qW (n:=n+7) (dp:=dp) U' v) λs h0=>?_
 have Y:=λJ=>Qh (n:=n+6) (dp:=dp) U' v (J:=J)
 have:∀x∈IN,qC (BT,x)=La:=by decide
 rw[this x hx]at Y
 exact⟨.tup [.str x,.int s],p+1,⟨s,C⟩,v.step (by decide:BT≠FG),zd (F:=Ft) C C (zc h0<|zb C<|zb (Y _)<|zG ((λJ s1 s2=>qt C C (by have:=sk x;rw[Ll hx]at this;exact this):∀J s1 s2,E0 pg (EZ pg W<|n+7) (.cmp .isin FD<|.tupD #[Da Ho,Da Hq,Da Hr]) (s1::s2::E6 x::J)=R (.d<|.bool f',s1::s2::E6 x::J)) _ _ _)<|zr (za (kj U' v)<|za C Fb) C) C⟩
structure sm (t:Tk):Prop where
 nn:t.1≠GZ
 nm:qC t=La
 nc:t.2∉IN
nonrec abbrev P7 (c:Q) (U:D MV) (p:Q) (dp:g') (t:Tk) (s:g') (a b:Lc Th):Ev:=[pr c U p dp,E6 t.1,E6 t.2,E9 s,a,b]
def Jz (U':FE c) (h:sm t) (v:E2 U p<|t::l) {s:g'} {X1:S} {fl:Fw} {ρ':Ev}
  (hX:Fc pg (EZ pg W<|n+1) W 1 X1 (P7 c U p dp t s Z Z)=R (fl,ρ')) {A1 A2 A3:S}:
  Fc pg (EZ pg W<|n+1) W 1 (.seq (.ite (.cmp .eq Fe<|Da HF) A1 .skip)<|.seq (.ite (.meth 0 15 #[EY 0]) A2 .skip)<|.seq (.ite (.cmp .isin FD<|.tupD #[Da Ho,Da Hq,Da Hr]) A3 .skip) X1) (P7 c U p dp t s Z Z)=R (fl,ρ'):=by
 have Y:=Qh (n:=n) (dp:=dp) U' v (J:=[E6 t.1,E6 t.2,E9 s,Z,Z])
 rw[h.nm]at Y
 exact zb (qt C C<|KI h.nn)<|zb Y<|zb (qt C C (by have:=sk t.2;rw[Lk h.nc]at this;exact this)) hX
def Yr (U':FE c) (hdp:dp+k≤25) {q:Sx} {ds:D Dc} {a:Nd} {l1:D Tk} (hq:q∈Gq) (hQ:Pw ((BT,q)::l)=f') (hd:WB c U k (n+6) ds l<|(EX,"|")::l1) (hl:ds.length≤500) (ha:Gw c U k (n+6) a l1 l') (v:E2 U p<|(BT,q)::l):
  ∃m p',IF (.quant q ds a) m∧E2 U p' l'∧EZ pg W (n+8) 52 [pr c U p dp]=R (.d m,[pr c U p' dp]):=by
 refine Fg (qW (n:=n+7) (dp:=dp) U' v) λs h0=>?_
 have hq':∀q∈Gq,qC (BT,q)=La∧q∉IN:=by decide
 refine Fv (WF (n:=n+4) (dp:=dp) U' hdp hd hl<|v.step (by decide:BT≠FG)) λms p1 hms v2 hr1=>?_
 refine Fv (Qg (n:=n+4) U' hdp ha v2) λma p2 hma v3 hr2=>?_
 have hq1:=nD (n:=n+4) (dp:=dp) U' v (J:=[E6 BT,E6 q,E9 s,Z,Z])
 rw[hQ]at hq1
 refine⟨.tup [.str Pr,.int s,.str q,.tup ms,ma],p2,⟨s,ms,ma,C,hms,hma⟩,v3,?_⟩
 exact zd (F:=Ft) C C (zc h0<|Jz U' (⟨(by decide:BT≠GZ),(hq' q hq).1,(hq' q hq).2⟩:sm (BT,q)) v<|zq<|zl hq1<|zc (zk (kj U' v) C C:Fc pg (EZ pg W<|n+7) W 1 (.asg 4<|.meth 0 12 .nil) (P7 c U p dp (BT,q) s Z Z)=R (.nx,P7 c U (p+1) dp (BT,q) s (E6 q) Z))<|zw<|zr (za C<|za C<|za C<|za (zU (c:=c) C (Jx U') C hr1 C)<|za (zU (c:=c) C (Qd U') C hr2 C) Fb) C) C
def i6 (U':FE c) (h:Pw (t::l)=La) (v:E2 U p<|t::l) {s:g'} {X1 A1:S} {fl:Fw} {ρ':Ev} (hX:Fc pg (EZ pg W<|n+3) W 1 X1 (P7 c U p dp t s Z Z)=R (fl,ρ')):
  Fc pg (EZ pg W<|n+3) W 1 (.seq (.ite (.meth 0 21 .nil) A1 .skip) X1) (P7 c U p dp t s Z Z)=R (fl,ρ'):=by
 have hq1:=nD (n:=n) (dp:=dp) U' v (J:=[E6 t.1,E6 t.2,E9 s,Z,Z])
 rw[h]at hq1
 exact zb hq1 hX
def vG (U':FE c) (v:E2 U p<|t::l) {x:Sx} (h:t.2≠x) {s:g'} {X1 A1:S} {fl:Fw} {ρ':Ev} (hX:Fc pg (EZ pg W<|n+2) W 1 X1 (P7 c U p dp t s Z Z)=R (fl,ρ')):
  Fc pg (EZ pg W<|n+2) W 1 (.seq (.ite (.meth 0 13 #[Da x]) A1 .skip) X1) (P7 c U p dp t s Z Z)=R (fl,ρ'):=
 zb (qe (c:=c) C (qh U') C C (kC U' v h) C) hX
def vH (U':FE c) {kk x:Sx} (hk:kk≠FG) (v:E2 U p<|(kk,x)::l) {s:g'} {X1 A1:S} {r:Th} {ρ':Ev} (hX:Fc pg (EZ pg W<|n+2) W 1 A1 (P7 c U (p+1) dp (kk,x) s Z Z)=R (.rt r,ρ')):
  Fc pg (EZ pg W<|n+2) W 1 (.seq (.ite (.meth 0 13 #[Da x]) A1 .skip) X1) (P7 c U p dp (kk,x) s Z Z)=R (.rt r,ρ'):=
 zq (zl (qe (c:=c) C (qh U') C C (jV U' hk v) C) hX)
def zfi (U':FE c) (hdp:dp+k≤25) {x:Sx} {b a:Nd} {l1 l2:D Tk} (hx:qC (BT,x)=f') (hb:Gw c U k (n+6) b l1<|(EX,"|")::l2) (ha:Gw c U k (n+5) a l2 l') (v:E2 U p<|(BT,NU)::(BT,x)::(EX,"=")::l1):
  ∃m p',IF (.lett x b a) m∧E2 U p' l'∧EZ pg W (n+8) 52 [pr c U p dp]=R (.d m,[pr c U p' dp]):=by
 refine Fg (qW (n:=n+7) (dp:=dp) U' v) λs h0=>?_
 refine Fv (zkl (n:=n+3) (s0:=s) U' hdp hx hb ha<|v.step (by decide:BT≠FG)) λm p1 hm v2 hr=>?_
 refine⟨m,p1,hm,v2,?_⟩
 exact zd (F:=Ft) C C (zc h0<|Jz U' ⟨by decide,by decide,by decide⟩ v<|i6 U' (vF<|.inr<|by decide) v<|vH U' (by decide:BT≠FG) v<|zw<|qe (c:=c) C (zkk U') C C hr C) C
def zfj (U':FE c) (hdp:dp+k≤25) {d:Nd} (hd:Gw c U k (n+7) d l<|(EX,")")::l') (v:E2 U p<|(EX,"(")::l):
  ∃m p',IF d m∧E2 U p' l'∧EZ pg W (n+8) 52 [pr c U p dp]=R (.d m,[pr c U p' dp]):=by
 refine Fg (qW (n:=n+7) (dp:=dp) U' v) λs h0=>?_
 refine Fv (hd dp (p+1) hdp<|v.step<|by decide) λm p1 hm v2 hr=>?_
 refine⟨m,p1+1,hm,v2.step (by decide),?_⟩
 exact zd (F:=Ft) C C (zc h0<|Jz U' ⟨by decide,by decide,by decide⟩ v<|i6 U' (vF<|.inl<|by decide) v<|vG U' v (by decide)<|vH U' (by decide:EX≠FG) v<|zc (zk (zU (c:=c) C (jS U') C hr C) C C:Fc pg (EZ pg W<|n+7) W 1 (.asg 5<|.meth 0 20 .nil) (P7 c U (p+1) dp (EX,"(") s Z Z)=R (.nx,P7 c U p1 dp (EX,"(") s Z<|FR m))<|zc (jA (qe (c:=c) C (kF U') C C (kD U' (by decide) v2) C):Fc pg (EZ pg W<|n+7) W 1 (.exp<|.meth 0 14 #[Da ")"]) (P7 c U p1 dp (EX,"(") s Z<|FR m)=R (.nx,P7 c U (p1+1) dp (EX,"(") s Z<|FR m))<|zw C) C
def Ys (U':FE c) (hdp:dp+k≤25) {as:D Nd} (hn:je l 0=La) (hd:Oe c U k (n+5) as l l') (hl:as.length≤500) (v:E2 U p<|(EX,"{")::l):
  ∃m p',IF (.block as) m∧E2 U p' l'∧EZ pg W (n+8) 52 [pr c U p dp]=R (.d m,[pr c U p' dp]):=by
 refine Fg (qW (n:=n+7) (dp:=dp) U' v) λs h0=>?_
 refine Fv (WE (n:=n+2) (dp:=dp) U' hdp hd hl v) λms p1 hms v2 hr=>?_
 have hb:=xu (n:=n+4) (dp:=dp) U' (v.step<|by decide) 0
 rw[hn]at hb
 have hbr:EZ pg W (n+7) 58 [pr c U (p+1) dp,E9 s]=R (.d<|.tup [.str Nq,.int s,.tup ms],[pr c U p1 dp,E9 s]):=by
  have b1:Fc pg (EZ pg W<|n+6) W 2 (.augF 2 0 1 .sub<|EY 1) [pr c U (p+1) dp,E9 s,Z,Z]=R (.nx,[pr c U p dp,E9 s,Z,Z]):=by
   have:Fc pg (EZ pg W<|n+6) W 2 (.augF 2 0 1 .sub<|EY 1) [pr c U (p+1) dp,E9 s,Z,Z]=R (.nx,[R<|.o c [.l U,.d<|.int<|((p+1:Q):g') -1,.d<|.int dp],E9 s,Z,Z]):=by clear hdp hn hd hl;rcases U' with C|rfl<;>rfl
   (refine rq this ?_;exact rq (om90:((p+1:Q):g') -1=(p:g')) C)
  exact zd (F:=GN) C C (zq<|zl (Jw<|qe (c:=c) C (xw U') C C hb C)<|zc b1<|zw<|zr (za C<|za C<|za (zU (c:=c) C (zb1 U') C hr C) Fb) C) C
 refine⟨.tup [.str Nq,.int s,.tup ms],p1,⟨s,ms,C,hms⟩,v2,?_⟩
 exact zd (F:=Ft) C C (zc h0<|Jz U' ⟨by decide,by decide,by decide⟩ v<|i6 U' (vF<|.inl<|by decide) v<|vG U' v (by decide)<|vG U' v (by decide)<|vH U' (by decide:EX≠FG) v<|zw<|qe (c:=c) C (Zq U') C C hbr C) C
def Yt (U':FE c) (hdp:dp+k≤25) {ds:D Dc} {a:Nd} {l1:D Tk} (hn:je l 0=f') (hd:WB c U k (n+5) ds l<|(EX,"|")::l1) (hl:ds.length≤500) (ha:Gw c U k (n+5) a l1<|(EX,"}")::l') (v:E2 U p<|(EX,"{")::l):
  ∃m p',IF (.compr ds a) m∧E2 U p' l'∧EZ pg W (n+8) 52 [pr c U p dp]=R (.d m,[pr c U p' dp]):=by
 refine Fg (qW (n:=n+7) (dp:=dp) U' v) λs h0=>?_
 have v1:=v.step<|by decide
 refine Fv (WF (n:=n+3) (dp:=dp) U' hdp hd hl v1) λms p1 hms v2 hr1=>?_
 refine Fv (Qg (n:=n+3) U' hdp ha v2) λma p2 hma v3 hr2=>?_
 have hb:=xu (n:=n+4) (dp:=dp) U' v1 0
 rw[hn]at hb
 have hw:=λJ=>qV (n:=n+5) (dp:=dp) U' v2 (a:=0) (J:=J)
 rw[FO]at hw
 have hbr:EZ pg W (n+7) 58 [pr c U (p+1) dp,E9 s]=R (.d<|.tup [.str Ou,.int s,.tup ms,ma],[pr c U (p2+1) dp,E9 s]):=by
  exact zd (F:=GN) C C (zb (Jv<|qe (c:=c) C (xw U') C C hb C)<|zc (qA (zx (zU (c:=c) C (Jx U') C hr1 C)<|zx C GS) C:Fc pg (EZ pg W<|n+6) W 2 (.asgT [2,3] #[.meth 0 33 .nil,.tupD #[Da Iw,Fe,.tupD .nil]]) [pr c U (p+1) dp,E9 s,Z,Z]=R (.nx,[pr c U p1 dp,E9 s,FI ms,FI [.str Nq,.int s,.tup []]]))<|zc (zl (ze C (hw _) C C C)<|zc (zk (zU (c:=c) C (Qd U') C hr2 C) C C:Fc pg (EZ pg W<|n+6) W 2 (.asg 3<|.meth 0 34 .nil) [pr c U p1 dp,E9 s,FI ms,FI [.str Nq,.int s,.tup []]]=R (.nx,[pr c U p2 dp,E9 s,FI ms,FR ma])) E8)<|zc (jA (qe (c:=c) C (kF U') C C (kD U' (by decide) v3) C):Fc pg (EZ pg W<|n+6) W 2 (.exp<|.meth 0 14 #[Da "}"]) [pr c U p2 dp,E9 s,FI ms,FR ma]=R (.nx,[pr c U (p2+1) dp,E9 s,FI ms,FR ma]))<|zw C) C
 refine⟨.tup [.str Ou,.int s,.tup ms,ma],p2+1,⟨s,ms,ma,C,hms,hma⟩,v3.step (by decide),?_⟩
 exact zd (F:=Ft) C C (zc h0<|Jz U' ⟨by decide,by decide,by decide⟩ v<|i6 U' (vF<|.inl<|by decide) v<|vG U' v (by decide)<|vG U' v (by decide)<|vH U' (by decide:EX≠FG) v<|zw<|qe (c:=c) C (Zq U') C C hbr C) C
end
end
mutual namespace A
@[simp] def Mp:toks []=[]:=C
@[simp] def FU (a b:D Pc):toks (a++b)=toks a++toks b:=D.filterMap_append ..
@[simp] def Ni (c:Q) (ps:D Pc):toks (.bl c::ps)=toks ps:=C
@[simp] def Mx (s:Sx) (ps:D Pc):toks (.nm s::ps)=(BT,s)::toks ps:=C
@[simp] def ST (s:Sx) (ps:D Pc):toks (.nu s::ps)=(GZ,s)::toks ps:=C
@[simp] def HU (s:Sx) (ps:D Pc):toks (.sg s::ps)=(EX,s)::toks ps:=C
nonrec abbrev tk (d:Nd):D Tk:=toks<|Ge d
nonrec abbrev ND (d:Nd) (k:g'):D Tk:=toks<|zZ (lv d) k<|Ge d
nonrec abbrev jM (d:Nd):D Tk:=toks<|qu<|Ge d
def WG {d:Nd} {k:g'} (h:k≤lv d):ND d k=tk d:=by unfold ND zZ;exact rq (Lh h) C
def WH {d:Nd} {k:g'} (h:¬k≤lv d):ND d k=(EX,"(")::(tk d++[(EX,")")]):=by
 unfold ND zZ;refine rq (Lj h) ?_;simp[wy]
abbrev OF:D Tk:=MN.map (BT, ·)++IN.map (BT, ·)++Gq.map (BT, ·)++Gk.map (BT, ·)++[(BT,NU),(EX,"~"),(EX,"^"),(EX,"*"),(EX,"#"),(EX,"-"),(EX,"!"),(EX,"("),(EX,"{")]++(j5 20).map (λ(k:Q)=>(GZ,zW (k:g')))
abbrev TU:D Tk:=OF++[(BT,Mn),(BT,"x"),(BT,"y"),(BT,"z")]
structure FT (ps:D Pc):Prop where
 h:∃p0 pr f,ps=p0::pr∧OX p0=R f∧f∈OF∧((f.2∈GT∨f.2="!")→∃g r,toks pr=g::r∧g∈TU)
def FT.tok {ps:D Pc} (h:FT ps):∃f r,toks ps=f::r∧f∈OF∧((f.2∈GT∨f.2="!")→∃g r',r=g::r'∧g∈TU):=by
 refine HX h.h λp0 pr f e3 Y T' h3=>?_
 clear h;subst e3
 exact⟨f,toks pr,by simp[toks,Y],T',h3⟩
def FT.app {a b:D Pc} (h:FT a):FT<|a++b:=by
 refine HX h.h λp0 pr f e3 Y T' h3=>?_
 clear h;subst e3
 refine⟨p0,pr++b,f,C,Y,T',λq=>?_⟩
 refine F4 (h3 q) λg r e hg=>?_
 exact⟨g,r++toks b,by simp[e],hg⟩
def FT.par (a:D Pc):FT<|wy a:=⟨.sg "(",_,(EX,"("),by simp[wy];rfl,C,by decide,λh=>Lg h<|by decide⟩
def FT.put {a:D Pc} (h:FT a) (l k:g'):FT<|zZ l k a:=by
 unfold zZ;split
 ·exact h
 ·exact FT.par a
set_option tactic.hygienic true in
def FT.dash {a:D Pc} (h:FT a):FT (qu a)∧∃f r,toks (qu a)=f::r∧f∈OF∧f≠(EX,"-")∧((f.2∈GT∨f.2="!")→∃g r',r=g::r'∧g∈TU):=by
 unfold qu
 split
 ·refine⟨FT.par a,(EX,"("),toks a++[(EX,")")],by simp[wy],by decide,by decide,λh=>Lg h<|by decide⟩
 ·rename_i hn
  refine⟨h,?_⟩
  refine HX h.h λp0 pr f e3 Y T' h3=>?_
  clear h;subst e3
  refine⟨f,toks pr,by simp[toks,Y],T',?_,h3⟩
  rintro C
  cases p0 with
  |bl c=>exact nO Y
  |nm s=>refine qK Y λeq1 eq2=>?_;subst eq2;cases eq1
  |nu s=>refine qK Y λeq1 eq2=>?_;subst eq2;cases eq1
  |sg s=>
   have:s="-":=by simpa[TP]using Y
   clear Y;subst this
   exact hn _ C
def Oz:∀x∈MN,(BT,x)∈OF∧¬(x∈GT∨x="!"):=by decide
def Px:∀x∈IN,(BT,x)∈OF∧¬(x∈GT∨x="!"):=by decide
def Sh:∀x∈Gq,(BT,x)∈OF:=by decide
def SU:∀x∈Gk,(BT,x)∈OF:=by decide
def P9:∀x∈Nf,x∉Gk→(EX,x)∈OF:=by decide
def Py:∀k:Q,k<20→(GZ,zW (k:g'))∈OF∧¬(zW (k:g')∈GT∨zW (k:g')="!"):=by decide
def sn {f:Tk} (h:f∈OF):f∈TU:=V5 _ h
def wU (a:D Pc) (r:D<|D Pc):zo (a::r)=a++(r.map λb=>[.sg ",",sp]++b).flatten:=C
def sq (d:Dc) (w:PY d):∃g r,toks (Mm d)=g::r∧g∈TU:=by
 cases d with
 |mk dj xs mu a=>
  have hx:=w.1
  simp only[R7,w3,Z_,or_false]at hx
  simp only[PW,FU]
  clear w;cases dj
  ·rcases hx with C|rfl|rfl<;>exact⟨_,_,by simp[vr,F6];exact⟨C,C⟩,by decide⟩
  ·exact⟨_,_,by simp;exact⟨C,C⟩,by decide⟩
def Sv:∀(d:Nd),Wf d→FT (Ge d)
 | .name x,w=>⟨.nm x,[],(BT,x),by simp[FK],C,(Oz x w).1,λh=>Lg h (Oz x w).2⟩
 | .num k,w=>⟨.nu<|zW k,[],(GZ,zW k),by simp[FK],C,(Py k w).1,λh=>Lg h (Py k w).2⟩
 | .con x,w=>⟨.nm x,[],(BT,x),by simp[FK],C,(Px x w).1,λh=>Lg h (Px x w).2⟩
 | .un h a,w=>by
  refine Fv (((Sv a w.2).put (lv a)<|if h="-"then 10 else I_ h).tok) λg r e hg H=>?_
  by_cases hm:h∈Gk
  ·exact⟨.nm h,sp::zZ (lv a) (if h="-"then 10 else I_ h) (Ge a),(BT,h),by simp only[FK,Lh hm];rfl,C,SU h hm,λH=>⟨g,r,by rw[Ni];exact e,sn hg⟩⟩
  ·exact⟨.sg h,zZ (lv a) (if h="-"then 10 else I_ h)<|Ge a,(EX,h),by simp only[FK,Lj hm];rfl,C,P9 h w.1 hm,λH=>⟨g,r,e,sn hg⟩⟩
 | .bin s a b,w=>by simp only[FK,j3];exact((Sv a w.2.1).put _ _).app
 | .arrow l r a b,w=>by simp only[FK,j3];exact((Sv a w.2.2.1).put _ _).app
 | .box a as,w=>by simp only[FK,j3];exact((Sv a w.1).put _ _).app
 | .ite a b c,w=>by simp only[FK,j3];exact((Sv a w.1).put _ _).app
 | .quant q ds a,w=>by
  refine Ib (K5 w.2.2.2.1) λd ds' e2=>?_
  subst e2
  refine F4 (sq d w.2.1.1) λg r e hg=>?_
  exact⟨.nm q,sp::(zo (FM<|d::ds')++[sp,.sg "|",sp]++Ge a),(BT,q),by simp[FK],C,Sh q w.1,λH=>⟨g,r++toks (((FM ds').map λb=>[.sg ",",sp]++b).flatten++[sp,.sg "|",sp]++Ge a),by simp[HL,wU,e],hg⟩⟩
 | .lett x v a,w=>⟨.nm NU,_,(BT,NU),by simp only[FK,j3];rfl,C,by decide,λh=>Lg h<|by decide⟩
 | .block as,w=>by
  simp only[FK]
  cases FX as with
  |nil=>exact⟨.sg "{",_,(EX,"{"),C,C,by decide,λh=>Lg h<|by decide⟩
  |cons a r=>exact⟨.sg "{",_,(EX,"{"),C,C,by decide,λh=>Lg h<|by decide⟩
 | .compr ds a,w=>⟨.sg "{",_,(EX,"{"),by simp only[FK,j3];rfl,C,by decide,λh=>Lg h<|by decide⟩
structure OG (l:D Tk):Prop where
 ne:l≠[]
 f1:wd (zV l 0).2≠":"
 f2:wd (zV l 0).2=","→OZ (l.drop 1)=La
def ql {t:Tk} {l:D Tk} (Y:wd t.2≠":") (T':wd t.2≠","):OG<|t::l:=⟨by simp,by refine rq FO ?_;exact Y,λh=>by rw[FO]at h;exact Lg h T'⟩
def jy {t:Tk} {l:D Tk} (h:qC t=La):OZ (t::l)=La:=by
 induction l with
 |nil=>rfl
 |cons u r=>simp[OZ,h]
set_option tactic.hygienic true in
def zkm {t u:Tk} {l:D Tk} (h:OG<|u::l):OZ (t::u::l)=La:=by
 have Y:=h.f1
 have T':=h.f2
 rw[FO]at Y T'
 simp only[CK,Bn]at T'
 unfold OZ
 split
 ·split
  ·rename_i h3;exact T' h3
  ·exact rq (Lk Y) C
 ·rfl
def gZ:∀s∈HA,((toks<|N6 s).head?.map λt=>decide (wd t.2≠":")&&decide (wd t.2≠","))=R f':=by decide
def sr (s:Sx) (hs:s∈HA):∃t r,toks (N6 s)=t::r∧wd t.2≠":"∧wd t.2≠",":=by
 have h:=gZ s hs
 clear hs;induction e:toks (N6 s)with
 |nil=>rw[e]at h;exact nO h
 |cons t r=>
  rw[e]at h
  have h:=w8.mp<|z' h
  exact⟨t,r,C,Lm h.1,Lm h.2⟩
def JA (s:Sx):toks (kg s)=[]:=by unfold kg;split<;>rfl
def g0 {d:Nd} {k:g'} {fl:D Tk} (h:OZ (tk d++fl)=La):OZ (ND d k++fl)=La:=by
 by_cases hk:k≤lv d
 ·refine rq (WG hk) ?_;exact h
 ·refine rq (WH hk) ?_;exact jy<|by decide
def Pz:∀(d:Nd),Wf d→∀fl,OG fl→OZ (tk d++fl)=La
 | .name x,w,fl,hf=>by
  refine Ib (K5 hf.ne) λu l e2=>?_
  subst e2
  simp only[tk,FK,Mx,Mp];exact zkm hf
 | .num k,w,fl,hf=>by simp only[tk,FK,ST,Mp];exact jy<|by simp[qC]
 | .con x,w,fl,hf=>by
  simp only[tk,FK,Mx,Mp]
  have:∀x∈IN,qC (BT,x)=La:=by decide
  exact jy<|this x w
 | .un h a,w,fl,hf=>by
  by_cases hm:h∈Gk
  ·have:∀x∈Gk,qC (BT,x)=La:=by decide
   simp only[tk,FK,Lh hm,FU,Mx]
   exact jy<|this h hm
  ·simp only[tk,FK,Lj hm,FU,HU]
   exact jy<|by simp[qC]
 | .bin s a b,w,fl,hf=>by
  simp only[tk,FK,FU,JA,Z8,j3]
  refine Fv (sr s w.1) λt r e Y T'=>?_
  refine g0<|Pz a w.2.1 _ ?_
  simp only[e,J8,j6]
  exact ql Y T'
 | .arrow l r a b,w,fl,hf=>by
  simp only[tk,FK,FU,j3]
  refine g0<|Pz a w.2.2.1 _ ?_
  have hl:∀l∈GE,l=[]∨(wd l≠":"∧wd l≠","):=by decide
  rcases hl l w.1 with C|⟨Y,T'⟩
  ·simp only[if_true,Mp,J8,Ni,HU,j6]
   exact ql (by decide)<|by decide
  ·by_cases hn:l=[]
   ·subst hn;simp only[if_true,Mp,J8,Ni,HU,j6]
    exact ql (by decide)<|by decide
   ·simp only[Lj hn,Ni,Mx,j6]
    exact ql Y T'
 | .box a as,w,fl,hf=>by
  simp only[tk,FK,FU,j3,HU,j6]
  exact g0<|Pz a w.1 _<|ql (by decide)<|by decide
 | .ite a b c,w,fl,hf=>by
  simp only[tk,FK,FU,j3,HU,Ni,j6]
  exact g0<|Pz a w.1 _<|ql (by decide)<|by decide
 | .quant q ds a,w,fl,hf=>by
  simp only[tk,FK,FU,Mx,j6]
  have:∀x∈Gq,qC (BT,x)=La:=by decide
  exact jy<|this q w.1
 | .lett x v a,w,fl,hf=>by
  simp only[tk,FK,FU,Mx,j6]
  exact jy<|by decide
 | .block as,w,fl,hf=>by
  simp only[tk,FK]
  cases FX as with
  |nil=>exact jy<|by decide
  |cons a r=>exact jy<|by decide
 | .compr ds a,w,fl,hf=>by
  simp only[tk,FK,FU,HU,j6]
  exact jy<|by decide
def JB {l:D Tk} (Y:wd (zV l 0).2≠Mn) (h:OZ l=La):je l 0=La:=by
 unfold je;refine rq (Lj Y) ?_;exact h
def O0:∀f∈OF,wd f.2≠Mn:=by decide
abbrev i7 (s:Sx):Sx:=if s="in"then BT else EX
def ay:∀s∈HA,s="!in"∨(i7 s∈OE∧i7 s≠FG∧toks (N6 s)=[(i7 s,s)]∧wd s=s∧s∉GT∧s≠"!"∧s≠"!in"∧(s.length≤20∧s.take 6≠IQ∧s≠HB∧s≠"->")∧s≠[]∧s≠"["∧s≠HB):=by decide
def zfk {s:Sx} (hs:s∈HA):s="!in"∨(∃k,k∈OE∧k≠FG∧toks (N6 s)=[(k,s)]∧wd s=s∧s∉GT∧s≠"!"∧s≠"!in"∧zA s (Hd 2)=R (.int<|Ir s)∧(Wk.op s).ok∧s≠[]∧s≠"["∧s≠HB):=by
 refine(ay s hs).imp id λh=>?_
 have e:=qx (f:=λs=>if s="!in"then Z else zA s (Hd 2)) (g:=λs=>if s="!in"then Z else R (.int<|Ir s)) C hs
 have n:=h.2.2.2.2.2.2.1
 rw[Lj n,Lj n]at e
 exact⟨i7 s,h.1,h.2.1,h.2.2.1,h.2.2.2.1,h.2.2.2.2.1,h.2.2.2.2.2.1,n,e,h.2.2.2.2.2.2.2⟩
end
mutual section
variable {n c p:Q} {U:D MV} {dp:g'} {t:Tk} {l:D Tk} {ps:D Nd} {ws:D Wt} {F:Ev→Prop}
def su (U':FE c) {s:Sx} {l2:D Tk} {wq base base1:D Wt} {ps0 ps1:D Nd} (hs:s∈HA)
  (hws:ws=wq++base) (hwd:∀w∈wq,Ir s<w.1) (hcs:GL wq ps=R ps0) (hcb:Oy (Ir s) ps0 base ps1 base1) (hlen:ps1.length≤ps.length) (hlen2:base1.length≤ws.length)
  (z_:AS (n+3) c U dp F ps1 ((Ir s,.op s)::base1) l2):BS (n+3) c U dp F ps ws<|toks (N6 s)++l2:=by
 rcases zfk hs with C|⟨k,hk,hke,e,Y,T',h3,h4,h5,h6,h7,h8,h9⟩
 ·exact WA (lf:=[]) (sg:="!in") (rt:=[]) (lvl:=6) (k:=.op "!in") (l1:=l2) (l2:=l2) U' (by rfl) (by rfl) (by decide) C C C ⟨by decide,by decide,by decide,by decide⟩ (.inl ⟨C,C⟩)
   (λp v=>⟨p+2,(v.step<|by decide).step (by decide),zkb U' v⟩) (.inr ⟨by decide,C,C⟩) hws hwd hcs hcb (by simp[toks,N6,TP];exact(@Uh _)) hlen hlen2 z_
 ·refine rq e ?_
  refine WA (lf:=[]) (sg:=s) (rt:=[]) (lvl:=Ir s) (k:=.op s) (l1:=l2) (l2:=l2) U' ?_ ?_ h7 C C C h6 (.inr ⟨h4,h5⟩)
   (λp v=>⟨p+1,v.step hke,?_⟩) (.inr ⟨h6.2.2.2,C,C⟩) hws hwd hcs hcb (by simp) hlen hlen2 z_
  ·simp only[D7,FO];(refine rq Y ?_;refine rq (Lk h8) ?_;rw[Bq])
  ·simp only[D7,FO];(refine rq Y ?_;refine rq (Lk h9) ?_;rw[Bq])
  ·have:=rX (n:=n) (dp:=dp) U' (t:=(k,s)) (l:=l2) (p:=p) v hk (by refine rq Y ?_;exact T') (by refine rq Y ?_;exact h3)<|by(refine rq Y ?_;refine rq h5 ?_);rfl
   rw[Y]at this
   exact this
def kG {w:Sx} (h:w∈GE) (hn:w≠[]):w=FN∨w=Fy∨w=Fx:=by
 simp only[GE,w3,Z_,or_false]at h
 exact h.resolve_left hn
def zkn (U':FE c) {lf rt:Sx} {l2:D Tk} {wq base base1:D Wt} {ps0 ps1:D Nd} (hlf:lf∈GE) (hrt:rt∈GE) (ht:rt=[]→¬(t.1=BT∧Mine.Internal.L.wd t.2∈GT))
  (hws:ws=wq++base) (hwd:∀w∈wq,(12:g')<w.1) (hcs:GL wq ps=R ps0) (hcb:Oy 12 ps0 base ps1 base1) (hlen:ps1.length≤ps.length) (hlen2:base1.length≤ws.length)
  (z_:AS (n+3) c U dp F ps1 ((12,.arr lf rt)::base1)<|t::l):BS (n+3) c U dp F ps ws<|toks (if lf=[]then []else [sp,.nm lf])++(EX,"->")::(toks (zF rt)++t::l):=by
 have hr:(toks (zF rt)++t::l=t::l∧rt=[])∨(toks (zF rt)++t::l=(BT,rt)::t::l∧rt≠[]):=by
  by_cases h:rt=[]
  ·exact .inl ⟨by simp[zF,h],h⟩
  ·exact .inr ⟨by simp[zF,h],h⟩
 have hm:∀p,E2 U p (toks (zF rt)++t::l)→∃p1,E2 U p1 (t::l)∧EZ pg W (n+3) 48 [pr c U p dp]=R (.d<|.str rt,[pr c U p1 dp]):=by
  intro p v
  rcases hr with⟨e,h⟩|⟨e,h⟩
  ·rw[e]at v;subst h;exact⟨p,v,zbv U' v<|ht C⟩
  ·rw[e]at v;exact⟨p+1,v.step (by decide:BT≠FG),zbw U' (kG hrt h) v⟩
 have hrl:(t::l).length≤(toks (zF rt)++t::l).length:=by simp
 by_cases h:lf=[]
 ·subst h
  refine WA (lf:=[]) (sg:="->") (rt:=rt) (lvl:=12) (k:=.arr [] rt) (l1:=toks (zF rt)++t::l) (l2:=t::l) U' (by rfl) (by rfl) (by decide) C C C trivial (.inr ⟨by decide,C⟩)
   (λp v=>⟨p+1,v.step (by decide),rX U' v (by decide) (by decide) (by decide) C⟩) (.inl ⟨C,hm⟩) hws hwd hcs hcb (by simp;exact(@Ui _ _)) hlen hlen2 z_
 ·refine rq (Lj h) ?_
  have h3:=kG hlf h
  refine WA (l:=(BT,lf)::(EX,"->")::(toks (zF rt)++t::l)) (lf:=lf) (sg:="->") (rt:=rt) (lvl:=12) (k:=.arr lf rt) (l1:=toks (zF rt)++t::l) (l2:=t::l) U' ?_ ?_ (by decide) C C C trivial (.inr ⟨by decide,C⟩)
   (λp v=>⟨p+2,(v.step (by decide:BT≠FG)).step (by decide),zkc U' h3 v⟩) (.inl ⟨C,hm⟩) hws hwd hcs hcb (by simp;exact(@PJ _ _)) hlen hlen2 z_
  ·clear U' hlf hrt ht hws hwd hcs hcb hlen hlen2 z_ hr hm hrl h;rcases h3 with C|rfl|rfl<;>rfl
  ·clear U';clear hlf hrt;clear ht hws;clear hwd hcs;clear hcb hlen;clear hlen2 z_;clear hr hm;clear hrl h;rcases h3 with C|rfl|rfl<;>rfl
end
mutual namespace A
def Si:∀h∈Gk,I_ h=7:=by decide
def g7:∀s∈HA,8≤Ir s→8≤js s:=by decide
structure Rr (l:D Tk):Prop where
 h:∃f r,l=f::r∧f∈OF∧¬(f.1=BT∧wd f.2∈GT)
def Rr.app {a b:D Tk} (h:Rr a):Rr<|a++b:=by
 refine Fv h.h λf r e2 Y T'=>?_
 clear h;subst e2
 exact⟨f,r++b,C,Y,T'⟩
def Rr.put {d:Nd} {k:g'} (h:k≤lv d→Rr (tk d)):Rr<|ND d k:=by
 by_cases hk:k≤lv d
 ·refine rq (WG hk) ?_;exact h hk
 ·refine rq (WH hk) ?_;exact⟨_,_,C,by decide,by decide⟩
def Qi {x:Sx} {l:D Tk} (h:(EX,x)∈OF):Rr<|(EX,x)::l:=⟨_,_,C,h,λe=>Lg e.1 (by decide:EX≠BT)⟩
def i8:∀(d:Nd),Wf d→8≤lv d→Rr (tk d)
 | .name x,w,h=>⟨(BT,x),[],C,(Oz x w).1,by
   have:∀x∈MN,wd x∉GT:=by decide
   exact λe=>this x w e.2⟩
 | .num k,w,h=>⟨(GZ,zW k),[],C,(Py k w).1,λe=>Lg e.1 (by decide:GZ≠BT)⟩
 | .con x,w,h=>⟨(BT,x),[],C,(Px x w).1,by
   have:∀x∈IN,wd x∉GT:=by decide
   exact λe=>this x w e.2⟩
 | .un h a,w,hl=>by
  have hm:h∉Gk:=λhm=>by
   have:=Si h hm
   exact uF hl this
  simp only[tk,FK,Lj hm,FU,HU,j6]
  exact Qi<|P9 h w.1 hm
 | .bin s a b,w,hl=>by
  simp only[tk,FK,j3]
  rw[FU]
  exact(Rr.put λhk=>i8 a w.2.1<|y7 (g7 s w.1 hl) hk).app
 | .arrow l r a b,w,hl=>by
  simp only[tk,FK,j3]
  rw[FU]
  exact(Rr.put λhk=>i8 a w.2.2.1<|y7 (by decide) hk).app
 | .box a as,w,hl=>by
  simp only[tk,FK,j3]
  rw[FU]
  exact(Rr.put λhk=>i8 a w.1<|y7 (by decide) hk).app
 | .ite a b c,w,hl=>Lg hl (by decide:¬(8:g')≤3)
 | .quant q ds a,w,hl=>Lg hl (by decide:¬(8:g')≤0)
 | .lett x v a,w,hl=>Lg hl (by decide:¬(8:g')≤0)
 | .block as,w,hl=>by
  simp only[tk,FK]
  cases FX as with
  |nil=>exact Qi<|by decide
  |cons a r=>exact Qi<|by decide
 | .compr ds a,w,hl=>by
  simp only[tk,FK,FU,HU,j6]
  exact Qi<|by decide
def nJ {d:Nd} (w:Wf d) {k:g'} (hk:8≤k):Rr<|ND d k:=Rr.put λh=>i8 d w<|y7 hk h
def az:∀s∈[",","|","]","}",")","{"],wd s≠"["∧wd s≠"!"∧(zA (wd s)<|Hd 2).isSome=La:=by decide
def qN {s:Sx} (h:s∈[",","|","]","}",")","{"]) (l:D Tk):wT<|(EX,s)::l:=
 yG (az s h) λa b c=>⟨by refine rq FO ?_;exact λe=>a e.2,by refine rq FO ?_;exact λe=>Lg e.1 (by decide:¬EX=BT),.inr ⟨by refine rq FO ?_;exact λe=>Lg e.1 (by decide:¬EX=BT),by refine rq FO ?_;exact λe=>b e.1,by refine rq FO ?_;exact c⟩⟩
def Sj:wT [(FG,[])]:=⟨by decide,by decide,.inl<|by decide⟩
def TV:∀s∈["|","]","}",")","{"],wd s≠":"∧wd s≠",":=by decide
def we {s:Sx} (h:s∈["|","]","}",")","{"]) (l:D Tk):OG<|(EX,s)::l:=ql (TV s h).1 (TV s h).2
def SV:OG [(FG,[])]:=ql (by decide)<|by decide
def xC {t u:Tk} {l:D Tk}:zV (t::u::l) 1=u:=by simp[zV]
def g8:∀f∈OF,f≠(EX,"-")→¬(f.1=EX∧wd f.2="[")∧¬(f.1=BT∧wd f.2=HB)∧(zA (wd f.2)<|Hd 2).isSome=La∧wd f.2≠":"∧wd f.2≠","∧(wd f.2∈GT→f.2∈GT)∧(wd f.2="!"→f.2="!"):=by decide
def TW:∀g∈TU,wd g.2≠"->"∧(zA (wd g.2)<|Hd 3).isSome=La:=by decide
def zfl {f:Tk} {r l:D Tk} (Y:f∈OF) (T':f≠(EX,"-")) (h3:(f.2∈GT∨f.2="!")→∃g r',r=g::r'∧g∈TU):wT (f::r++l)∧OG (f::r++l):=by
 obtain⟨a1,a2,a3,a4,a5,a6,a7⟩:=g8 f Y T'
 refine⟨⟨?_,?_,.inr ⟨?_,?_,?_⟩⟩,ql a4 a5⟩<;>simp only[j6,FO]
 ·exact a1
 ·exact a2
 ·rintro⟨e1,e2,e3⟩
  refine F4 (h3<|.inl<|a6 e2) λg r' e2 hg=>?_
  subst e2
  rw[j6,xC]at e3
  exact(TW g hg).1 e3
 ·rintro⟨e1,e2⟩
  refine F4 (h3<|.inr<|a7 e1) λg r' e2 hg=>?_
  clear h3;subst e2
  rw[j6,xC]at e2
  rw[(TW g hg).2]at e2
  exact nB e2
 ·exact a3
def Zr {d:Nd} (w:Wf d) (l:D Tk):wT (jM d++l)∧OG (jM d++l):=by
 refine cps λGG kk=>?_
 obtain⟨-,f,r,e,Y,T',h3⟩:=(Sv d w).dash
 refine kk ?_
 unfold jM
 refine rq e ?_
 exact zfl Y T' h3
abbrev SW:D g':=[3,5,7,9,17]
abbrev PC (ws:D Wt) (L:g'):Prop:=∀w r,ws=w::r→w.1≠15∧(w.1<L∨(w.1=L∧L∈SW))
def zfm {L:g'}:PC [] L:=λw r h=>by contradiction
def wf {l L:g'} {k:Wk} {ws:D Wt} (Y:l≠15) (T':l<L∨(l=L∧L∈SW)):PC ((l,k)::ws) L:=λw r h=>by cases h;exact⟨Y,T'⟩
def PC.lt {ws:D Wt} {l L:g'} (h:PC ws l) (hl:l<L):PC ws L:=λw r e=>by
 refine qk (h w r e) λY T'=>?_
 exact⟨Y,.inl<|T'.elim (λh=>C5 h hl) λh=>Y6 (g'.le_of_eq h.1) hl⟩
def PC.bx {ws:D Wt} (h:PC ws 16):PC ws 15:=λw r e=>by
 refine qk (h w r e) λY T'=>?_
 refine⟨Y,.inl ?_⟩
 rcases T' with T'|⟨-,T'⟩
 ·exact uG T' Y
 ·exact Lg T'<|by decide
structure sw (wq:D Wt) (L:g'):Prop where
 all:∀w∈wq,L≤w.1
 bx:L=15→wq=[]
 bot:wq=[]∨∃up k,wq=up++[((L,k):Wt)]∧(L∈SW∨∀w∈up,L<w.1)
def zcc {L:g'}:sw [] L:=⟨λw h=>(by cases h),λH=>C,.inl C⟩
abbrev Cl (L:g') (d:Nd) (ps:D Nd) (ws:D Wt) (ps2:D Nd) (ws2:D Wt):Prop:=∃wq,ws2=wq++ws∧GL wq ps2=R (d::ps)∧sw wq L
def zfn {w:Wk} {ps ps':D Nd} (h:SS w ps=R ps'):ps'.length≤ps.length:=by
 cases w with
 |ahead x=>cases ps with
  |nil=>exact nO h
  |cons a r=>replace h:=z' h;subst h;exact j2 _
 |els=>cases ps with
  |nil=>exact nO h
  |cons a r=>cases r with
   |nil=>exact nO h
   |cons b r=>cases r with
    |nil=>exact nO h
    |cons c r=>replace h:=z' h;subst h;exact Q8 _ 2
 |arr x y=>cases ps with
  |nil=>exact nO h
  |cons a r=>cases r with
   |nil=>exact nO h
   |cons b r=>replace h:=z' h;subst h;exact Q8 _ 1
 |op x=>cases ps with
  |nil=>exact nO h
  |cons a r=>cases r with
   |nil=>exact nO h
   |cons b r=>replace h:=z' h;subst h;exact Q8 _ 1
def My:∀{wq:D Wt} {ps ps':D Nd},GL wq ps=R ps'→ps'.length≤ps.length
 |[],ps,ps',h=>by replace h:=z' h;subst h;exact j2 _
 |w::wq,ps,ps',h=>by
  simp only[NZ]at h
  refine E7 (Bf.mp h) λq Y T'=>?_
  exact q0 (My T')<|zfn Y
def Zs {w:Wt} {ps:D Nd}:GL [w] ps=SS w.2 ps:=by
 simp only[NZ]
 cases SS w.2 ps<;>rfl
def Cl.nil {L:g'} {d:Nd} {ps:D Nd} {ws:D Wt}:Cl L d ps ws (d::ps) ws:=⟨[],C,C,zcc⟩
def Cl.left {a:Nd} {l L:g'} {ps ps2:D Nd} {ws ws2:D Wt} (h:Cl L a ps ws ps2 ws2) (hL:l≤L∨(l=16∧L=15)) (hsp:L=l→l≠3∧l≠6) (h3:l∈SW→l=3) (U':PC ws l):
  ∃wq base ps0,ws2=wq++base∧(∀w∈wq,l<w.1)∧GL wq ps2=R ps0∧Oy l ps0 base (a::ps) ws∧(a::ps).length≤ps2.length∧ws.length≤ws2.length:=by
 refine Hs h λwq e1 hcs hp=>?_
 subst e1
 have hlen:=My hcs
 have hk:∀w r,ws=w::r→w.1<l∨(w.1=3∧l=3):=λw r e=>by
  refine qk (U' w r e) λY T'=>?_
  rcases T' with T'|⟨T',h4⟩
  ·exact .inl T'
  ·have:=h3 h4;exact .inr ⟨by exact uH this T',this⟩
 clear U';rcases hp.bot with C|⟨up,k,C,hu⟩
 ·replace hcs:=z' hcs;subst hcs
  exact⟨[],ws,a::ps,C,λw h=>(by cases h),C,.keep hk,hlen,j2 _⟩
 ·by_cases he:L=l
  ·subst he
   refine qk (hsp C) λn3 n6=>?_
   rw[Nt]at hcs
   refine E7 (Bf.mp hcs) λps0 Y T'=>?_
   rw[Zs]at T'
   exact⟨up,(L,k)::ws,ps0,by simp,(hu.resolve_left λh=>n3<|h3 h),Y,.join C n3 n6 T',hlen,by simp;exact(@RA _ _)⟩
  ·refine⟨up++[(L,k)],ws,_,C,λw hw=>?_,hcs,.keep hk,hlen,by simp;exact(@RA _ _)⟩
   have:=hp.all w hw
   rcases hL with h|⟨h,h'⟩
   ·exact uI this h he
   ·exact Lg (hp.bx h')<|by simp
def Cl.push {L l:g'} {k:Wk} {b d:Nd} {ps ps1 ps3:D Nd} {ws ws3:D Wt} (h:Cl L b ps1 ((l,k)::ws) ps3 ws3) (ht:SS k (b::ps1)=R (d::ps)) (hle:l<L∨(l≤L∧l∈SW)) (h15:l≠15):Cl l d ps ws ps3 ws3:=by
 refine Hs h λwq e1 hcs hp=>?_
 subst e1
 refine⟨wq++[(l,k)],by simp,?_,?_,λh=>Lg h h15,.inr ⟨wq,k,C,?_⟩⟩
 ·(rewrite [Nt];refine rq hcs ?_);refine(?_:GL [(l,k)] (b::ps1)=_);refine rq Zs ?_;exact ht
 ·intro w hw
  rcases Dj.mp hw with hw|hw
  ·exact y7 (hle.elim Co And.left)<|hp.all w hw
  ·refine rq (Z0.mp hw) ?_;exact Dk _
 ·rcases hle with h|⟨-,h⟩
  ·exact .inr λw hw=>by have:=hp.all w hw;exact lR this h
  ·exact .inl h
end
mutual section
variable (c:Q) (U:D MV)
abbrev RD (d:Nd):Prop:=∀(F:Ev→Prop) (q:Q) (dp:g') (ps:D Nd) (ws:D Wt) (fl:D Tk),10*ht d+5≤q→dp+2*(ht d:g')≤25→PC ws (lv d)→(lv d=0→wT fl)→(lv d<8→OG fl)→
 (∀ps2 ws2,Cl (lv d) d ps ws ps2 ws2→BS (q+7) c U dp F ps2 ws2 fl)→AS (q+7) c U dp F ps ws (tk d++fl)
end
mutual section
variable {n c p q:Q} {U:D MV} {dp k:g'} {t:Tk} {l fl:D Tk} {ps:D Nd} {ws:D Wt} {F:Ev→Prop}
def sy (hk0:0≤k) (U':FE c) {d:Nd} {L:g'} (hs:wT fl) (z_:∀dp:g',dp+k≤25→(∀ps2 ws2,Cl L d [] [] ps2 ws2→BS (q+7) c U dp (nH c U dp d fl) ps2 ws2 fl)→AS (q+7) c U dp (nH c U dp d fl) [] [] l):Gw c U (k+1) (q+9) d l fl:=by
 intro dp p hdp v
 refine ze9 (n:=q+4) U' (uJ hk0 hdp) (cH (v.len)<|v.z) (z_ (dp+1) (uK hdp) λps2 ws2 h=>ze5 U' hs λsz pl wl p hp hw v=>?_) v
 refine Hs h λwq e1 hcs H=>?_
 clear h H;subst e1
 unfold Sz at sz
 exact⟨pl,wl,p,ps2,wq++[],hp,hw,by rw[Z8];exact hcs,v,by exact Ry sz<|hp.len,by exact Rx (hw.len) sz,C⟩
def Gw.mono {k k':g'} {d:Nd} {l l':D Tk} (h:Gw c U k n d l l') (hk:k≤k'):Gw c U k' n d l l':=λdp p hdp v=>h dp p (uL hk hdp) v
def wE (U':FE c) {d:Nd} (h:RD c U d) (hk:2*(ht d:g')+1≤k) (hn:10*ht d+14≤n) (hs:wT fl) (hf:lv d<8→OG fl):Gw c U k n d (tk d++fl) fl:=by
 obtain⟨q,C⟩:∃q,n=q+9:=⟨n -9,uM hn⟩
 exact(sy (k:=2*(ht d:g')) uN U' hs λdp hdp z_=>h _ q dp [] [] fl (n9 hn omT) hdp zfm (λH=>hs) hf z_).mono hk
def kH {t:Tk} (h:t.1∉OE∨zA (wd t.2) (Hd 1)=Z):KF<|t::l:=by
 rintro⟨Y,T',-⟩
 rw[FO]at Y T'
 rcases h with h|h
 ·exact h Y
 ·rw[h]at T';exact nB T'
def sA (U':FE c) {d:Nd} (h:RD c U d) (hq:10*ht d+7≤q) (hdp:dp+2*(ht d:g')+1≤25) (z_:BS (q+7) c U dp F (d::ps) ws fl):AS (q+7) c U dp F ps ws<|(EX,"(")::(tk d++[(EX,")")])++fl:=by
 refine kY (n:=q+4) (l':=fl) U' (kH<|.inr C) (by simp;exact(@PJ _ _)) (λp v=>?_) z_
 simp only[j6,j3,J8]at v
 exact zfj (k:=2*(ht d:g')+1) U' (uO hdp) (wE (fl:=(EX,")")::fl) U' h on (cI hq) (qN (by decide) _) λH=>we (by decide) _) v
def kI (U':FE c) {d:Nd} (h:RD c U d) {m:g'} (hm:1≤m) (hq:10*ht d+7≤q) (hdp:dp+2*(ht d:g')+1≤25) (hcm:m≤lv d→PC ws (lv d)) (hf:m≤lv d→lv d<8→OG fl) (z_:∀L ps2 ws2,m≤L→Cl L d ps ws ps2 ws2→BS (q+7) c U dp F ps2 ws2 fl):AS (q+7) c U dp F ps ws<|ND d m++fl:=by
 by_cases hk:m≤lv d
 ·refine rq (WG hk) ?_
  exact h F q dp ps ws fl (lK hq omT) (uP hdp) (hcm hk) (λh0=>Lg (y7 hm<|h0▸hk)<|by decide) (hf hk) λps2 ws2 hcl=>z_ _ _ _ hk hcl
 ·refine rq (WH hk) ?_
  exact sA U' h hq hdp<|z_ m _ _ (Dk m) Cl.nil
def sC (U':FE c) {d:Nd} (h:RD c U d) (hk:2*(ht d:g')+2≤k) (hn:10*ht d+16≤n) (hs:wT fl):Gw c U k n d ((EX,"(")::(tk d++[(EX,")")])++fl) fl:=by
 obtain⟨q,C⟩:∃q,n=q+9:=⟨n -9,uQ hn⟩
 exact(sy (k:=2*(ht d:g')+1) (L:=0) uR U' hs λdp hdp z_=>sA U' h (n9 hn omT) (uS hdp)<|z_ _ _ Cl.nil).mono (uT hk)
def sD (U':FE c) {d:Nd} (h:RD c U d) {m:g'} (hm:8≤m) (hk:2*(ht d:g')+2≤k) (hn:10*ht d+16≤n) (hs:wT fl):Gw c U k n d (ND d m++fl) fl:=by
 by_cases hl:m≤lv d
 ·refine rq (WG hl) ?_;exact wE U' h (oo hk) (lK hn omT) hs λh=>Lg (Y6 (y7 hm hl) h)<|by decide
 ·refine rq (WH hl) ?_;exact sC U' h hk hn hs
def zfo (U':FE c) {d:Nd} (h:RD c U d) (hk:2*(ht d:g')+2≤k) (hn:10*ht d+16≤n) (hs:wT fl) (hf:OG fl):Gw c U k n d (jM d++fl) fl:=by
 unfold jM qu
 split
 ·have:=sC U' h hk hn hs
  simpa[wy]using this
 ·exact wE U' h (oo hk) (lK hn omT) hs λH=>hf
def WI {a:Nd} {as:D Nd} (h:a∈as):ht a≤htL as:=by
 induction as with
 |nil=>cases h
 |cons b as ih=>
  rcases w3.mp h with C|h
  ·exact k_ ..
  ·exact q0 (ih h)<|j8 ..
def nK {a b:Q} {k:g'} (j:g') (h:a≤b) (hk:2*(b:g')+j≤k):2*(a:g')+j≤k:=y7 (g'.add_le_add_right (g'.mul_le_mul_of_nonneg_left (x9.mpr h)<|by decide) j) hk
def nM {a b n:Q} (j:Q) (h:a≤b) (hn:10*b+j≤n):10*a+j≤n:=q0 (j_ (y' 10 h) j) hn
def nN {a n j:Q} (k:Q) (hj:w0 k j=f') (hn:a+j≤n):∃q,n=q+k:=⟨n -k,(j'<|q0 (q0 (Z5 hj)<|K6 j a) hn).symm⟩
def zr2 (U':FE c) (as:D Nd) (hl:as.length≤2) (z_:∀a∈as,Wf a∧RD c U a) (hk:2*(htL as:g')+1≤k) (hn:10*htL as+14≤n):TT c U k n as (toks (zo<|FX as)++(EX,"]")::fl) fl:=Fg (nN 3 C hn) λq e=>by
 subst e
 exact si (T:=λas=>toks<|zo<|FX as) (tx:=tk) U' (lpA U') C (λa=>by simp[Ny,F6]) (λa b=>by simp[Ny,F6]) as hl (λa ha=>Fv ((Sv a (z_ a ha).1).tok) λf r e hf H=>⟨f,r,e,(by decide:∀f∈OF,f.2≠"]") f hf⟩)
  λa ha l hx=>wE U' (z_ a ha).2 (nK 1 (WI ha) hk) (nM 14 (WI ha) hn) (by rcases hx with C|⟨b,hb,C⟩<;>exact qN (by decide) _) λH=>by
   rcases hx with C|⟨b,hb,C⟩
   ·exact we (by decide) _
   ·exact⟨nofun,by rw[FO];decide,λH=>Pz b (z_ b hb).1 _<|we (by decide) _⟩
abbrev bt (as:D Nd):D Tk:=(as.map jM).flatten
def WJ (a:Nd) (as:D Nd) (l:D Tk):bt (a::as)++l=jM a++(bt as++l):=j3 ..
def zr3 (as:D Nd) (z_:∀a∈as,Wf a) (fl:D Tk):wT (bt as++(EX,"}")::fl)∧OG (bt as++(EX,"}")::fl):=by
 cases as with
 |nil=>exact⟨qN (by decide) _,we (by decide) _⟩
 |cons a as=>rw[WJ];exact Zr (z_ a<|.head _) _
def sE (U':FE c) (as:D Nd) (hl:as.length≤2) (z_:∀a∈as,Wf a∧RD c U a) (hk:2*(htL as:g')+2≤k) (hn:10*htL as+16≤n):Oe c U k n as (bt as++(EX,"}")::fl) fl:=Fg (nN 2 C hn) λq e=>by
 subst e
 clear hl
 induction as with
 |nil=>exact zfc U'
 |cons a as ih=>
  obtain⟨-,f,r,e,hf,-,-⟩:=(Sv a (z_ a<|.head _).1).dash
  have hS:=zr3 as (λb hb=>(z_ b<|.tail _ hb).1) fl
  have hx:=zfo U' (z_ a<|.head _).2 (nK 2 (k_ ..) hk) (nM 16 (k_ ..) hn) hS.1 hS.2
  rw[WJ]
  unfold jM at hx⊢
  rw[e]at hx⊢
  exact zb5 U' ((by decide:∀f∈OF,f.2≠"}") f hf) hx<|ih (λb hb=>z_ b<|.tail _ hb) (nK 2 (j8 (ht a) _) hk)<|nM 16 (j8 (ht a) _) hn
def vX (as:D Nd) (hl:as.length≤2):toks (FA<|FX as)++fl=(EX,"{")::(bt as++(EX,"}")::fl):=
 iL hl C (λa=>by simp[IM,Ny,bt,Ii]) (λa b=>by simp[IM,Ny,bt,Ii])
def sF {dj:Ld} {xs:D Sx} {mu:Sx} {a:Nd} (hx:xs∈R7):toks (Mm<|.mk dj xs mu a)++fl=Jy dj xs mu++(ND a 8++fl):=by
 simp only[R7,w3,Z_,or_false]at hx
 have hw:toks (zF mu)=if mu=[]then []else [(BT,mu)]:=by unfold zF;split<;>rfl
 unfold Jy
 simp only[PW,FU,hw,j3]
 cases dj<;>rcases hx with C|rfl|rfl<;>simp[vr,TR,F6]
def Qj (U':FE c) {d:Dc} (w:PY d) (h:RD c U<|Nc d) (hk:2*(htD d:g')+2≤k) (hn:10*htD d+17≤n) (hs:wT fl):N1 c U k n d (toks (Mm d)++fl) fl:=by
 cases d with
 |mk dj xs mu a=>
  obtain⟨q,C⟩:∃q,n=q+5:=⟨n -5,uU hn⟩
  refine rq (sF w.1) ?_
  refine Fv ((nJ w.2.2 (k:=8)<|by decide).h) λf r e H hf=>?_
  have hx:=sD (d:=a) (k:=k) (n:=q+4) (m:=8) U' h (by decide) hk (tX hn omT) hs
  refine(?_:N1 c U k (q+5) (.mk dj xs mu a) _ fl)
  rw[e]at hx⊢
  exact zfd U' w.1 w.2.1 (λH=>hf) hx
def sG (U':FE c) (hs:wT<|t::fl) (ht:t.2≠",") (ds:D Dc) (hd:ds≠[]) (hl:ds.length≤2) (z_:∀d∈ds,PY d∧RD c U (Nc d)) (hk:2*(htDL ds:g')+2≤k) (hn:10*htDL ds+17≤n):WB c U k n ds (toks (zo<|FM ds)++t::fl)<|t::fl:=Fg (nN 2 C hn) λq e=>by
 subst e
 refine iL hl (λhd H H H=>Lg C hd) (λa H z_ hk hn=>?_) (λa b H z_ hk hn=>?_) hd z_ hk hn
 ·refine rq (show toks (zo<|FM [a])=toks (Mm a) by simp[HL,F6]) ?_
  exact⟨a,[],_,C,Qj U' (z_ a<|.head _).1 (z_ a<|.head _).2 (t9 hk) (tU hn omT) hs,sj U' ht⟩
 ·refine rq (show toks (zo<|FM [a,b])++t::fl=toks (Mm a)++(EX,",")::(toks (Mm b)++t::fl) by simp[HL,F6]) ?_
  exact⟨a,[b],_,C,Qj U' (z_ a<|.head _).1 (z_ a<|.head _).2 (t_ hk) (tV hn omT)<|qN (by decide) _,zfe U' (Qj U' (z_ b<|.tail _<|.head _).1 (z_ b<|.tail _<|.head _).2 (uV hk) (cJ hn) hs)<|sj U' ht⟩
def Zt {d:Dc} (w:PY d):je (toks (Mm d)++fl) 0=f'∧je (t::(toks (Mm d)++fl)) 1=f':=by
 cases d with
 |mk dj xs mu a=>
  rw[sF w.1]
  have hx:=w.1
  simp only[R7,w3,Z_,or_false]at hx
  generalize ND a 8++fl=I'
  unfold Jy
  generalize (if mu=[]then []else [(BT,mu)])=M
  clear w;cases dj<;>rcases hx with C|rfl|rfl<;>simp only[if_true,BQ,if_false,TR,DU,w5,D.flatten_nil,W6,J8,j6,Z8,j3]<;>unfold je<;>rw[FO,xC]<;>exact⟨C,C⟩
def Sk:∀h∈Nf,wd h=h∧h.length≤20∧(h∉Gk→h∉Gq)∧1≤I_ h∧I_ h≠15∧I_ h∈SW∧(h∈Gk→I_ h=7):=by decide
def Yu {h:Sx} (hh:h∈Nf):wd h=h∧zA h (Hd 1)=R (.int<|I_ h)∧h.length≤20∧(h∉Gk→h∉Gq)∧1≤I_ h∧I_ h≠15∧I_ h∈SW∧(h∈Gk→I_ h=7):=
 ⟨(Sk h hh).1,qx (f:=λh=>zA h<|Hd 1) (g:=λh=>R<|.int<|I_ h) C hh,(Sk h hh).2⟩
def Yv {s:Sx} (hs:s∈HA):1≤js s∧1≤jv s∧(Ir s≤js s∨(Ir s=16∧js s=15))∧(js s≤Ir s→Ir s≠3∧Ir s≠6)∧(Ir s∈SW→Ir s=3)∧Ir s≠15∧(Ir s<jv s∨(Ir s≤jv s∧Ir s∈SW))∧1≤Ir s∧Ir s≤16:=by
 revert s;decide
def zfp (U':FE c) {x:Sx} (hx:x∈MN):RD c U<|.name x:=by
 intro F q dp ps ws fl hq hdp hcm h0 hf z_
 exact kY (n:=q+4) (l':=fl) U' (kH (t:=(BT,x))<|.inr<|BN.mp<|(by decide:∀x∈MN,(zA (wd x)<|Hd 1).isNone=f') x hx) (by simp[tk,FK]) (λp v=>zb7 U' ((by decide:∀x∈MN,qC (BT,x)=f') x hx) v)<|z_ _ _ Cl.nil
def zks (U':FE c) {x:Sx} (hx:x∈IN):RD c U<|.con x:=by
 intro F q dp ps ws fl hq hdp hcm h0 hf z_
 exact kY (n:=q+4) (l':=fl) U' (kH (t:=(BT,x))<|.inr<|BN.mp<|(by decide:∀x∈IN,(zA (wd x)<|Hd 1).isNone=f') x hx) (by simp[tk,FK]) (λp v=>zfg U' hx v)<|z_ _ _ Cl.nil
def zkt (U':FE c) {x:Q} (hx:x<20):RD c U<|.num x:=by
 intro F q dp ps ws fl hq hdp hcm h0 hf z_
 exact kY (n:=q+4) (l':=fl) U' (kH (t:=(GZ,zW (x:g')))<|.inl (by decide:GZ∉OE)) (by simp[tk,FK]) (λp v=>zff U' hx v)<|z_ _ _ Cl.nil
def zch (U':FE c) {x:Sx} {ds:D Dc} {a:Nd} (hx:x∈Gq) (hn:ds≠[]) (hl:ds.length≤2) (hd:∀d∈ds,PY d∧RD c U (Nc d)) (ha:RD c U a):RD c U<|.quant x ds a:=by
 intro F q dp ps ws fl hq hdp hcm h0 hf z_
 have T':∀x∈Gq,wd x∈Gq:=by decide
 have e:tk (.quant x ds a)++fl=(BT,x)::(toks (zo<|FM ds)++(EX,"|")::(tk a++fl)):=by simp[tk,FK]
 refine rq e ?_
 have hQ:Pw ((BT,x)::(toks (zo<|FM ds)++(EX,"|")::(tk a++fl)))=f':=by
  refine Ib (K5 hn) λd ds' e2=>?_
  clear hcm e;subst e2
  have:=(Zt (t:=(BT,x)) (fl:=toks ((FM ds').map λb=>[.sg ",",sp]++b).flatten++(EX,"|")::(tk a++fl)) (hd d<|by simp).1).2
  unfold Pw
  refine rq FO ?_
  simp only[HL,wU,FU,j3]at this⊢
  (refine rq this ?_;refine rq (Ll<|T' x hx) ?_);rfl
 refine kY (n:=q+4) (l':=fl) U' (λh=>?_) (by simp;exact(@Uo _ _ _)) (λp v=>Yr (k:=2*(max (htDL ds) (ht a):Q)+2) U' (lT hdp) hx hQ
   (sG U' (qN (by decide) _) (by decide) ds hn hl hd oq<|lO hq omT) (Ga hl omT) (wE U' ha lU (lP hq omT) (h0 C) λH=>hf (by decide:(0:g')<8)) v)<|z_ _ _ Cl.nil
 rw[hQ]at h;exact Lg h.2.2<|by decide
def zfq (U':FE c) {x:Sx} {b a:Nd} (hx:x∈Rj) (hb:RD c U b) (ha:RD c U a):RD c U<|.lett x b a:=by
 intro F q dp ps ws fl hq hdp hcm h0 hf z_
 have e:tk (.lett x b a)++fl=(BT,NU)::(BT,x)::(EX,"=")::(tk b++(EX,"|")::(tk a++fl)):=by simp[tk,FK]
 refine rq e ?_
 exact kY (n:=q+4) (l':=fl) U' (kH<|.inr C) (by simp;exact(@Up _ _ _)) (λp v=>zfi (k:=2*(max (ht b) (ht a):Q)+2) U' (lT hdp) ((by decide:∀x∈Rj,qC (BT,x)=f') x hx)
   (wE U' hb uW (lO hq omT) (qN (by decide) _) λH=>we (by decide) _) (wE U' ha lU (lP hq omT) (h0 C) λH=>hf (by decide:(0:g')<8)) v)<|z_ _ _ Cl.nil
def zci (U':FE c) {as:D Nd} (hl:as.length≤2) (hd:∀d∈as,Wf d∧RD c U d):RD c U<|.block as:=by
 intro F q dp ps ws fl hq hdp hcm h0 hf z_
 have e:tk (.block as)++fl=(EX,"{")::(bt as++(EX,"}")::fl):=by
  simp only[tk,FK];exact vX as hl
 refine rq e ?_
 have hB:je (bt as++(EX,"}")::fl) 0=La:=by
  have key:∀(a:Nd) (r:D Tk),Wf a→OG r→je (jM a++r) 0=La:=by
   intro a r w hr
   refine cps λGG kk=>?_
   obtain⟨-,f,r',e,hf,-,-⟩:=(Sv a w).dash
   refine kk ?_
   refine JB ?_ ?_
   ·unfold jM;(refine rq e ?_;refine rq j6 ?_;refine rq FO ?_);exact O0 f hf
   ·have:=Pz a w r hr
    unfold jM qu
    split
    ·simp only[wy,j6,J8,HU];exact jy C
    ·exact this
  exact iL hl (λH=>JB (by decide:wd "}"≠Mn)<|jy C) (λa hd=>by simpa[bt]using key a _ (hd a<|.head _).1 (we (s:="}") (by decide) fl)) (λa b hd=>by simpa[bt]using key a _ (hd a<|.head _).1 (Zr (hd b<|.tail _<|.head _).1<|(EX,"}")::fl).2) hd
 exact kY (n:=q+4) (l':=fl) U' (kH<|.inr C) (by simp;exact(@PJ _ _)) (λp v=>Ys (k:=2*(htL as:Q)+2) U' (uX hdp) hB (sE U' as hl hd uY<|cK hq) (Ga hl omT) v)<|z_ _ _ Cl.nil
def zcj (U':FE c) {ds:D Dc} {a:Nd} (hn:ds≠[]) (hl:ds.length≤2) (hd:∀d∈ds,PY d∧RD c U (Nc d)) (ha:RD c U a):RD c U<|.compr ds a:=by
 intro F q dp ps ws fl hq hdp hcm h0 hf z_
 have e:tk (.compr ds a)++fl=(EX,"{")::(toks (zo<|FM ds)++(EX,"|")::(tk a++(EX,"}")::fl)):=by simp[tk,FK]
 refine rq e ?_
 have hB:je (toks (zo<|FM ds)++(EX,"|")::(tk a++(EX,"}")::fl)) 0=f':=by
  refine Ib (K5 hn) λd ds' e2=>?_
  clear hcm h0 hf e;subst e2
  have:=(Zt (t:=(BT,[])) (fl:=toks ((FM ds').map λb=>[.sg ",",sp]++b).flatten++(EX,"|")::(tk a++(EX,"}")::fl)) (hd d<|by simp).1).1
  simp only[HL,wU,FU,j3]at this⊢
  exact this
 exact kY (n:=q+4) (l':=fl) U' (kH<|.inr C) (by simp;exact(@Us _ _ _)) (λp v=>Yt (k:=2*(max (htDL ds) (ht a):Q)+2) U' (lT hdp) hB
   (sG U' (qN (by decide) _) (by decide) ds hn hl hd oq<|lO hq omT) (Ga hl omT) (wE U' ha lU (lP hq omT) (qN (by decide) _) λH=>we (by decide) _) v)<|z_ _ _ Cl.nil
set_option tactic.hygienic true in
def zr4 (U':FE c) {h:Sx} {a:Nd} (hh:h∈Nf) (w:Wf a) (ha:RD c U a):RD c U<|.un h a:=by
 intro F q dp ps ws fl hq hdp hcm h0 hf z_
 obtain⟨f1,f2,f3,f4,f5,f6,f7,f8⟩:=Yu hh
 obtain⟨m,hm,hm1⟩:∃m,m=(if h="-"then(10:g')else I_ h)∧I_ h≤m:=⟨_,C,by split<;>rename_i e;clear hh hcm h0 f4 f5;subst e;decide;exact Dk _⟩
 obtain⟨kk,hkk,e,hq0⟩:∃kk,kk∈OE∧tk (.un h a)=(kk,h)::ND a m∧Pw ((kk,h)::(ND a m++fl))=La:=by
  by_cases hmu:h∈Gk
  ·refine⟨BT,by decide,by simp[tk,FK,hmu,hm],?_⟩
   have hds:=g0 (k:=m)<|Pz a w fl<|hf (by refine rq (f8 hmu) ?_;decide:I_ h<8)
   refine Fv (((Sv a w).put (lv a) m).tok) λg r e hg H=>?_
   have e':ND a m=g::r:=e
   rw[e']at hds⊢
   unfold Pw je
   (refine rq j6 ?_;rewrite [xC];refine rq (Lj<|O0 g hg) ?_)
   simp only[CK,Bn]
   rw[j6]at hds
   (refine rq hds ?_;rw[Bq])
  ·exact⟨EX,by decide,by simp[tk,FK,hmu,hm],vF<|.inl (by decide:EX≠BT)⟩
 (refine rq e ?_;refine rq j6 ?_)
 refine zrz (n:=q+4) (lvl:=I_ h) U' hkk f1 f2 f3 hq0<|kI U' ha (m:=m) (y7 f5 hm1) (cL hq) (uZ hdp) (λhl=>wf f6 ?_) (λhl h8=>hf ?_) λL ps2 ws2 hL hcl=>z_ _ _ (hcl.push C (.inr ⟨by exact ou hL hm1,f7⟩) f6)
 ·by_cases Y:I_ h=lv a
  ·exact .inr ⟨Y,Y▸f7⟩
  ·exact .inl<|lV hl hm1 Y
 ·exact Y6 (y7 hm1 hl) h8
def zku (U':FE c) {s:Sx} {a b:Nd} (hs:s∈HA) (ha:RD c U a) (hb:RD c U b):RD c U<|.bin s a b:=by
 intro F q dp ps ws fl hq hdp hcm h0 hf z_
 refine cps λGG kk=>?_
 change PC ws (Ir s)at hcm
 change Ir s<8→OG fl at hf
 obtain⟨f1,f2,f3,f4,f5,f6,f7,f8,f9⟩:=Yv hs
 have e:tk (.bin s a b)++fl=ND a (js s)++(toks (N6 s)++(ND b (jv s)++fl)):=by simp[tk,FK,JA]
 refine kk ?_
 refine rq e ?_
 refine Fv (sr s hs) λt r e1 e2 e3=>?_
 refine kI U' ha f1 (T_ hq) (lW hdp) (λhl=>?_) (λH H=>by refine rq e1 ?_;exact ql e2 e3) λL ps2 ws2 hL hcl=>?_
 ·rcases f3 with h|⟨h,h'⟩
  ·by_cases Y:Ir s=lv a
   ·refine rp Y ?_;exact hcm
   ·exact hcm.lt<|lV hl h Y
  ·by_cases Y:lv a=15
   ·refine rq Y ?_;rw[h]at hcm;exact hcm.bx
   ·by_cases T':lv a=16
    ·(refine rq T' ?_;refine rp h ?_);exact hcm
    ·exact hcm.lt<|u4 h' hl f9 Y T'
 ·refine M0 (hcl.left (l:=Ir s) (u5 hL f3) (λh=>f4<|u6 h hL) f5 hcm) λwq base ps0 g1 g2 g3 g4 g5 g6=>?_
  exact su (n:=q+4) U' hs g1 g2 g3 g4 g5 g6 (kI U' hb f2 (Ti hq) (ox hdp) (λhl=>wf f6 (by
    rcases f7 with h|⟨h,h'⟩
    ·exact .inl<|lR hl h
    ·by_cases Y:Ir s=lv b
     ·exact .inr ⟨Y,Y▸h'⟩
     ·exact .inl<|lV hl h Y)) (λhl h8=>hf<|Y6 (y7 (f7.elim Co And.left) hl) h8) λL' ps3 ws3 hL' hcl'=>z_ _ _ (hcl'.push C (by
    rcases f7 with h|⟨h,h'⟩
    ·exact .inl<|lR hL' h
    ·exact .inr ⟨by exact ou hL' h,h'⟩) f6))
def zck (U':FE c) {lf rt:Sx} {a b:Nd} (Y:lf∈GE) (T':rt∈GE) (w:Wf b) (ha:RD c U a) (hb:RD c U b):RD c U<|.arrow lf rt a b:=by
 intro F q dp ps ws fl hq hdp hcm h0 hf z_
 change PC ws (12:g')at hcm
 change (12:g')<8→OG fl at hf
 have e:tk (.arrow lf rt a b)++fl=ND a 12++(toks (if lf=[]then []else [sp,.nm lf])++(EX,"->")::(toks (zF rt)++(ND b 13++fl))):=by simp[tk,FK]
 refine rq e ?_
 have hfo:OG<|toks (if lf=[]then []else [sp,.nm lf])++(EX,"->")::(toks (zF rt)++(ND b 13++fl)):=by
  by_cases hn:lf=[]
  ·refine rq (Lh hn) ?_;exact ql (by decide)<|by decide
  ·refine rq (Lj hn) ?_;clear h0 e;rcases kG Y hn with C|rfl|rfl<;>exact ql (by decide)<|by decide
 refine Fv ((nJ w (k:=13)<|by decide).h) λf r e1 H e2=>?_
 refine kI U' ha (by decide) (T_ hq) (lW hdp) (λhl=>?_) (λH H=>hfo) λL ps2 ws2 hL hcl=>?_
 ·by_cases Y:lv a=12
  ·refine rq Y ?_;exact hcm
  ·exact hcm.lt<|u7 hl Y
 ·refine M0 (hcl.left (l:=12) (.inl hL) (λh=>⟨by decide,by decide⟩) (by decide) hcm) λwq base ps0 g1 g2 g3 g4 g5 g6=>?_
  have:=kI (F:=F) (q:=q) (dp:=dp) (ps:=a::ps) (ws:=(12,.arr lf rt)::ws) (fl:=fl) (m:=13) U' hb (by decide) (Ti hq) (ox hdp) (λhl=>wf (by decide)<|.inl<|oy hl) (λhl h8=>Lg (Y6 hl h8)<|by decide) λL' ps3 ws3 hL' hcl'=>z_ _ _<|hcl'.push C (.inl<|oy hL')<|by decide
  rw[e1,j6]at this⊢
  exact zkn (n:=q+4) (l2:=[]) U' Y T' (λH=>e2) g1 g2 g3 g4 g5 g6 this
def zkv (U':FE c) {a:Nd} {as:D Nd} (ha:RD c U a) (hl:as.length≤2) (hd:∀d∈as,Wf d∧RD c U d):RD c U<|.box a as:=by
 intro F q dp ps ws fl hq hdp hcm h0 hf z_
 change PC ws (15:g')at hcm
 change (15:g')<8→OG fl at hf
 have e:tk (.box a as)++fl=ND a 15++(EX,"[")::(toks (zo<|FX as)++(EX,"]")::fl):=by simp[tk,FK]
 refine rq e ?_
 refine kI U' ha (by decide) (T_ hq) (lW hdp) (λhl=>?_) (λH H=>ql (by decide)<|by decide) λL ps2 ws2 hL hcl=>?_
 ·by_cases Y:lv a=15
  ·refine rq Y ?_;exact hcm
  ·exact hcm.lt<|u8 hl Y
 ·refine Hs hcl λwq e1 hcs hp=>?_
  clear hcl;subst e1
  refine zkh (n:=q+4) U' ?_ (λw hw=>?_) hcs (My hcs) (by simp;exact(@PJ _ _)) (λp v=>?_)<|z_ _ _ Cl.nil
  ·clear z_;induction ws with
   |nil=>trivial
   |cons w r=>
    refine qk (hcm w r C) λY T'=>?_
    refine(?_:w.1≤14)
    rcases T' with T'|⟨-,T'⟩
    ·exact u9 T'
    ·exact Lg T'<|by decide
  ·have:=hp.all w hw;exact u_ hL this
  ·exact zb4 (n:=q+3) (k:=2*(htL as:g')+1) U' (znk hdp) (zr2 U' as hl hd on<|cM hq) (Ga hl omT) v
def zkw (U':FE c) {a b d:Nd} (ha:RD c U a) (hb:RD c U b) (hd:RD c U d):RD c U<|.ite a b d:=by
 intro F q dp ps ws fl hq hdp hcm h0 hf z_
 change PC ws (3:g')at hcm
 change (3:g')<8→OG fl at hf
 have e:tk (.ite a b d)++fl=ND a 4++(toks (N6 "=>")++(ND b 4++(BT,HB)::(ND d 3++fl))):=by simp[tk,FK,N6]
 refine rq e ?_
 refine kI U' ha (by decide) (cN hq) (znl hdp) (λhl=>hcm.lt<|oz hl) (λH H=>ql (by decide)<|by decide) λL ps2 ws2 hL hcl=>?_
 refine M0 (hcl.left (l:=3) (.inl<|y7 (by decide) hL) (λh=>Lg (h▸hL)<|by decide) (λH=>C) hcm) λwq base ps0 g1 g2 g3 g4 g5 g6=>?_
 have e3:Ir "=>"=3:=by decide
 refine su (n:=q+4) U' (s:="=>") (by decide) g1 (by refine rq e3 ?_;exact g2) g3 (by refine rq e3 ?_;exact g4) g5 g6 ?_
 refine rq e3 ?_
 refine kI U' hb (by decide) (cO hq) (znm hdp) (λhl=>wf (by decide)<|.inl<|oz hl) (λH H=>ql (by decide)<|by decide) λL ps3 ws3 hL hcl=>?_
 refine Hs hcl λwq e1 hcs hp=>?_
 clear hcm g4 g6;subst e1
 refine ze7 (n:=q+4) U' (λw hw=>by have:=hp.all w hw;exact znn hL this) hcs (My hcs) ?_
 refine kI U' hd (by decide) (cP hq) (zno hdp) (λhl=>wf (by decide) ?_) (λH H=>hf<|by decide) λL ps4 ws4 hL hcl=>z_ _ _<|hcl.push C (.inr ⟨hL,by decide⟩)<|by decide
 by_cases h:(3:g')=lv d
 ·exact .inr ⟨h,h▸(by decide)⟩
 ·exact .inl<|znp hl h
mutual
def rd (U':FE c):∀d:Nd,Wf d→RD c U d
 | .name x,w=>zfp U' w
 | .num k,w=>zkt U' w
 | .con x,w=>zks U' w
 | .un h a,w=>zr4 U' w.1 w.2<|rd U' a w.2
 | .bin s a b,w=>zku U' w.1 (rd U' a w.2.1)<|rd U' b w.2.2
 | .arrow l r a b,w=>zck U' w.1 w.2.1 w.2.2.2 (rd U' a w.2.2.1)<|rd U' b w.2.2.2
 | .box a as,w=>zkv U' (rd U' a w.1) w.2.2<|i9 U' as w.2.1
 | .ite a b d,w=>zkw U' (rd U' a w.1) (rd U' b w.2.1)<|rd U' d w.2.2
 | .quant x ds a,w=>zch U' w.1 w.2.2.2.1 w.2.2.1 (i_ U' ds w.2.1)<|rd U' a w.2.2.2.2
 | .lett x b a,w=>zfq U' w.1 (rd U' b w.2.1)<|rd U' a w.2.2
 | .block as,w=>zci U' w.2<|i9 U' as w.1
 | .compr ds a,w=>zcj U' w.2.2.1 w.2.1 (i_ U' ds w.1)<|rd U' a w.2.2.2
def i9 (U':FE c):∀as:D Nd,PX as→∀a∈as,Wf a∧RD c U a
 |[],_,_,h=>by cases h
 |b::as,w,a,h=>by
  rcases w3.mp h with e|h
  ·refine rq e ?_;exact⟨w.1,rd U' b w.1⟩
  ·exact i9 U' as w.2 a h
def rdD (U':FE c):∀d:Dc,PY d→RD c U (Nc d)
 | .mk dj xs mu a,w=>rd U' a w.2.2
def i_ (U':FE c):∀as:D Dc,MT as→∀a∈as,PY a∧RD c U (Nc a)
 |[],_,_,h=>by cases h
 |b::as,w,a,h=>by
  rcases w3.mp h with e|h
  ·refine rq e ?_;exact⟨w.1,rdD U' b w.1⟩
  ·exact i_ U' as w.2 a h
end
end
mutual namespace A
mutual
abbrev zn:Nd→MV
 | .name x=>.tup [.str OW,.int 0,.str x]
 | .num k=>.tup [.str au,.int 0,.int (k:Q)]
 | .con x=>.tup [.str x,.int 0]
 | .un h a=>.tup [.str av,.int 0,.str h,zn a]
 | .bin o a b=>.tup [.str Pq,.int 0,.str o,zn a,zn b]
 | .arrow l r a b=>.tup [.str NT,.int 0,.str l,.str r,zn a,zn b]
 | .box a as=>.tup [.str R6,.int 0,zn a,.tup<|N7 as]
 | .ite a b c=>.tup [.str na,.int 0,zn a,zn b,zn c]
 | .quant q ds a=>.tup [.str Pr,.int 0,.str q,.tup<|GO ds,zn a]
 | .lett x v a=>.tup [.str NU,.int 0,.str x,zn v,zn a]
 | .block as=>.tup [.str Nq,.int 0,.tup<|N7 as]
 | .compr ds a=>.tup [.str Ou,.int 0,.tup<|GO ds,zn a]
abbrev N7:D Nd→D MV
 |[]=>[]
 |a::as=>zn a::N7 as
abbrev TX:Dc→MV
 | .mk dj xs mu a=>.tup [.int 0,.bool dj,.tup<|xs.map .str,.str mu,zn a]
abbrev GO:D Dc→D MV
 |[]=>[]
 |a::as=>TX a::GO as
end
def aA:(N7 []=[])∧(∀(a:Nd) (as:D Nd),N7 (a::as)=zn a::N7 as):=⟨C,λH H=>C⟩
def Sl:(GO []=[])∧(∀(a:Dc) (as:D Dc),GO (a::as)=TX a::GO as):=⟨C,λH H=>C⟩
mutual
def Gr:∀d:Nd,IF d<|zn d
 | .name x=>⟨0,C⟩
 | .num k=>⟨0,C⟩
 | .con x=>⟨0,C⟩
 | .un h a=>⟨0,_,C,Gr a⟩
 | .bin o a b=>⟨0,_,_,C,Gr a,Gr b⟩
 | .arrow l r a b=>⟨0,_,_,C,Gr a,Gr b⟩
 | .box a as=>⟨0,_,_,C,Gr a,Mq as⟩
 | .ite a b c=>⟨0,_,_,_,C,Gr a,Gr b,Gr c⟩
 | .quant q ds a=>⟨0,_,_,C,Mz ds,Gr a⟩
 | .lett x v a=>⟨0,_,_,C,Gr v,Gr a⟩
 | .block as=>⟨0,_,C,Mq as⟩
 | .compr ds a=>⟨0,_,_,C,Mz ds,Gr a⟩
def Mq:∀as:D Nd,Nx as<|N7 as
 |[]=>rfl
 |a::as=>⟨_,_,C,Gr a,Mq as⟩
def aB:∀d:Dc,TL d<|TX d
 | .mk dj xs mu a=>⟨0,_,C,Gr a⟩
def Mz:∀as:D Dc,HK as<|GO as
 |[]=>rfl
 |a::as=>⟨_,_,C,aB a,Mz as⟩
end
mutual
def Sm:∀m:MV,m.eqb m=f'
 | .none=>rfl
 | .bool b=>beq_self_eq_true b
 | .int i=>Ll C
 | .str s=>Ll C
 | .tup l=>MA l
 | .ref a=>beq_self_eq_true a
def MA:∀l:D MV,MV.eqbL l l=f'
 |[]=>rfl
 |m::l=>w8.mpr ⟨Sm m,MA l⟩
end
abbrev Fd (k:Q) (m:MV):Prop:=m.flat=f'∧m.dep≤k
abbrev OH (k:Q) (l:D MV):Prop:=MV.flatL l=f'∧MV.depL l≤k
def OH.nil {k:Q}:OH k []:=⟨C,Q4 _⟩
def OH.cons {k:Q} {m:MV} {l:D MV} (h:Fd k m) (t:OH k l):OH k<|m::l:=⟨by simp[OM,h.1,t.1],Cm.mpr ⟨h.2,t.2⟩⟩
def OH.tup {k:Q} {l:D MV} (t:OH k l):Fd (k+1)<|.tup l:=⟨by simp only[MV.flat];exact t.1,by simp only[MV.dep];have:=t.2;exact JR this omT⟩
def Fd.mono {k k':Q} {m:MV} (h:Fd k m) (hk:k≤k'):Fd k' m:=⟨h.1,q0 h.2 hk⟩
def OH.mono {k k':Q} {m:D MV} (h:OH k m) (hk:k≤k'):OH k' m:=⟨h.1,q0 h.2 hk⟩
def zC {k:Q} {s:Sx}:Fd k<|.str s:=⟨C,Q4 _⟩
def qi {k:Q} {s:g'}:Fd k<|.int s:=⟨C,Q4 _⟩
def Qk {k:Q} {s:Ld}:Fd k<|.bool s:=⟨C,Q4 _⟩
def zfs {k:Q}:Fd k .none:=⟨C,Q4 _⟩
def yE {k:Q}:∀xs:D Sx,OH k<|xs.map .str
 |[]=>.nil
 |x::xs=>.cons zC<|yE xs
def zD {h k:Q} {l:D MV} (t:OH k l) (hk:k+1≤h):Fd h<|.tup l:=t.tup.mono hk
mutual
def Hf:∀d:Nd,Fd (4*ht d+1)<|zn d
 | .name x=>zD #[zC,qi,zC] (j2 _)
 | .num k=>zD #[zC,qi,qi] (j2 _)
 | .con x=>zD #[zC,qi] (j2 _)
 | .un h a=>zD #[zC,qi,zC,Hf a] (iH omT)
 | .bin o a b=>zD (k:=4*max (ht a) (ht b)+1) #[zC,qi,zC,(Hf a).mono<|ym omT,(Hf b).mono<|PI omT] (yn omT)
 | .arrow l r a b=>zD (k:=4*max (ht a) (ht b)+1) #[zC,qi,zC,zC,(Hf a).mono<|ym omT,(Hf b).mono<|PI omT] (yn omT)
 | .box a as=>zD (k:=4*max (ht a) (htL as)+2) #[zC,qi,(Hf a).mono<|ym omT,zD (Mr as)<|@RB _ _] (yn omT)
 | .ite a b c=>zD (k:=4*max (ht a) (max (ht b)<|ht c)+1) #[zC,qi,(Hf a).mono<|@RC _ _ _,(Hf b).mono<|@RE _ _ _,(Hf c).mono<|@RF _ _ _] ((@RG _ _ _))
 | .quant q ds a=>zD (k:=4*max (htDL ds) (ht a)+3) #[zC,qi,zC,zD (MB ds)<|@PM _ _,(Hf a).mono<|PI omT] (yn omT)
 | .lett x v a=>zD (k:=4*max (ht v) (ht a)+1) #[zC,qi,zC,(Hf v).mono<|ym omT,(Hf a).mono<|PI omT] (yn omT)
 | .block as=>zD (k:=4*htL as+2) #[zC,qi,zD (Mr as)<|j2 _] (iH omT)
 | .compr ds a=>zD (k:=4*max (htDL ds) (ht a)+3) #[zC,qi,zD (MB ds)<|@PM _ _,(Hf a).mono<|PI omT] (yn omT)
def Mr:∀as:D Nd,OH (4*htL as+1)<|N7 as
 |[]=>.nil
 |a::as=>.cons ((Hf a).mono<|ym omT)<|(Mr as).mono<|PI omT
def aC:∀d:Dc,Fd (4*htD d+2)<|TX d
 | .mk dj xs mu a=>zD (k:=4*ht a+1) #[qi,Qk,zD (yE xs)<|K6 1<|4*ht a,zC,Hf a] (j2 _)
def MB:∀as:D Dc,OH (4*htDL as+2)<|GO as
 |[]=>.nil
 |a::as=>.cons ((aC a).mono<|ym omT)<|(MB as).mono<|PI omT
end
def JC {l:D MV} {k:Q} (h:OH k l) (hk:k≤100):jE .ne (.tup l) (.tup l)=R La:=by
 have:(MV.eqbL l l&&MV.flatL l&&decide (MV.depL l≤100))=f':=by rw[MA,h.1,Ll<|q0 h.2 hk];rfl
 exact Lh this
def zcl {l:D MV} {k:Q} (h:OH k l) (hk:k≤100):Nn .eq l l=R f':=by
 have:(MV.eqbL l l&&MV.flatL l&&decide (MV.depL l≤100))=f':=by rw[MA,h.1,Ll<|q0 h.2 hk];rfl
 simp only[Nn,this,if_true]
end
mutual section
variable {n:Q}
abbrev NH (n f:Q) (ms rs:D MV):Prop:=F2 (λm r=>MP n f [FR m] r) ms rs
def NH.map {f:Q} {ms rs:D MV} (h:NH n f ms rs):Qu (λm=>(jh 0 m).bind λρc=>(E0 pg (EZ pg W n) (.call f #[Ff]) ρc).bind λ(y,_)=>y.dat) ms=R rs:=by
 exact vv<|F2.mono (λm H p=>bn (a:=[FR m]) C<|bn (zM (zf C Fk) C p) C) h
def sH {l:D MV} (h:l.length≤100000):aH .tuple (.l l)=R (.tup l):=kZ<|Ga h omT
def NH.tup {f:Q} {ms rs:D MV} {J ρ1:Ev} {e:X} {w:Vw} (h:NH n f ms rs) (hz:ms.length≤1000) (he:opn e (E0 pg (EZ pg W n) e) J=R (w,ρ1)) (hw:w.items=R ms):E0 pg (EZ pg W n) (.b1 .tuple<|.comp 0 e<|.call f #[Ff]) J=R (.d<|.tup rs,ρ1):=by
 exact jJ (w:=.l rs) (qg C (kV he hw (Ga hz omT) h.map) C)<|sH<|cQ (F2.len h:ms.length=rs.length) hz
def jW {a b:D MV} (h:a.length+b.length≤100000):Pi .add (.tup a) (.tup b)=R (.tup<|a++b):=Lh<|q0 h<|by rw[y_];decide
def Rv {n k:Q} (h:k+1≤n):∃q,n=q+1∧k≤q:=⟨n -1,(j'<|q0 (K6 1 k) h).symm,BE h⟩
def g9 {a q:Q} (h:3*(a+1)≤q):3*a+1≤q:=q0 (Q6 (by decide:1≤3) _) h
def Yw {a b q:Q} (h:3*(max a b+1)≤q):3*a+1≤q:=g9<|q0 (y' 3<|J2<|k_ a b) h
def Yx {a b q:Q} (h:3*(max a b+1)≤q):3*b+1≤q:=g9<|q0 (y' 3<|J2<|j8 a b) h
def sI {a b c q:Q} (h:3*(max a (max b c)+1)≤q):3*(max b c+1)≤q:=q0 (y' 3<|J2<|j8 _ _) h
def sJ {a b q:Q} (h:3*(max a b+1)≤q):∃r,q=r+1∧3*a+1≤r∧3*b+1≤r+1:=dn 1 (q0 (K6 1 _)<|g9 h) λr e=>⟨r,e,Y4<|q0 (q0 (Q6 (by decide:2≤3) _)<|y' 3<|J2<|k_ a b) (e▸h:3*(max a b+1)≤r+1),e▸Yx h⟩
nonrec abbrev g_ (d:Nd):Prop:=∀(m:MV) (n:Q),IF d m→Wf d→3*ht d+1≤n→MP n 82 [FR m] (zn d)
def vY {as:D Nd} (z_:∀a∈as,g_ a):∀{ms:D MV} {n:Q},Nx as ms→PX as→3*htL as+1≤n→NH n 82 ms (N7 as):=by
 induction as with
 |nil=>exact λhs w hn=>by subst hs;exact .nil
 |cons a as ih=>exact λhs w hn=>Fv hs λm ms' e ha ht=>by clear hs;subst e;exact .cons (z_ a (j0 ..) _ _ ha w.1<|n_ (hn:3*max _ _+1≤_) omT)<|ih (λb hb=>z_ b<|q_ _ hb) ht w.2<|oa (hn:3*max _ _+1≤_) omT
nonrec abbrev sK:X:=.bin .add (.bin .add (.tupD #[EY 0])<|.slc Ff (EY 1)<|EY 4)<|.tupD #[.call 82 #[.idx Ff<|EY 4]]
def Yy {d:Dc} {m:MV} {n:Q} (z_:g_<|Nc d) (h:TL d m) (w:PY d) (hn:3*htD d+1≤n):E0 pg (EZ pg W n) sK [FR m]=R (.d<|TX d,[FR m]):=by
 cases d with
 |mk dj xs mu a=>exact F4 h λs ma e ha=>by clear h;subst e;exact zY (zY C (jI C C C C)<|jW<|FQ omT) (zr (za (zM (zf C Fk) C<|z_ _ _ ha w.2.2 hn) Fb) C)<|jW<|FQ omT
def JD {as:D Dc} (z_:∀d∈as,g_<|Nc d):∀{ms:D MV} {n:Q},HK as ms→MT as→3*htDL as+1≤n→F2 (λm x=>((jh 0 m).bind λρc=>(E0 pg (EZ pg W n) sK ρc).bind λ(y,_)=>y.dat)=R x) ms (GO as):=by
 induction as with
 |nil=>exact λhs w hn=>by subst hs;exact .nil
 |cons a as ih=>exact λhs w hn=>Fv hs λm ms' e ha ht=>by clear hs;subst e;exact .cons (bn (a:=[FR m]) C<|bn (Yy (z_ a<|j0 ..) ha w.1<|n_ (hn:3*max _ _+1≤_) omT) C)<|ih (λb hb=>z_ b<|q_ _ hb) ht w.2<|oa (hn:3*max _ _+1≤_) omT
def wV {as:D Dc} (z_:∀d∈as,g_<|Nc d) {ms:D MV} {n:Q} (hs:HK as ms) (w:MT as) (hl:as.length≤2) (hn:3*htDL as+1≤n):MP (n+1) 83 [FI ms]<|.tup<|GO as:=
 have h:=JD (n:=n) z_ hs w hn
 zd (F:=H_) C C (zw<|jJ (w:=.l<|GO as) (qg C (kV (w:=.d<|.tup ms) C C (Ua hl<|G8 hs)<|vv h) C)<|sH<|cR (G8 hs) (F2.len h) hl) C
def wg (d:Nd):g_ d:=by
 induction d using Nd.ind with
 |name x=>exact λm n hd w hn=>Fg hd λs e=>E7 (Rv hn) λq f H=>by subst e;subst f;rfl
 |num x=>exact λm n hd w hn=>Fg hd λs e=>E7 (Rv hn) λq f H=>by subst e;subst f;rfl
 |con x=>exact λm n hd w hn=>Fg hd λs e=>E7 (Rv hn) λq f H=>by clear H;subst e;subst f;replace w:x∈IN:=w;simp only[IN,w3,Z_,or_false]at w;rcases w with C|rfl|rfl<;>rfl
 |un h a iha=>exact λm n hd w hn=>F4 hd λs ma e ha=>E7 (Rv hn) λq f hq=>by subst e;subst f;exact zd (F:=FW) C C (zt C C<|zb C<|zb C<|zG C<|(zY C (NH.tup #[iha _ _ ha w.2<|g9 hq] (FQ omT) (qg C (jI C C C C) C) C)<|jW<|FQ omT)) C
 |bin o a b iha ihb=>exact λm n hd w hn=>Gm hd λs ma mb e ha hb=>E7 (Rv hn) λq f hq=>by subst e;subst f;exact zd (F:=FW) C C (zt C C<|zb C<|zb C<|zG C<|(zY C (NH.tup #[iha _ _ ha w.2.1<|Yw hq,ihb _ _ hb w.2.2<|Yx hq] (FQ omT) (qg C (jI C C C C) C) C)<|jW<|FQ omT)) C
 |arrow l r a b iha ihb=>exact λm n hd w hn=>Gm hd λs ma mb e ha hb=>E7 (Rv hn) λq f hq=>by subst e;subst f;exact zd (F:=FW) C C (zt C C<|zb C<|zb C<|zb C<|zG C<|(zr (za C<|za C<|za C<|za C<|za (zM (zf C Fk) C<|iha _ _ ha w.2.2.1<|Yw hq)<|za (zM (zf C Fk) C<|ihb _ _ hb w.2.2.2<|Yx hq) Fb) C)) C
 |box a as iha ihs=>exact λm n hd w hn=>Gm hd λs ma ms e ha hs=>E7 (Rv hn) λq f hq=>by subst e;subst f;exact zd (F:=FW) C C (zt C C<|zb C<|zb C<|zb C<|zb C<|zG C<|(zr (za C<|za C<|za (zM (zf C Fk) C<|iha _ _ ha w.1<|Yw hq)<|za ((vY ihs hs w.2.1<|Yx hq).tup (Rd w.2.2<|Ij hs) (qg C C C) C) Fb) C)) C
 |ite a b c iha ihb ihc=>exact λm n hd w hn=>OL hd λs ma mb mc e ha hb U'=>E7 (Rv hn) λq f hq=>by subst e;subst f;exact zd (F:=FW) C C (zt C C<|zb C<|zb C<|zb C<|zb C<|zb C<|zG C<|(zY C (NH.tup #[iha _ _ ha w.1<|Yw hq,ihb _ _ hb w.2.1<|Yw<|sI hq,ihc _ _ U' w.2.2<|Yx<|sI hq] (FQ omT) (qg C (jI C C C C) C) C)<|jW<|FQ omT)) C
 |quant q' ds a ihs iha=>exact λm n hd w hn=>Gm hd λs ms ma e hs ha=>E7 (Rv hn) λq f hq=>Hs (sJ hq) λr g Y T'=>by subst e;subst f;subst g;exact zd (F:=FW) C C (zt C C<|zb C<|zb C<|zb C<|zb C<|zb C<|zb C<|zG C<|(zr (za C<|za C<|za C<|za (zM (zf C Fk) C<|wV ihs hs w.2.1 w.2.2.1 Y)<|za (zM (zf C Fk) C<|iha _ _ ha w.2.2.2.2 T') Fb) C)) C
 |lett x v a ihv iha=>exact λm n hd w hn=>Gm hd λs mv ma e hv ha=>E7 (Rv hn) λq f hq=>by subst e;subst f;exact zd (F:=FW) C C (zt C C<|zb C<|zb C<|zG C<|(zY C (NH.tup #[ihv _ _ hv w.2.1<|Yw hq,iha _ _ ha w.2.2<|Yx hq] (FQ omT) (qg C (jI C C C C) C) C)<|jW<|FQ omT)) C
 |block as ihs=>exact λm n hd w hn=>F4 hd λs ms e hs=>E7 (Rv hn) λq f hq=>by subst e;subst f;exact zd (F:=FW) C C (zt C C<|zb C<|zb C<|zb C<|zb C<|zb C<|zb C<|zb C<|zb C<|zw<|(zr (za C<|za C<|za ((vY ihs hs w.1<|g9 hq).tup (Rd w.2<|Ij hs) (qg C C C) C) Fb) C)) C
 |compr ds a ihs iha=>exact λm n hd w hn=>Gm hd λs ms ma e hs ha=>E7 (Rv hn) λq f hq=>Hs (sJ hq) λr g Y T'=>by clear hd;subst e;clear hn hq;subst f;subst g;exact zd (F:=FW) C C (zt C C<|zb C<|zb C<|zb C<|zb C<|zb C<|zb C<|zb C<|zG C<|(zr (za C<|za C<|za (zM (zf C Fk) C<|wV ihs hs w.1 w.2.1 Y)<|za (zM (zf C Fk) C<|iha _ _ ha w.2.2.2 T') Fb) C)) C
nonrec abbrev aD:MV→Lc Ld:=λm=>isTup m λH=>Z
inductive Tz:Q→Q→D MV→Prop where
 |nil {s k:Q}:Tz s k []
 |atom {s k:Q} {m:MV} {l:D MV}:aD m=R La→Tz s k l→Tz s k (m::l)
 |tup {s1 s2 s k:Q} {x l:D MV}:Tz s1 k x→Tz s2 (k+1) l→s1+s2+1≤s→Tz s (k+1) (.tup x::l)
def Tz.mono {s k s' k':Q} {l:D MV} (h:Tz s k l) (hs:s≤s') (hk:k≤k'):Tz s' k' l:=by
 induction h generalizing s' k' with
 |nil=>exact .nil
 |atom h _ ih=>exact .atom h<|ih hs hk
 |tup Y T' h3 ih1 ih2=>
  clear Y T';obtain⟨j,C⟩:∃j,k'=j+1:=⟨k' -1,znq hk⟩
  exact .tup (ih1 (j2 _)<|cS hk) (ih2 (j2 _) hk)<|cT hs h3
def Tz.app {s1 s2 k:Q} {a b:D MV} (h:Tz s1 k a) (T':Tz s2 k b):Tz (s1+s2) k<|a++b:=by
 induction h with
 |nil=>exact T'.mono (@Uu _ _)<|j2 _
 |atom h _ ih=>exact .atom h<|ih T'
 |tup Y h2' h3 ih1 ih2=>exact .tup Y (ih2 T')<|cU h3
def Tz.con {s1 s2 s k:Q} {m:MV} {l:D MV} (h:Tz s1 k [m]) (t:Tz s2 k l) (hs:s1+s2≤s):Tz s k<|m::l:=(h.app t).mono hs<|j2 _
nonrec abbrev hG (l:D MV):Prop:=∀m∈l,∃x,m=.tup x
def Tz.filt {s k:Q} {l:D MV} (h:Tz s k l):(l.all λm=>(aD m).isSome)=f'∧Tz s k (l.filter λm=>(aD m).getD La)∧hG (l.filter λm=>(aD m).getD La)∧(l.filter λm=>(aD m).getD La).length≤s:=by
 induction h with
 |nil=>exact⟨C,.nil,λm h=>by simp at h,Q4 _⟩
 |atom h _ ih=>
  obtain⟨a,b,c,d⟩:=ih
  simp only[DO,h,CI,Y8,X',X7,BQ,if_false]
  exact⟨a,b,c,d⟩
 |@tup s1 s2 s k x l Y T' h3 ih1 ih2=>
  obtain⟨a,b,c,d⟩:=ih2
  have e:aD (.tup x)=R f':=C
  simp only[DO,e,CI,Y8,X',X7,if_true]
  refine⟨a,.tup Y b h3,λm hm=>?_,by simp;exact cV h3 d⟩
  clear Y T' h3 ih1 a b d e;rcases w3.mp hm with C|hm
  ·exact⟨_,C⟩
  ·exact c m hm
def zcp {s k:Q} {l:D MV} (h:Tz s (k+1) l) (ha:hG l):∃l',MJ l=R l'∧Tz s k l'∧hG l'∧l'.length≤s:=by
 generalize hk:k+1=k1 at h
 induction h with
 |nil=>exact⟨[],C,.nil,λm h=>(by cases h),Q4 _⟩
 |@atom s k2 m l h _ ih=>
  clear ih;obtain⟨x,C⟩:=ha m<|j0 ..
  cases h
 |@tup s1 s2 s k2 x l Y T' h3 ih1 ih2=>
  clear T' ih1;obtain C:k=k2:=by exact znr hk
  obtain⟨l',e,ht,hat,hl⟩:=ih2 (λm hm=>ha m<|q_ _ hm) C
  obtain⟨a,b,c,d⟩:=Y.filt
  refine⟨(x.filter λm=>(aD m).getD La)++l',?_,(b.app ht).mono (cW h3)<|j2 _,λm hm=>?_,by refine rq q8 ?_;exact cX h3 hl d⟩
  ·simp only[MJ,a,if_true,e,BC]
  ·rcases Dj.mp hm with hm|hm
   ·exact c m hm
   ·exact hat m hm
def Yz {s:Q} {l:D MV} (h:Tz s 0 l) (ha:hG l):l=[]:=by
 cases h with
 |nil=>rfl
 |@atom s k m l h _=>
  clear a;obtain⟨x,C⟩:=ha m<|j0 ..
  clear ha;cases h
nonrec abbrev thT:X:=.and (.cmp .gt (.b1 .len Fe)<|EY 0)<|.cmp .le FD<|.glb<|.int 120
nonrec abbrev thB:S:=#v[.asg 1<|.flat Fe,.aug 2 .add<|EY 1]
def zft {s:Q} (hs:s≤10000) {m:Lc Th} (k:Q):∀(l:D MV) (j z8:Q),Tz s k l→hG l→l.length≤10001→j+k≤120→k<z8→
  ∃i:Q,i≤j+k∧qj (E0 pg (EZ pg W n) thT) (Fc pg (EZ pg W n) W 1 thB) z8 [m,E4 l,E9 j]=R (.nx,[m,E4 [],E9 i]):=by
 induction k with
 |zero=>
  intro l j z8 h ha hl hj hN
  obtain⟨z8,C,h0⟩:=qr hN
  obtain C:=Yz h ha
  exact⟨j,lJ omT,qn<|zu<|vE (l:=[]) (o:=.nil) (j:=1) (by decide) C⟩
 |succ k ih=>
  intro l j z8 h ha hl hj hN
  obtain⟨z8,C,h0⟩:=qr hN
  by_cases he:l=[]
  ·subst he
   exact⟨j,by exact(@Uv _ _),qn<|zu<|vE (l:=[]) (o:=.nil) (j:=1) (by decide) C⟩
  ·obtain⟨l',e,ht,hat,hl'⟩:=zcp h ha
   obtain⟨i,hi,hr⟩:=ih l' (j+1) z8 ht hat (vb hs hl' omT) (WY hj omT) h0
   have T':E0 pg (EZ pg W n) (.cmp .le FD<|.glb<|.int 120) [m,E4 l,E9 j]=R (.d<|.bool<|decide ((j:g')≤120),[m,E4 l,E9 j]):=C
   rw[Ll<|zns hj]at T'
   refine⟨i,cY hi,qf (ρ1:=[m,E4 l,E9 j]) (zi (vE (l:=l) (o:=.nil) (j:=1) (Ga hl omT) C|>.trans ?_) T') (ρ2:=[m,E4 l',E9 ((j+1:Q):g')]) ?_ hr⟩
   ·exact rq (Ll<|CJ.mpr he) C
   ·refine zc (zk (ρ1:=[m,E4 l,E9 j]) (v:=.l l') ?_ C C)<|zc C E8
    refine(?_:((MJ l).bind λr=>if r.length≤1000000∧l.length≤1000000 then R (Th.l r,[m,E4 l,E9 j])else Z)=_)
    refine rq e ?_;simp only[B2];exact rq (Lh<|znt hs hl hl') C
def WK {s k:Q} {x:D MV} (h:Tz s k [.tup x]) (hs:s≤10000) (hk:k≤100):MP (n+1) 18 [FI x]<|.bool La:=by
 obtain⟨i,hi,hr⟩:=zft (n:=n) hs (m:=FI x) k [.tup x] 0 W h (λm hm=>⟨x,by simpa using hm⟩) (by simp) (lE hk omT)<|JP hW hk omT
 refine zd (F:=MM) (J:=[FI x,E4 [],E9 i]) C C (zc (qA (ρ1:=[FI x,Z,Z]) (vs:=[.l [.tup x],.d<|.int 0]) C C)<|jo hr<|zw<|qt C C ?_) C
 refine(?_:R (decide ((120:g')<i))=R La)
 exact rq (Lk<|znu hk hi) C
end
mutual namespace A
abbrev tS:Q→Q
 |0=>1
 |h+1=>3*tS h+10
def tSE:(tS 0=1)∧(∀(h:Q),tS (h+1)=3*tS h+10):=⟨C,λH=>C⟩
def zT {a b:Q} (h:a≤b):tS a≤tS b:=by
 induction h with
 |refl=>exact j2 _
 |step _ ih=>simp only[tSE];exact t5 ih omT
def zy {s k S K:Q} {l:D MV} (h:Tz s k l) (hs:s+1≤S) (hk:k+1≤K):Tz S K [.tup l]:=(Tz.tup (s:=s+0+1) h (.nil (s:=0))<|j2 _).mono (cZ hs) hk
def yF {s k:Q}:∀xs:D Sx,Tz s k<|xs.map .str
 |[]=>.nil
 |x::xs=>.atom C<|yF xs
mutual
def OI:∀(d:Nd) {m:MV},IF d m→Wf d→Tz (tS<|ht d) (4*ht d+1) [m]
 | .name x,m,hd,w=>by obtain⟨s,C⟩:=hd;exact zy (s:=0) (k:=0) (.atom C<|.atom C<|.atom C .nil) (j2 _)<|j2 _
 | .num x,m,hd,w=>by obtain⟨s,C⟩:=hd;exact zy (s:=0) (k:=0) (.atom C<|.atom C<|.atom C .nil) (j2 _)<|j2 _
 | .con x,m,hd,w=>by obtain⟨s,C⟩:=hd;exact zy (s:=0) (k:=0) (.atom C<|.atom C .nil) (j2 _)<|j2 _
 | .un h a,m,hd,w=>by
  obtain⟨s,ma,C,ha⟩:=hd
  exact zy (.atom C<|.atom C<|.atom C<|OI a ha w.2) ((@Ux _))<|iH omT
 | .bin o a b,m,hd,w=>by
  obtain⟨s,ma,mb,C,ha,hb⟩:=hd
  exact zy (.atom C<|.atom C<|.atom C<|.con ((OI a ha w.2.1).mono (zT<|k_ (ht a)<|ht b) (k':=4*max (ht a) (ht b)+1)<|ym omT) ((OI b hb w.2.2).mono (zT<|j8 (ht a)<|ht b) (k':=4*max (ht a) (ht b)+1)<|PI omT)<|j2 _) ((@Pd _))<|yn omT
 | .arrow l r a b,m,hd,w=>by
  obtain⟨s,ma,mb,C,ha,hb⟩:=hd
  exact zy (.atom C<|.atom C<|.atom C<|.atom C<|.con ((OI a ha w.2.2.1).mono (zT<|k_ (ht a)<|ht b) (k':=4*max (ht a) (ht b)+1)<|ym omT) ((OI b hb w.2.2.2).mono (zT<|j8 (ht a)<|ht b) (k':=4*max (ht a) (ht b)+1)<|PI omT)<|j2 _) ((@Pd _))<|yn omT
 | .box a as,m,hd,w=>by
  obtain⟨s,ma,ms,C,ha,hs⟩:=hd
  exact zy (.atom C<|.atom C<|.con ((OI a ha w.1).mono (zT<|k_ (ht a)<|htL as) (k':=4*max (ht a) (htL as)+2)<|ym omT) (zy (S:=2*tS (max (ht a)<|htL as)+1) (K:=4*max (ht a) (htL as)+2) (lc as hs w.2.1) (Tj (Bs w.2.2 (zT<|j8 _ _):as.length*tS (htL as)≤2*tS (max (ht a)<|htL as)))<|@RB _ _)<|j2 _) ((@Uy _))<|yn omT
 | .ite a b c,m,hd,w=>by
  refine cps λGG kk=>?_
  obtain⟨s,ma,mb,mc,C,ha,hb,U'⟩:=hd
  refine kk ?_
  exact zy (.atom C<|.atom C<|.con ((OI a ha w.1).mono (s':=tS<|max (ht a)<|max (ht b)<|ht c) (zT<|@Uz _ _ _) (k':=4*max (ht a) (max (ht b)<|ht c)+1)<|@RC _ _ _) (.con ((OI b hb w.2.1).mono (s':=tS<|max (ht a)<|max (ht b)<|ht c) (zT<|@UA _ _ _) (k':=4*max (ht a) (max (ht b)<|ht c)+1)<|@RE _ _ _) ((OI c U' w.2.2).mono (s':=tS<|max (ht a)<|max (ht b)<|ht c) (zT<|@UB _ _ _) (k':=4*max (ht a) (max (ht b)<|ht c)+1)<|@RF _ _ _)<|j2 _)<|j2 _) ((@UC _))<|(@RG _ _ _)
 | .quant q ds a,m,hd,w=>by
  obtain⟨s,ms,ma,C,hs,ha⟩:=hd
  exact zy (.atom C<|.atom C<|.atom C<|.con (zy (S:=2*(tS (max (htDL ds)<|ht a)+2)+1) (K:=4*max (htDL ds) (ht a)+3) (SY ds hs w.2.1) (Tl (Bs w.2.2.1 (JR (zT (k_ _ _):tS (htDL ds)≤tS (max (htDL ds)<|ht a)) omT):ds.length*(tS (htDL ds)+2)≤2*(tS (max (htDL ds)<|ht a)+2)))<|@PM _ _) ((OI a ha w.2.2.2.2).mono (zT<|j8 (htDL ds)<|ht a) (k':=4*max (htDL ds) (ht a)+3)<|PI omT)<|j2 _) ((@RH _))<|yn omT
 | .lett x v a,m,hd,w=>by
  obtain⟨s,mv,ma,C,hv,ha⟩:=hd
  exact zy (.atom C<|.atom C<|.atom C<|.con ((OI v hv w.2.1).mono (zT<|k_ (ht v)<|ht a) (k':=4*max (ht v) (ht a)+1)<|ym omT) ((OI a ha w.2.2).mono (zT<|j8 (ht v)<|ht a) (k':=4*max (ht v) (ht a)+1)<|PI omT)<|j2 _) ((@Pd _))<|yn omT
 | .block as,m,hd,w=>by
  obtain⟨s,ms,C,hs⟩:=hd
  exact zy (.atom C<|.atom C<|zy (S:=2*tS (htL as)+1) (K:=4*htL as+2) (lc as hs w.1) (Tj (Z' _ w.2:as.length*tS (htL as)≤2*tS (htL as)))<|j2 _) (tT omT)<|iH omT
 | .compr ds a,m,hd,w=>by
  obtain⟨s,ms,ma,C,hs,ha⟩:=hd
  exact zy (.atom C<|.atom C<|.con (zy (S:=2*(tS (max (htDL ds)<|ht a)+2)+1) (K:=4*max (htDL ds) (ht a)+3) (SY ds hs w.1) (Tl (Bs w.2.1 (JR (zT (k_ _ _):tS (htDL ds)≤tS (max (htDL ds)<|ht a)) omT):ds.length*(tS (htDL ds)+2)≤2*(tS (max (htDL ds)<|ht a)+2)))<|@PM _ _) ((OI a ha w.2.2.2).mono (zT<|j8 (htDL ds)<|ht a) (k':=4*max (htDL ds) (ht a)+3)<|PI omT)<|j2 _) ((@RH _))<|yn omT
def lc:∀(as:D Nd) {ms:D MV},Nx as ms→PX as→Tz (as.length*tS (htL as)) (4*htL as+1) ms
 |[],ms,hs,w=>by subst hs;exact .nil
 |a::as,ms,hs,w=>by
  obtain⟨m,ms',C,ha,hs⟩:=hs
  refine .con ((OI a ha w.1).mono (zT<|k_ (ht a)<|htL as) (k':=4*max (ht a) (htL as)+1)<|ym omT) ((lc as hs w.2).mono (y' _ (zT<|j8 _ _):as.length*tS (htL as)≤as.length*tS (max (ht a)<|htL as))<|PI omT) ?_
  simp only[ng,j1,Br];exact(@UD _ _)
def tzD:∀(d:Dc) {m:MV},TL d m→PY d→Tz (tS (htD d)+2) (4*htD d+2) [m]
 | .mk dj xs mu a,m,hd,w=>by
  obtain⟨s,ma,C,ha⟩:=hd
  exact zy (.atom C<|.atom C<|.con (zy (s:=0) (k:=0) (S:=1) (K:=4*ht a+1) (yF xs) (FQ omT)<|@UE _) (.atom C<|OI a ha w.2.2)<|j2 _) ((@UF _))<|j2 _
def SY:∀(as:D Dc) {ms:D MV},HK as ms→MT as→Tz (as.length*(tS (htDL as)+2)) (4*htDL as+2) ms
 |[],ms,hs,w=>by subst hs;exact .nil
 |a::as,ms,hs,w=>by
  obtain⟨m,ms',C,ha,hs⟩:=hs
  refine .con ((tzD a ha w.1).mono (s':=tS (max (htD a)<|htDL as)+2) (JR (zT<|k_ (htD a)<|htDL as) omT) (k':=4*max (htD a) (htDL as)+2)<|ym omT) ((SY as hs w.2).mono (y' _ (JR (zT<|j8 (htD a)<|htDL as) omT):as.length*(tS (htDL as)+2)≤as.length*(tS (max (htD a)<|htDL as)+2))<|PI omT) ?_
  simp only[gQ,j1,Br];exact(@UG _ _)
end
def WL {d:Nd} {m:MV} (h:IF d m):∃x,m=.tup x:=by
 cases d with
 |name|num|con=>exact Fg h λs e=>⟨_,e⟩
 |un|block=>exact F4 h λs a e H=>⟨_,e⟩
 |ite=>exact OL h λs a b c e H H H=>⟨_,e⟩
 |_=>exact Gm h λs a b e H H=>⟨_,e⟩
def P_:∀ps:D Pc,Sb ps→ps.length≤(flat ps).length
 |[],_=>j2 _
 |p::ps,h=>by
  have T':1≤p.str.length:=by
   have:=h.1
   induction p with
   |bl c=>exact j2 _
   |nm s=>obtain⟨-,⟨c,r,C,-⟩,-⟩:=this;simp[Pc.str]
   |nu s=>exact CJ.mpr this.1
   |sg s=>
    exact(by decide:∀s∈NV,1≤s.length) s this.1
  simp only[F9,q8,j1];exact c0 T'<|P_ ps h.2
def zcq (ps:D Pc):(toks ps).length≤ps.length:=D.length_filterMap_le ..
end
mutual section
variable {n c:Q}
def WM {ps:D Pc} (ho:Sb ps) (hx:(flat ps).length≤100000):∃U,E2 U 0 (toks ps++[(FG,[])])∧EZ pg W (n+5) 28 [E6<|flat ps]=R (.l U,[E6<|flat ps]):=by
 have Y:=P_ ps ho
 refine E7 (Yn (n:=n) ho hx<|vb hx Y omT) λU hf hr=>?_
 refine⟨U,⟨by simpa using hf,?_,_,C⟩,hr⟩
 have:=F2.len hf
 simp at this;exact c9 this (zcq ps) Y hx
def zkx {P:Pg} {cl:HM} {f:Q} {es:X} {J ρ1:Ev} {l:D MV} (h:E0 P cl (.call f es) J=R (.l l,ρ1)):kM (.call f es) (E0 P cl<|.call f es) f' J=R (.v<|.l l,ρ1):=by
 simp only[kM,h,B2,if_true]
def zfu {U:D MV} (U':FE c):EZ pg W (n+1) 29 [R<|.o c [],E4 U]=R (.d .none,[pr c U 0 0,Z]):=by
 rcases U' with C|rfl<;>exact jx (F:=HN) C C (zc (xe C C C)<|zc (xe C C C)<|zc (xe C C C) E8) C
def sL (U':FE c) {x:Sx} {U:D MV} {J:Ev} (h:EZ pg W (n+1) 28 [E6 x]=R (.l U,[E6 x])):E0 pg (EZ pg W<|n+1) (.new c #[.call 28 #[Ff]]) (E6 x::J)=R (.o c [.l U,.d<|.int (0:Q),.d<|.int 0],E6 x::J):=
 rE (P:=pg) (f:=29) (c:=c) (as:=[.v<|.l U]) (ts':=[Z]) (zf (zkx<|qP C C h C) Fk) (by rcases U' with C|rfl<;>rfl) C (zfu U') C
def zcs {d:Nd} (w:Wf d) (h3:ht d≤3) (hn:55≤n):∃m,IF d m∧EZ pg W (n+1) 69 [E6<|pp d]=R (.d m,[E6<|pp d]):=by
 refine cps λGG kk=>?_
 obtain⟨q,C⟩:=IH 5 hn C
 have hok:Sb<|Ge d:=Pt<|(Jr d w).ok Z Pu
 obtain⟨U,v,hr⟩:=WM (n:=q) hok (by have:(flat<|Ge d).length=(pp d).length:=C;exact c_ this (aO (IO d w) h3))
 refine Fv (wE (c:=2) (U:=U) (k:=7) (n:=q+5) (fl:=[(FG,[])]) (.inl C) (rd (.inl C) d w) (znv h3) (da hn h3) Sj (λH=>SV) 0 0 (by decide) v) λm p hm v1 hx=>?_
 refine Fg (WL hm) λx e1=>?_
 subst e1
 refine kk ?_
 refine⟨_,hm,?_⟩
 exact zd (F:=Mi) C C (zc (zk (sL (n:=q+4) (c:=2) (J:=[Z,Z]) (.inl C) hr) C C:Fc pg (EZ pg W<|q+5) W 1 (.asg 1<|.new 2 #[.call 28 #[Ff]]) [E6<|pp d,Z,Z]=R (.nx,[E6<|pp d,pr 2 U 0 0,Z]))<|zc (zk (zU (c:=2) (f:=41) C C C hx C) C C:Fc pg (EZ pg W<|q+5) W 1 (.asg 2<|.meth 1 20 .nil) [E6<|pp d,pr 2 U 0 0,Z]=R (.nx,[E6<|pp d,pr 2 U p 0,FI x]))<|zc (zR (ze C (zU (c:=2) (f:=30) C C C (vA (n:=q+4) (dp:=0) (c:=2) (.inl C) v1) C) C C C) E8:Fc pg (EZ pg W<|q+5) W 1 (.ite (.cmp .ne (.meth 1 9 .nil)<|Da HG) #v[.bad] .skip) [E6<|pp d,pr 2 U p 0,FI x]=R (.nx,[E6<|pp d,pr 2 U p 0,FI x]))<|zc (zR (qP C C (WK (n:=q+4) (OI d hm w) (q0 (zT h3)<|by decide)<|db h3) C) E8:Fc pg (EZ pg W<|q+5) W 1 (.ite (.call 18 #[FD]) #v[.bad] .skip) [E6<|pp d,pr 2 U p 0,FI x]=R (.nx,[E6<|pp d,pr 2 U p 0,FI x]))<|zw C) C
end
mutual namespace A
nonrec abbrev IY:Sx:=HQ
nonrec abbrev HV:Sx:=G2
nonrec abbrev Ik:Sx:=HR
nonrec abbrev GJ:Sx:=GI
nonrec abbrev HP:Sx:=HS
nonrec abbrev HW:Sx:=Ma
nonrec abbrev O5:Sx:="run"
nonrec abbrev Ms:Sx:=H0
nonrec abbrev IZ:Sx:=Hj
nonrec abbrev G0:Sx:=Io
nonrec abbrev Mt:Sx:="Hat"
nonrec abbrev I5:Sx:="Top"
nonrec abbrev Nj:Sx:="told"
nonrec abbrev wP:Sx:="p"
nonrec abbrev wF:Sx:="f"
nonrec abbrev wO:Sx:="o"
nonrec abbrev hH:Sx:="as"
nonrec abbrev NI:Sx:=GA
nonrec abbrev aE:Sx:=H1
nonrec abbrev hK:Sx:="in"
nonrec abbrev O6:Sx:="for"
nonrec abbrev O8:Sx:="but"
nonrec abbrev SZ:Sx:=Hh
nonrec abbrev PF:Sx:=Ix
nonrec abbrev MQ:=Ld×Q×Sx
inductive It where
 |opn (al:Sx)
 |sig (xs:D Sx) (ab:Ld) (mu par:Sx) (sup:D Sx) (fs:D Dc) (as:D Nd)
 |fact (nm:Sx) (as:D Nd)
 |asrt (as:D Nd)
 |pred (ps:D Dc) (as:D Nd)
 |func (ps:D Dc) (mu:Sx) (r b:Nd)
 |cmd (k:Sx) (as:Lc<|D Nd) (df:g') (ns:D MQ) (ex:g')
abbrev MW (x:MQ):MV:=.tup [.bool x.1,.int (x.2.1:Q),.str x.2.2]
abbrev nP:Lc (D Nd)→MV→Prop
 |Z,m=>m=.none
 |R as,m=>∃ms,m=.tup ms∧Nx as ms
abbrev MG:Lc (D Nd)→Sx
 |Z=>wP
 |R _=>[]
abbrev Rw:It→MV→Prop
 | .opn al,m=>∃s:g',m=.tup [.str IY,.int s,.str IZ,.tup [.str G0],.str al]
 | .sig xs ab mu par sup fs as,m=>∃(s:g') (mf ma:D MV),m=.tup [.str HV,.int s,.tup<|xs.map .str,.bool ab,.str mu,.str par,.tup<|sup.map .str,.tup mf,.tup ma]∧HK fs mf∧Nx as ma
 | .fact nm as,m=>∃(s:g') (ma:D MV),m=.tup [.str Ik,.int s,.str nm,.tup ma]∧Nx as ma
 | .asrt as,m=>∃(s:g') (ma:D MV),m=.tup [.str GJ,.int s,.str Nj,.tup ma]∧Nx as ma
 | .pred ps as,m=>∃(s:g') (mp ma:D MV),m=.tup [.str HP,.int s,.str wP,.tup mp,.tup ma]∧HK ps mp∧Nx as ma
 | .func ps mu r b,m=>∃(s:g') (mp:D MV) (mr mb:MV),m=.tup [.str HW,.int s,.str wF,.tup mp,.str mu,mr,mb]∧HK ps mp∧IF r mr∧IF b mb
 | .cmd k as df ns ex,m=>∃(s:g') (ma:MV),m=.tup [.str k,.int s,.str<|MG as,ma,.tup [.int df,.tup<|ns.map MW],.int ex]∧nP as ma
abbrev zO:Lc (D Nd)→MV
 |Z=>.none
 |R as=>.tup<|N7 as
abbrev zI:It→MV
 | .opn al=>.tup [.str IY,.int 0,.str IZ,.tup [.str G0],.str al]
 | .sig xs ab mu par sup fs as=>.tup [.str HV,.int 0,.tup<|xs.map .str,.bool ab,.str mu,.str par,.tup<|sup.map .str,.tup<|GO fs,.tup<|N7 as]
 | .fact nm as=>.tup [.str Ik,.int 0,.str nm,.tup<|N7 as]
 | .asrt as=>.tup [.str GJ,.int 0,.str Nj,.tup<|N7 as]
 | .pred ps as=>.tup [.str HP,.int 0,.str wP,.tup<|GO ps,.tup<|N7 as]
 | .func ps mu r b=>.tup [.str HW,.int 0,.str wF,.tup<|GO ps,.str mu,zn r,zn b]
 | .cmd k as df ns ex=>.tup [.str k,.int 0,.str<|MG as,zO as,.tup [.int df,.tup<|ns.map MW],.int ex]
def hO:∀as:Lc<|D Nd,nP as<|zO as
 |Z=>rfl
 |R as=>⟨_,C,Mq as⟩
def Sn:∀i:It,Rw i<|zI i
 | .opn al=>⟨0,C⟩
 | .sig xs ab mu par sup fs as=>⟨0,_,_,C,Mz fs,Mq as⟩
 | .fact nm as=>⟨0,_,C,Mq as⟩
 | .asrt as=>⟨0,_,C,Mq as⟩
 | .pred ps as=>⟨0,_,_,C,Mz ps,Mq as⟩
 | .func ps mu r b=>⟨0,_,_,_,C,Mz ps,Gr r,Gr b⟩
 | .cmd k as df ns ex=>⟨0,_,C,hO as⟩
structure IR (as:D Nd):Prop where
 w:PX as
 n:as.length≤2
 h:htL as≤2
structure HH (ds:D Dc):Prop where
 w:MT ds
 n:ds.length≤2
 h:htDL ds≤2
abbrev hR:D<|D Sx:=[[G0],[G0,Mt]]
abbrev S8:D<|Sx×D Sx:=[([],[]),(I5,[]),([],[I5]),([],[I5,Mt])]
abbrev yt (ns:D MQ):Prop:=ns=[]∨(∃b n,n<5∧ns=[(b,n,G0)])∨(∃b n b' n',n<5∧n'<5∧ns=[(b,n,G0),(b',n',Mt)])
abbrev I9:It→Prop
 | .opn al=>al=[]∨al=wO
 | .sig xs ab mu par sup fs as=>xs∈hR∧mu∈GE∧(par,sup)∈S8∧HH fs∧IR as
 | .fact nm as=>(nm=[]∨nm=Nj)∧IR as
 | .asrt as=>IR as
 | .pred ps as=>HH ps∧IR as
 | .func ps mu r b=>HH ps∧mu∈GE∧(Wf r∧ht r≤2)∧Wf b∧ht b≤2
 | .cmd k as df ns ex=>(k=O5∨k=Ms)∧(∀l,as=R l→IR l)∧(df=-1∨∃j:Q,j<5∧df=(j:g'))∧yt ns∧(ex=-1∨∃j:Q,j<2∧ex=(j:g'))
abbrev hU:D Sx→D Pc
 |[]=>[]
 |x::r=>.nm x::(r.map λy=>[sp,.sg "+",sp,.nm y]).flatten
abbrev qL (ps:D Dc):D Pc:=if ps=[]then []else [.sg "["]++zo (FM ps)++[.sg "]"]
abbrev xD (par:Sx) (sup:D Sx):D Pc:=if par=[]then(if sup=[]then []else [sp,.nm hK,sp]++hU sup)else [sp,.nm aE,sp,.nm par]
abbrev qQ (fs:D Dc):D Pc:=if fs=[]then [sp,.sg "{",sp,.sg "}"]else [sp,.sg "{",sp]++zo (FM fs)++[sp,.sg "}"]
abbrev jf (as:D Nd):D Pc:=if as=[]then []else [sp]++FA (FX as)
abbrev sM (b:Ld):D Pc:=if b then [.nm SZ,sp]else []
abbrev vZ (x:MQ):D Pc:=sM x.1++[.nu<|zW (x.2.1:Q),sp,.nm x.2.2]
abbrev jg (ns:D MQ):D Pc:=zo<|ns.map vZ
abbrev qE (df:g') (ns:D MQ):D Pc:=if df<0 then(if ns=[]then []else [sp,.nm O6,sp]++jg ns)else [sp,.nm O6,sp,.nu<|zW df]++(if ns=[]then []else [sp,.nm O8,sp]++jg ns)
abbrev kN (ex:g'):D Pc:=if ex<0 then []else [sp,.nm PF,sp,.nu<|zW ex]
abbrev N2:Lc (D Nd)→D Pc
 |Z=>[.nm wP]
 |R as=>FA<|FX as
abbrev FZ:It→D Pc
 | .opn al=>[.nm IY,sp,.nm IZ,.sg "[",.nm G0,.sg "]"]++(if al=[]then []else [sp,.nm hH,sp,.nm al])
 | .sig xs ab mu par sup fs as=>(if ab then [.nm NI,sp]else [])++zF mu++[.nm HV,sp]++vr xs++xD par sup++qQ fs++jf as
 | .fact nm as=>[.nm Ik]++(if nm=[]then []else [sp,.nm nm])++[sp]++FA (FX as)
 | .asrt as=>[.nm GJ,sp,.nm Nj,sp]++FA (FX as)
 | .pred ps as=>[.nm HP,sp,.nm wP]++qL ps++[sp]++FA (FX as)
 | .func ps mu r b=>[.nm HW,sp,.nm wF]++qL ps++[.sg ":",sp]++zF mu++zZ (lv r) 8 (Ge r)++[sp,.sg "{",sp]++Ge b++[sp,.sg "}"]
 | .cmd k as df ns ex=>[.nm k,sp]++N2 as++qE df ns++kN ex
abbrev wA (is:D It):D Pc:=(is.map λi=>FZ i++[.bl 10]).flatten
def WN {k:Q}:∀ns:D MQ,OH (k+1)<|ns.map MW
 |[]=>.nil
 |x::ns=>.cons (zD (k:=0) #[Qk,qi,zC] (@RI _))<|WN ns
def fdO {as:Lc<|D Nd} (h:∀l,as=R l→IR l):Fd 20<|zO as:=by
 induction as with
 |Z=>exact zfs
 |R l=>exact zD (Mr l) (by have:=(h l C).h;exact Re this)
def hV:∀i:It,I9 i→Fd 21 (zI i)
 | .opn al,w=>zD (k:=5) #[zC,qi,zC,zD (k:=2) #[zC] (FQ omT),zC] (FQ omT)
 | .sig xs ab mu par sup fs as,w=>by
  exact zD (k:=20) #[zC,qi,zD (k:=2) (yE xs)<|FQ omT,Qk,zC,zC,zD (k:=2) (yE sup)<|FQ omT,zD (MB fs)<|Sy<|w.2.2.2.1.h,zD (Mr as)<|Re<|w.2.2.2.2.h] (FQ omT)
 | .fact nm as,w=>by
  exact zD (k:=20) #[zC,qi,zC,zD (Mr as)<|Re<|w.2.h] (FQ omT)
 | .asrt as,w=>by
  exact zD (k:=20) #[zC,qi,zC,zD (Mr as)<|Re<|IR.h w] (FQ omT)
 | .pred ps as,w=>by
  exact zD (k:=20) #[zC,qi,zC,zD (MB ps)<|Sy<|w.1.h,zD (Mr as)<|Re<|w.2.h] (FQ omT)
 | .func ps mu r b,w=>by
  exact zD (k:=20) #[zC,qi,zC,zD (MB ps)<|Sy<|w.1.h,zC,(Hf r).mono<|SA<|w.2.2.1.2,(Hf b).mono<|SA<|w.2.2.2.2] (FQ omT)
 | .cmd k as df ns ex,w=>by
  exact zD (k:=20) #[zC,qi,zC,fdO w.2.1,zD (k:=10) #[qi,zD (WN (k:=3) ns)<|FQ omT] (FQ omT),qi] (FQ omT)
def hY {as:D Nd} {ms:D MV} (h:Nx as ms) (w:IR as):Tz 200 20 [.tup ms]:=by
 have:=w.h
 exact zy (lc as h w.w) (dc (Bs w.n (zT w.h):as.length*tS (htL as)≤2*49))<|Re this
def nQ {as:D Dc} {ms:D MV} (h:HK as ms) (w:HH as):Tz 200 20 [.tup ms]:=by
 have:=w.h
 exact zy (SY as h w.w) (de (Bs w.n (j_ (zT w.h) 2):as.length*(tS (htDL as)+2)≤2*(49+2)))<|Sy this
def WO {s k:Q}:∀ns:D MQ,Tz (s+ns.length) (k+1)<|ns.map MW
 |[]=>.nil
 |x::ns=>.con (zy (s:=0) (k:=0) (S:=1) (.atom C<|.atom C<|.atom C .nil) (FQ omT)<|@RI _) (WO (s:=s) ns)<|by simp;exact(@UI _ _)
def sN {ns:D MQ} (h:yt ns):ns.length≤2:=by
 rcases h with C|⟨b,n,-,C⟩|⟨b,n,b',n',-,-,C⟩<;>simp
def tzI:∀(i:It) {m:MV},Rw i m→I9 i→∃x,m=.tup x∧Tz 1000 30 [m]
 | .opn al,m,hd,w=>by
  refine Fg hd λs e1=>?_
  subst e1
  exact⟨_,C,zy (k:=20) (s:=100) (.atom C<|.atom C<|.atom C<|.con (s2:=2) (zy (s:=0) (k:=0) (S:=1) (.atom C .nil) (FQ omT)<|FQ omT) (.atom C .nil)<|FQ omT) (FQ omT)<|FQ omT⟩
 | .sig xs ab mu par sup fs as,m,hd,w=>by
  refine Gm hd λs mf ma e3 hf ha=>?_
  subst e3
  exact⟨_,C,zy (k:=20) (s:=800) (.atom C<|.atom C<|.con (s1:=1) (s2:=700) (zy (s:=0) (k:=0) (yF xs) (FQ omT)<|FQ omT) (.atom C<|.atom C<|.atom C<|.con (s1:=1) (s2:=600) (zy (s:=0) (k:=0) (yF sup) (FQ omT)<|FQ omT) (.con (nQ hf w.2.2.2.1) (hY ha w.2.2.2.2)<|FQ omT)<|FQ omT)<|FQ omT) (FQ omT)<|FQ omT⟩
 | .fact nm as,m,hd,w=>by
  refine F4 hd λs ma e2 ha=>?_
  subst e2
  exact⟨_,C,zy (.atom C<|.atom C<|.atom C<|hY ha w.2) (FQ omT)<|FQ omT⟩
 | .asrt as,m,hd,w=>by
  refine F4 hd λs ma e2 ha=>?_
  subst e2
  exact⟨_,C,zy (.atom C<|.atom C<|.atom C<|hY ha w) (FQ omT)<|FQ omT⟩
 | .pred ps as,m,hd,w=>by
  refine Gm hd λs mp ma e3 hp ha=>?_
  subst e3
  exact⟨_,C,zy (.atom C<|.atom C<|.atom C<|.con (nQ hp w.1) (hY ha w.2)<|j2 _) (FQ omT)<|FQ omT⟩
 | .func ps mu r b,m,hd,w=>by
  refine OL hd λs mp mr mb e4 hp hr hb=>?_
  subst e4
  exact⟨_,C,zy (.atom C<|.atom C<|.atom C<|.con (nQ hp w.1) (.atom C<|.con ((OI r hr w.2.2.1.1).mono (s':=49) (zT w.2.2.1.2) (k':=20) (by have:=w.2.2.1.2;exact SA this)) ((OI b hb w.2.2.2.1).mono (s':=49) (zT w.2.2.2.2) (k':=20) (by have:=w.2.2.2.2;exact SA this))<|j2 _)<|j2 _) (FQ omT)<|FQ omT⟩
 | .cmd k as df ns ex,m,hd,w=>by
  refine F4 hd λs ma e2 ha=>?_
  clear hd;subst e2
  have Y:Tz 200 20 [ma]:=by
   induction as with
   |Z=>subst ha;exact .atom C .nil
   |R l=>obtain⟨ms,C,hl⟩:=ha;exact hY hl<|w.2.1 l C
  exact⟨_,C,zy (s:=300) (.atom C<|.atom C<|.atom C<|.con Y (.con (s2:=1) (zy (k:=10) (s:=5) (.atom C<|zy (WO (s:=0) (k:=3) ns) (dg<|sN w.2.2.2.1)<|FQ omT) (FQ omT) (FQ omT):Tz 10 20 [.tup [.int df,.tup<|ns.map MW]]) (.atom C .nil)<|j2 _)<|FQ omT) (FQ omT)<|FQ omT⟩
end
mutual section
variable {n:Q}
def ztc {as:D Nd} (w:IR as):∀p∈FX as,(flat p).length≤5480:=λp hp=>aO (PZ as w.w p hp) (by have:=w.h;exact Ga this omT)
def wW {as:D Nd} (w:IR as):(flat<|FA<|FX as).length≤11000:=by
 have:=Zl (FX as) 5480 (by rw[Ia];exact w.n)<|ztc w
 exact dh this
def ztd {ds:D Dc} (w:HH ds):∀p∈FM ds,(flat p).length≤5520:=λp hp=>q0 (Ov ds w.w p hp)<|j_ (aO (j2 _) (by have:=w.h;exact Ga this omT)) 40
def KJ {ds:D Dc} (w:HH ds):(flat<|zo<|FM ds).length≤11100:=by
 have Y:=Mv (FM ds) _<|ztd w
 rw[Hk]at Y
 exact tZ (Z' _ w.n:ds.length*(5520+2)≤2*(5520+2)) Y omT
def h2 {as:D Nd} {ms:D MV} (h:Nx as ms) (w:IR as) (hn:18≤n):MP n 10 [FI ms]<|.str<|flat<|FA<|FX as:=by
 refine Fg (⟨n -2,znw hn⟩:∃q,n=q+2) λq e=>?_
 subst e
 have hz:Bz<|flat<|FA<|FX as:=q0 (wW w)<|by decide
 exact Zn (xi (λa H=>yy a) h w.w (gq hn w.h)<|Zo hz) (by rw[Ia];exact q0 w.n<|by decide) hz
def sQ {ds:D Dc} {ms:D MV} (h:HK ds ms) (w:HH ds) (hn:20≤n):MP n 8 [FI ms]<|.str<|flat<|zo<|FM ds:=by
 refine Fg (IH 3 hn C) λq e=>?_
 subst e
 have hz:Bz<|flat<|zo<|FM ds:=q0 (KJ w)<|by decide
 exact xh (xj (λd H=>yy _) h w.w (gr hn w.h) λp hp=>wo hz hp) (by rw[Hk];exact q0 w.n<|by decide) hz
def nR {cl:HM} {e:X} {l:D MV} {J:Ev} (he:opn e (E0 pg cl e) J=R (.d<|.tup l,J)) (hz:l.length≤1000):E0 pg cl (.cmp .gt (.b1 .len e)<|EY 0) J=R (.d<|.bool<|decide (0<l.length),J):=by
 refine ze C (jJ he (Lh<|by unfold Z1;exact znx hz):E0 pg cl (.b1 .len e) J=R (.d<|.int (l.length:Q),J)) C C ?_
 refine(?_:R (decide ((0:g')<(l.length:Q)))=_)
 congr 1
 exact decide_eq_decide.mpr zny
def xE {α:Type} {l:D α} (h:l≠[]):decide (0<l.length)=f':=Ll<|CJ.mpr h
def sR {ds:D Dc} {ms:D MV} (h:HK ds ms) (hn:ds≠[]):ms≠[]:=by
 intro e;subst e
 have:=G8 h
 exact hn<|DT.mp this.symm
def zte {ds:D Nd} {ms:D MV} (h:Nx ds ms) (hn:ds≠[]):ms≠[]:=by
 intro e;subst e
 have:=Ij h
 exact hn<|DT.mp this.symm
def Ql {ps:D Dc} (w:HH ps):(flat<|qL ps).length≤11200:=by
 unfold qL;split<;>simp[Pc.str];exact Ga (KJ w) omT
def Zu {ps:D Dc} {ms:D MV} (h:HK ps ms) (w:HH ps) (hn:21≤n):MP n 13 [FI ms]<|.str<|flat<|qL ps:=by
 obtain⟨q,C⟩:=IH 1 hn C
 by_cases he:ps=[]
 ·subst he
  subst h
  rfl
 ·have hz:Bz<|flat<|qL ps:=q0 (Ql w)<|by decide
  rw[show flat (qL ps)="["++flat (zo<|FM ps)++"]" by simp[qL,he,Pc.str]]at hz⊢
  have hg:=nR (cl:=EZ pg W q) (e:=.var 0) (J:=[FI ms]) (l:=ms) C<|Rd (w.n)<|G8 h
  rw[xE<|sR h he]at hg
  exact zd (F:=ML) C C (zw<|qm hg<|zs (zs (λH=>C) λH=>qP C C (sQ (n:=q) h w<|Nk hn omT) C) (λH=>C) hz) C
abbrev aF (w:Sx):D MQ:=[La,f'].flatMap λb=>(j5 5).map λn=>(b,n,w)
abbrev nsL:D<|D MQ:=[]::(aF G0).flatMap λx=>[x]::(aF Mt).map λy=>[x,y]
abbrev scL:D<|g'×D MQ:=[-1,0,1,2,3,4].flatMap λd=>nsL.map λns=>(d,ns)
abbrev KK (df:g'):Prop:=df=-1∨∃j:Q,j<5∧df=(j:g')
def ya (b:Ld) {k:Q} (h:k<5) (w:Sx):(b,k,w)∈aF w:=J'.mpr ⟨b,by induction b<;>decide,J9.mpr ⟨k,Cv.mpr h,C⟩⟩
def sS {df:g'} {ns:D MQ} (hd:KK df) (h:yt ns):(df,ns)∈scL:=J'.mpr ⟨df,by
  rcases hd with C|⟨j,hj,C⟩
  ·decide
  ·exact(by decide:∀j:Q,j<5→(j:g')∈([-1,0,1,2,3,4]:D g')) j hj,J9.mpr ⟨ns,by
  rcases h with C|⟨b,n,Y,C⟩|⟨b,n,b',n',Y,T',C⟩
  ·exact .head _
  ·exact .tail _<|J'.mpr ⟨_,ya b Y _,.head _⟩
  ·exact .tail _<|J'.mpr ⟨_,ya b Y _,.tail _<|J9.mpr ⟨_,ya b' T' _,C⟩⟩,C⟩⟩
def YA {df:g'} {ns:D MQ} (hd:KK df) (h:yt ns):(flat<|qE df ns).length≤100:=Z5<|qx (f:=λx:g'×D MQ=>w0 (flat<|qE x.1 x.2).length 100) (g:=λH=>f') (by kernel_rfl)<|sS hd h
def zcx {df:g'} {ns:D MQ} (hd:KK df) (h:yt ns):MP (n+1) 14 [FI [.int df,.tup<|ns.map MW]]<|.str<|flat<|qE df ns:=
 qx (f:=λx:g'×D MQ=>EZ pg W (n+1) 14 [FI [.int x.1,.tup<|x.2.map MW]]) (g:=λx=>R (.d<|.str<|flat<|qE x.1 x.2,[FI [.int x.1,.tup<|x.2.map MW]])) (by kernel_rfl) (sS hd h)
nonrec abbrev ld:=D Sx×Ld×Sx×Sx×D Sx
abbrev sgC:D ld:=hR.flatMap λxs=>[La,f'].flatMap λab=>GE.flatMap λmu=>S8.map λpa=>(xs,ab,mu,pa)
abbrev lg (x:ld):D Pc:=(if x.2.1 then [.nm NI,sp]else [])++zF x.2.2.1++[.nm HV,sp]++vr x.1++xD x.2.2.2.1 x.2.2.2.2
abbrev nS:S→S
 | .seq _ b=>b
 |s=>s
nonrec abbrev sT (x:ld) (s:g') (mf ma:D MV):MV:=.tup [.str HV,.int s,.tup<|x.1.map .str,.bool x.2.1,.str x.2.2.1,.str x.2.2.2.1,.tup<|x.2.2.2.2.map .str,.tup mf,.tup ma]
nonrec abbrev sgE (x:ld) (s:g') (mf ma:D MV) (B:Lc Th):Ev:=[FR<|sT x s mf ma,FI<|x.1.map .str,GY x.2.1,E6 x.2.2.1,E6 x.2.2.2.1,FI<|x.2.2.2.2.map .str,FI mf,FI ma,E6<|flat<|lg x,B]
def KL {xs:D Sx} {ab:Ld} {mu par:Sx} {sup:D Sx} (hx:xs∈hR) (hm:mu∈GE) (ha:(par,sup)∈S8):(xs,ab,mu,par,sup)∈sgC:=J'.mpr ⟨xs,hx,J'.mpr ⟨ab,by induction ab<;>decide,J'.mpr ⟨mu,hm,J9.mpr ⟨(par,sup),ha,C⟩⟩⟩⟩
def JE (xs:D Sx) (ab:Ld) (mu par:Sx) (sup:D Sx) (fs:D Dc) (as:D Nd):flat (FZ<|.sig xs ab mu par sup fs as)=flat (lg (xs,ab,mu,par,sup))++flat (qQ fs)++flat (jf as):=by rw[←Fo,←Fo];rfl
def WP {xs:D Sx} {ab:Ld} {mu par:Sx} {sup:D Sx} {fs:D Dc} {as:D Nd} (w:I9<|.sig xs ab mu par sup fs as):(flat<|FZ<|.sig xs ab mu par sup fs as).length≤30000:=by
 have Y:=qx (f:=λx=>w0 (flat<|lg x).length 100) (g:=λH=>f') (by kernel_rfl)<|KL (ab:=ab) w.1 w.2.1 w.2.2.1
 have T':(flat<|qQ fs).length≤11200:=by unfold qQ;split<;>simp[Pc.str];exact Ga (KJ w.2.2.2.1) omT
 have h3:(flat<|jf as).length≤11100:=by unfold jf;split<;>simp[Pc.str];exact Ga (wW w.2.2.2.2) omT
 rw[JE,q8,q8]
 exact q0 (BR (BR (Z5 Y) T') h3)<|by decide
def zcy {fs:D Dc} {mf:D MV} {cl:HM} {J:Ev} (h:HK fs mf) (w:HH fs) (hv:opn Im (E0 pg cl Im) J=R (.d<|.tup mf,J)) (ha:kM Im (E0 pg cl Im) f' J=R (.v<|.d<|.tup mf,J)) (U':cl 8 [FI mf]=R (.d<|.str<|flat<|zo<|FM fs,[FI mf])) (hz:Bz<|flat<|qQ fs):
  E0 pg cl (.ite (.cmp .gt (.b1 .len Im)<|EY 0) (.bin .add (.bin .add (Da " { ")<|.call 8 #[Im])<|Da " }")<|Da " { }") J=R (.d<|.str<|flat<|qQ fs,J):=by
 have hg:=nR (cl:=cl) (e:=.var 6) (l:=mf) (J:=J) hv<|Rd (w.n)<|G8 h
 by_cases he:fs=[]
 ·subst he;subst h;exact qb hg C
 ·rw[xE<|sR h he]at hg
  have e:flat (qQ fs)=" { "++flat (zo<|FM fs)++" }":=by simp[qQ,he,Pc.str]
  rw[e]at hz⊢
  exact qm hg<|zs (zs (λH=>C) λH=>qP ha C U' C) (λH=>C) hz
def zfv {as:D Nd} {ma:D MV} {cl:HM} {J:Ev} (h:Nx as ma) (w:IR as) (hv:opn OO (E0 pg cl OO) J=R (.d<|.tup ma,J)) (ha:kM OO (E0 pg cl OO) f' J=R (.v<|.d<|.tup ma,J)) (U':cl 10 [FI ma]=R (.d<|.str<|flat<|FA<|FX as,[FI ma])) (hz:Bz<|flat<|jf as):
  E0 pg cl (.ite (.cmp .gt (.b1 .len OO)<|EY 0) (.bin .add (Da " ")<|.call 10 #[OO])<|Da []) J=R (.d<|.str<|flat<|jf as,J):=by
 have hg:=nR (cl:=cl) (e:=.var 7) (l:=ma) (J:=J) hv<|Rd (w.n)<|Ij h
 by_cases he:as=[]
 ·subst he;subst h;exact qb hg C
 ·rw[xE<|zte h he]at hg
  have e:flat (jf as)=" "++flat (FA<|FX as):=by simp[jf,he,Pc.str]
  rw[e]at hz⊢
  exact qm hg<|zs (λH=>C) (λH=>qP ha C U' C) hz
def zkz {xs:D Sx} {ab:Ld} {mu par:Sx} {sup:D Sx} {fs:D Dc} {as:D Nd} {m:MV} (hd:Rw (.sig xs ab mu par sup fs as) m) (w:I9<|.sig xs ab mu par sup fs as) (hn:25≤n):MP n 12 [FR m]<|.str<|flat<|FZ<|.sig xs ab mu par sup fs as:=by
 have hz:Bz<|flat<|FZ<|.sig xs ab mu par sup fs as:=q0 (WP w)<|by decide
 rw[JE]at hz⊢
 refine ZB w λhx hmu hab hF hA=>Gm hd λs mf ma e hf ha=>Fg (⟨n -1,znz hn⟩:∃q,n=q+1) λq e'=>?_
 subst e;subst e'
 have Y:=qx (f:=λx=>Fc pg (EZ pg W q) W 1 IK.body [FR<|sT x s mf ma,Z,Z,Z,Z,Z,Z,Z,Z,Z]) (g:=λx=>Fc pg (EZ pg W q) W 1 (nS<|nS<|nS IK.body)<|sgE x s mf ma Z) (by kernel_rfl)<|KL (ab:=ab) hx hmu hab
 exact zd (F:=IK) C C (Y.trans<|zt (zcy hf hF C C (sQ hf hF<|Nk hn omT)<|SH<|TM hz) C<|zw<|zs (zs (λH=>C) λH=>C) (λz=>zfv ha hA C C (h2 ha hA<|Nk hn omT) z) hz) C
def JF (k:Sx) (as:Lc<|D Nd) (df:g') (ns:D MQ) (ex:g'):flat (FZ<|.cmd k as df ns ex)=k++" "++flat (N2 as)++flat (qE df ns)++flat (kN ex):=by
 refine(?_:flat ([.nm k,sp]++N2 as++qE df ns++kN ex)=_)
 rw[Fo,Fo,Fo];rfl
abbrev lh:D g':=[-1,0,1]
def KM {ex:g'} (h:ex=-1∨∃j:Q,j<2∧ex=(j:g')):ex∈lh:=by
 rcases h with C|⟨j,hj,C⟩
 ·decide
 ·exact(by decide:∀j:Q,j<2→(j:g')∈lh) j hj
def WQ {k:Sx} {as:Lc<|D Nd} {df:g'} {ns:D MQ} {ex:g'} (w:I9<|.cmd k as df ns ex):(flat<|FZ<|.cmd k as df ns ex).length≤30000:=by
 refine ZB w λhk hA hdf hns hex=>?_
 have l1:k.length≤5:=by rcases hk with C|rfl<;>decide
 have l2:(flat<|N2 as).length≤11000:=by
  cases as with
  |Z=>decide
  |R l=>exact wW<|hA l C
 have l3:=(by decide:∀x∈lh,(flat<|kN x).length≤10) ex<|KM hex
 rw[JF];simp;exact di l3 (YA hdf hns) l1 l2
nonrec abbrev h_ (k:Sx) (s:g') (as:Lc<|D Nd) (ma:MV) (df:g') (ns:D MQ) (ex:g') (w:Lc Th) (ex':g'):Ev:=[FI [.str k,.int s,.str<|MG as,ma,.tup [.int df,.tup<|ns.map MW],.int ex],E6 k,E6<|MG as,FR ma,FI [.int df,.tup<|ns.map MW],E9 ex',w]
def zk0 {k:Sx} {as:Lc<|D Nd} {df:g'} {ns:D MQ} {ex:g'} {m:MV} (hd:Rw (.cmd k as df ns ex) m) (w:I9<|.cmd k as df ns ex) (hn:25≤n):MP n 15 [FR m]<|.str<|flat<|FZ<|.cmd k as df ns ex:=by
 have hz:Bz<|flat<|FZ<|.cmd k as df ns ex:=q0 (WQ w)<|by decide
 rw[JF]at hz⊢
 refine ZB w λhk hA hdf hns hex=>F4 hd λs ma e ha=>Fg (⟨n -2,ua hn⟩:∃q,n=q+2) λq e'=>?_
 subst e;subst e'
 let w6:=R<|Th.d<|.str<|flat<|N2 as
 refine zd (F:=Mc) (J:=h_ k s as ma df ns ex w6 ex) C C (zc (qA C C) (zc (yk (ρ1:=h_ k s as ma df ns ex Z ex) (v:=.d<|.str<|flat<|N2 as) ?_ C) (zq (jK
  (zs (ρ1:=h_ k s as ma df ns ex w6 ex) (zs (zs (zs (λH=>C) λH=>C) λH=>C) λH=>qP C C (zcx hdf hns) C) (λH=>qx (f:=λx=>E0 pg (EZ pg W<|q+1) _<|h_ k s as ma df ns ex w6 x) (g:=λx=>R (.d<|.str<|flat<|kN x,h_ k s as ma df ns ex w6 x)) C<|KM hex) hz))))) C
 cases as with
 |Z=>cases (ha:ma=.none);rfl
 |R l=>exact E7 ha λms e1 hl=>by subst e1;exact qb C<|qP C C (h2 hl (hA l C)<|Nm hn omT) C
def Zv (ps:D Dc) (as:D Nd):flat (FZ<|.pred ps as)=HP++" "++wP++flat (qL ps)++" "++flat (FA<|FX as):=by
 refine(?_:flat ([.nm HP,sp,.nm wP]++qL ps++[sp]++FA (FX as))=_)
 rw[Fo,Fo,Fo];rfl
def Zw (ps:D Dc) (mu:Sx) (r b:Nd):flat (FZ<|.func ps mu r b)=HW++" "++wF++flat (qL ps)++": "++flat (zF mu)++flat (zZ (lv r) 8<|Ge r)++" { "++pp b++" }":=by
 refine(?_:flat ([.nm HW,sp,.nm wF]++qL ps++[.sg ":",sp]++zF mu++zZ (lv r) 8 (Ge r)++[sp,.sg "{",sp]++Ge b++[sp,.sg "}"])=_)
 rw[Fo,Fo,Fo,Fo,Fo,Fo,Fo];rfl
def xF (i:It) (w:I9 i):(flat<|FZ i).length≤30000:=by
 cases i with
 |opn al=>rcases w with C|rfl<;>decide
 |sig xs ab mu par sup fs as=>exact WP w
 |fact nm as=>
  rcases w.1 with C|rfl
  ·exact(q0 (j_ (wW w.2) 5) (by decide):(flat<|FA<|FX as).length+5≤30000)
  ·exact(q0 (j_ (wW w.2) 10) (by decide):(flat<|FA<|FX as).length+10≤30000)
 |asrt as=>exact(q0 (j_ (wW w) 12) (by decide):(flat<|FA<|FX as).length+12≤30000)
 |pred ps as=>rw[Zv];simp;exact dk (wW w.2)<|Ql w.1
 |func ps mu r b=>
  obtain⟨wp,wm,⟨wr,hr2⟩,wb,hb2⟩:=w
  rw[Zw];simp
  exact du (aO (IO r wr)<|Ga hr2 omT) (aO (IO b wb)<|Ga hb2 omT) (Nr mu wm).1 (Ql wp)<|qZ (lv r) 8<|Ge r
 |cmd k as df ns ex=>exact WQ w
def zfw (i:It) {m:MV} (hd:Rw i m) (w:I9 i) (hn:27≤n):MP n 16 [FR m]<|.str<|flat<|FZ i:=by
 have hz:Bz<|flat<|FZ i:=q0 (xF i w)<|by decide
 obtain⟨q,C⟩:=IH 2 hn C
 have Y:26≤q+1:=Y4 hn
 cases i with
 |opn al=>
  refine Fg hd λs e1=>?_
  subst e1
  rcases w with C|rfl<;>rfl
 |sig xs ab mu par sup fs as=>
  have T':=zkz (n:=q+1) hd w<|q0 (by decide) Y
  generalize flat (FZ<|.sig xs ab mu par sup fs as)=T at T'⊢
  refine II hd λs mf ma e3 H=>?_
  subst e3
  exact zd (F:=Gj) C C (zt C C<|zb C<|zG C<|qP C C T' C) C
 |cmd k as df ns ex=>
  have T':=zk0 (n:=q+1) hd w<|q0 (by decide) Y
  generalize flat (FZ<|.cmd k as df ns ex)=T at T'⊢
  refine F4 hd λs ma e2 ha=>?_
  subst e2
  rcases w.1 with C|rfl<;>exact zd (F:=Gj) C C (zt C C<|zb C<|zb C<|zG C<|qP C C T' C) C
 |fact nm as=>
  refine F4 hd λs ma e2 ha=>?_
  subst e2
  have hb:=h2 (n:=q+1) ha w.2<|q0 (by decide) Y
  rcases w.1 with C|rfl
  ·exact zd (F:=Gj) C C (zt C C<|zb C<|zb C<|zb C<|zt C C<|zG C<|zs (x:=Ik++" ") (λH=>C) (λH=>qP C C hb C) hz) C
  ·exact zd (F:=Gj) C C (zt C C<|zb C<|zb C<|zb C<|zt C C<|zG C<|zs (x:=Ik++" "++Nj++" ") (λH=>C) (λH=>qP C C hb C) hz) C
 |asrt as=>
  refine F4 hd λs ma e2 ha=>?_
  subst e2
  exact zd (F:=Gj) C C (zt C C<|zb C<|zb C<|zb C<|zt C C<|zG C<|zs (x:=GJ++" "++Nj++" ") (λH=>C) (λH=>qP C C (h2 (n:=q+1) ha w<|q0 (by decide) Y) C) hz) C
 |pred ps as=>
  refine Gm hd λs mp ma e3 hp ha=>?_
  subst e3
  rw[Zv]at hz⊢
  exact zd (F:=Gj) C C (zt C C<|zb C<|zb C<|zb C<|zt C C<|zb C<|zG C<|zs (zs (zs (λH=>C) λH=>qP C C (Zu (n:=q+1) hp w.1<|q0 (by decide) Y) C) λH=>C) (λH=>qP C C (h2 (n:=q+1) ha w.2<|q0 (by decide) Y) C) hz) C
 |func ps mu r b=>
  refine OL hd λs mp mr mb e4 hp hr hb=>?_
  subst e4
  obtain⟨wp,wm,⟨wr,hr2⟩,wb,hb2⟩:=w
  rw[Zw]at hz⊢
  exact zd (F:=Gj) C C (zt C C<|zb C<|zb C<|zb C<|zt C C<|zb C<|zb C<|zt (qx (f:=λmu'=>E0 pg (EZ pg W<|q+1) _ [FI [.str HW,.int s,.str wF,.tup mp,.str mu',mr,mb],E6 HW,Z,E6<|HW++" "++wF,Z]) (g:=λmu'=>R (.d<|.str<|flat<|zF mu',[FI [.str HW,.int s,.str wF,.tup mp,.str mu',mr,mb],E6 HW,Z,E6<|HW++" "++wF,Z])) C wm) C<|zq<|jK<|
   zs (zs (zs (zs (zs (zs (zs (λH=>C) λH=>qP C C (Zu (n:=q+1) hp wp<|q0 (by decide) Y) C) λH=>C) λH=>C) λz=>xd C C C (ja (k:=8) (n:=q) (yy r) (dl hn hr2) hr wr z) C) λH=>C) λH=>qP C C (ZU (n:=q+1) b hb wb (Ga hb2 omT)<|dq hn hb2) C) (λH=>C) hz) C
abbrev PG:D It→D MV→Prop:=F2 λi m=>Rw i m
def N3:∀l:D Sx,jz [] l=l.flatten
 |[]=>rfl
 |[a]=>by simp[MR]
 |a::b::l=>by
  have:=N3<|b::l
  simp only[MR,this,W6,Z8]
def sU (is:D It):flat (wA is)=(is.map λi=>flat (FZ i)++"\n").flatten:=by
 induction is with
 |nil=>rfl
 |cons i is ih=>simp only[wA,w5,W6,Fo]at ih⊢;refine rq ih ?_;simp[Pc.str]
def YB {is:D It} {ms:D MV} (h:PG is ms) (w:∀i∈is,I9 i) (hn:27≤n):F2 (λm x=>((jh 0 m).bind λρc=>(E0 pg (EZ pg W n) (.bin .add (.call 16 #[Ff])<|Da "\n") ρc).bind λ(y,_)=>y.dat)=R x) ms<|(is.map λi=>flat (FZ i)++"\n").map .str:=by
 revert w
 exact F2.ind (P:=λis ms=>(∀i∈is,I9 i)→F2 (λm x=>((jh 0 m).bind λρc=>(E0 pg (EZ pg W n) (.bin .add (.call 16 #[Ff])<|Da "\n") ρc).bind λ(y,_)=>y.dat)=R x) ms ((is.map λi=>flat (FZ i)++"\n").map .str)) (λH=>.nil)
  (λi m is ms h H ih w=>have hw:=w i<|j0 ..;.cons (bn (a:=[FR m]) C<|bn (zY (qP C C (zfw (n:=n) i h hw hn) C) C<|Jg<|q0 (j_ (xF i hw) 1)<|by decide) C) (ih λj hj=>w j<|q_ _ hj)) h
def xG {is:D It} {ms:D MV} (h:PG is ms) (w:∀i∈is,I9 i) (hl:is.length≤2) (hn:27≤n):EZ pg W (n+1) 17 [E4 ms]=R (.d<|.str<|flat<|wA is,[E4 ms])∧(flat<|wA is).length≤70000:=by
 have hz:∀t∈(is.map λi=>flat (FZ i)++"\n"),t.length≤30001:=λt ht=>by
  refine E7 (J9.mp ht) λi hi e2=>?_
  subst e2
  rw[q8];exact j_ (xF i<|w i hi) 1
 have hs:=zjz (c:=0) hz
 rw[j9]at hs
 have T':is.length*(30001+0)≤2*30001:=Z' _ hl
 have hj:=xf (sep:=[]) (U:=is.map λi=>flat (FZ i)++"\n")<|q0 hs<|q0 T'<|by decide
 rw[N3,←sU]at hj
 refine⟨zd (F:=M6) C C (zw<|ZT C (qg C (kV (w:=.l ms) C C (dw (F2.len h) hl)<|vv<|YB (n:=n) h w hn) C) C hj) C,?_⟩
 rw[sU]
 have:∀l:D Sx,(∀t∈l,t.length≤30001)→l.flatten.length≤l.length*30001:=by
  intro l
  induction l with
  |nil=>intro _;simp
  |cons a l ih=>
   intro h
   simp only[W6,q8,j1,Br];exact zn0 (ih λt ht=>h t<|by simp[ht])<|h a<|by simp
 have:=this _ hz
 rw[j9]at this
 exact zn1 hl this
def km {as:D Nd} (w:IR as) {o:Lc Q} (ho:jd o):Mw (FA<|FX as) o:=(Jp<|zrr as w.w).ok o ho
def JG {ps:D Dc} (w:HH ps) {o:Lc Q} (ho:jd o):Mw (qL ps) o∧jd (jc (qL ps) o):=by
 unfold qL
 split
 ·exact⟨trivial,ho⟩
 ·exact⟨Hm (Hm (MF C)<|IG (rK ps w.w) _<|qB (c:=93)<|by decide)<|MF C,qB (c:=91)<|by decide⟩
def S_:∀x∈aF G0++aF Mt,SM f' (vZ x)=f'∧∃c,c∈P5∧(flat<|vZ x).head?=R c:=by decide
def xH {x:MQ} (h:x∈aF G0++aF Mt):Good<|vZ x:=qk (S_ x h) λY T'=>E7 T' λc U' e=>⟨λo ho=>TQ Y ho,c,_,nz e,U'⟩
def YC {ns:D MQ} (h:yt ns):∀p∈ns.map vZ,Good p:=by
 rcases h with C|⟨b,n,Y,C⟩|⟨b,n,b',n',Y,T',C⟩
 ·exact λp h=>nomatch h
 ·exact Q_.mpr ⟨xH<|V5 _<|ya b Y G0,λp h=>nomatch h⟩
 ·exact Q_.mpr ⟨xH<|V5 _<|ya b Y G0,Q_.mpr ⟨xH<|Cr _<|ya b' T' Mt,λp h=>nomatch h⟩⟩
def YD {df:g'} {ns:D MQ} (hd:KK df) (h:yt ns) {o:Lc Q} (ho:jd o):Mw (qE df ns) o∧jd (jc (qE df ns) o):=by
 have hn:Mw (jg ns) o:=IG (YC h) o ho
 rcases hd with C|⟨j,hj,C⟩
 ·by_cases he:ns=[]
  ·subst he;exact⟨trivial,ho⟩
  ·rw[show qE (-1) ns=[sp,.nm O6,sp]++jg ns from Lj he]
   exact⟨Hm (MF C) hn,Ob⟩
 ·rw[show qE j ns=[sp,.nm O6,sp,.nu<|zW j]++(if ns=[]then []else [sp,.nm O8,sp]++jg ns)from Lj xN]
  refine⟨Hm (TQ ((by decide:∀j:Q,j<5→SM f' [sp,.nm O6,sp,.nu<|zW j]=f') j hj) ?_) ?_,Ob⟩
  ·split
   ·exact ho
   ·exact Ob
  ·split
   ·trivial
   ·exact Hm (MF C) hn
def zfx {ex:g'} (h:ex=-1∨∃j:Q,j<2∧ex=(j:g')) {o:Lc Q} (ho:jd o):Mw (kN ex) o∧jd (jc (kN ex) o):=Wu ((by decide:∀x∈lh,rI (kN x)=f') ex<|KM h) ho
def YE {fs:D Dc} (w:HH fs) {o:Lc Q} (ho:jd o):Mw (qQ fs) o∧jd (jc (qQ fs) o):=by
 unfold qQ
 split
 ·exact Wu C ho
 ·exact⟨Hm (Hm (MF C)<|IG (rK fs w.w) _ Ob)<|MF C,Ob⟩
def zc0 {as:D Nd} (w:IR as) {o:Lc Q} (ho:jd o):Mw (jf as) o∧jd (jc (jf as) o):=by
 unfold jf
 split
 ·exact⟨trivial,ho⟩
 ·exact⟨Hm (MF C)<|km w ho,Ob⟩
def zc1 (i:It) (w:I9 i) (o:Lc Q) (ho:jd o):Mw (FZ i) o:=by
 cases i with
 |opn al=>rcases w with C|rfl<;>exact TQ C ho
 |sig xs ab mu par sup fs as=>
  exact qk (zc0 w.2.2.2.2 ho) λY h1'=>qk (YE w.2.2.2.1 h1') λT' h2'=>Hm (Hm (TQ (qx (f:=λx=>SM f'<|lg x) (g:=λH=>f') (by kernel_rfl)<|KL (ab:=ab) w.1 w.2.1 w.2.2.1) h2') T') Y
 |fact nm as=>rcases w.1 with C|rfl<;>exact Hm (MF C)<|km w.2 ho
 |asrt as=>exact Hm (MF C)<|km w ho
 |pred ps as=>exact qk (JG w.1 Ob) λT' h2'=>Hm (Hm (Hm (TQ C h2') T')<|MF C)<|km w.2 ho
 |func ps mu r b=>
  obtain⟨wp,wm,⟨wr,hr2⟩,wb,hb2⟩:=w
  exact qk (JG wp (o:=R 58)<|qB<|by decide) λT' h2'=>Hm (Hm (Hm (Hm (Hm (Hm (Hm (TQ C h2') T')<|MF C)<|ZX<|NY mu wm)<|(qF (Jr r wr).toGood (lv r) 8).ok _ Ob)<|MF C)<|(Jr b wb).toGood.ok _ Ob)<|MF C
 |cmd k as df ns ex=>
  refine ZB w λhk hA hdf hns hex=>qk (zfx hex ho) λY h1'=>qk (YD hdf hns h1') λT' h2'=>Hm (Hm (Hm ?_ ?_) T') Y
  ·rcases hk with C|rfl<;>exact MF C
  ·cases as with
   |Z=>exact TQ C h2'
   |R l=>exact km (hA l C) h2'
def zfy {is:D It} (w:∀i∈is,I9 i):Sb<|wA is:=by
 refine Pt ?_
 induction is with
 |nil=>trivial
 |cons i is ih=>
  simp only[wA,w5,W6]at ih⊢
  rw[Gd,Gd]
  refine⟨⟨zc1 i (w i<|by simp) _ ?_,.inr C,trivial⟩,ih λj hj=>w j<|by simp[hj]⟩
  exact qB (c:=10)<|by decide
def ig {as:D Nd} {ms:D MV} (h:Nx as ms) (w:IR as) (hn:8≤n):NH n 82 ms (N7 as)∧ms.length≤1000:=⟨vY (λa H=>wg a) h w.w (by have:=w.h;exact dJ hn this),Rd w.n<|Ij h⟩
def nT {as:D Dc} {ms:D MV} (h:HK as ms) (w:HH as) (hn:8≤n):MP n 83 [FI ms]<|.tup<|GO as:=by
 obtain⟨q,C⟩:=IH 1 hn C
 exact wV (λa H=>wg _) h w.w w.n (by have:=w.h;exact dK hn this)
def Rs:∀(i:It) {m:MV},Rw i m→I9 i→10≤n→MP n 84 [FR m] (zI i)
 | .opn al,m,hd,w,hn=>by
  refine Fg hd λs e1=>?_
  subst e1
  obtain⟨q,C⟩:=IH 1 hn C
  rfl
 | .sig xs ab mu par sup fs as,m,hd,w,hn=>by
  refine Gm hd λs mf ma e3 hf ha=>?_
  subst e3
  obtain⟨q,C⟩:=IH 1 hn C
  refine qk (ig (n:=q) ha w.2.2.2.2<|Nk hn omT) λY h1'=>?_
  have T':=nT (n:=q) hf w.2.2.2.1<|Nk hn omT
  exact zd (F:=FL) C C (zt C C<|zb C<|zq<|zl C<|zq<|jK<|
   zY (zY C (jI C C C C)<|jW<|by simp[Hn]) (zr (za (qP C C T' C)<|za (Y.tup h1' (qg C C C) C) Fb) C) (jW<|by simp[Hn])) C
 | .fact nm as,m,hd,w,hn=>by
  refine F4 hd λs ma e2 ha=>?_
  subst e2
  obtain⟨q,C⟩:=IH 1 hn C
  refine qk (ig (n:=q) ha w.2<|Nk hn omT) λY h1'=>?_
  exact zd (F:=FL) C C (zt C C<|zb C<|zb C<|zq<|zl C<|zq<|jK<|
   zr (za C<|za C<|za C<|za (Y.tup h1' (qg C C C) C) Fb) C) C
 | .asrt as,m,hd,w,hn=>by
  refine F4 hd λs ma e2 ha=>?_
  subst e2
  obtain⟨q,C⟩:=IH 1 hn C
  refine qk (ig (n:=q) ha w<|Nk hn omT) λY h1'=>?_
  exact zd (F:=FL) C C (zt C C<|zb C<|zb C<|zq<|zl C<|zq<|jK<|
   zr (za C<|za C<|za C<|za (Y.tup h1' (qg C C C) C) Fb) C) C
 | .pred ps as,m,hd,w,hn=>by
  refine Gm hd λs mp ma e3 hp ha=>?_
  subst e3
  obtain⟨q,C⟩:=IH 1 hn C
  refine qk (ig (n:=q) ha w.2<|Nk hn omT) λY h1'=>?_
  exact zd (F:=FL) C C (zt C C<|zb C<|zb C<|zb C<|zq<|zl C<|zq<|jK<|
   zr (za C<|za C<|za C<|za (qP C C (nT (n:=q) hp w.1<|Nk hn omT) C)<|za (Y.tup h1' (qg C C C) C) Fb) C) C
 | .func ps mu r b,m,hd,w,hn=>by
  refine OL hd λs mp mr mb e4 hp hr hb=>?_
  subst e4
  obtain⟨q,C⟩:=IH 1 hn C
  exact zd (F:=FL) C C (zt C C<|zb C<|zb C<|zb C<|zb C<|zq<|zl C<|zq<|jK<|
   zr (za C<|za C<|za C<|za (qP C C (nT (n:=q) hp w.1<|Nk hn omT) C)<|za C<|za (qP C C (wg r _ q hr w.2.2.1.1 (by have:=w.2.2.1.2;exact Tm hn this)) C)<|za (qP C C (wg b _ q hb w.2.2.2.1 (by have:=w.2.2.2.2;exact Tm hn this)) C) Fb) C) C
 | .cmd k as df ns ex,m,hd,w,hn=>by
  refine F4 hd λs ma e2 ha=>?_
  clear hd;subst e2
  obtain⟨q,C⟩:=IH 1 hn C
  generalize hM:MV.tup [.str k,.int s,.str<|MG as,ma,.tup [.int df,.tup<|ns.map MW],.int ex]=M
  have e2:Fc pg (EZ pg W q) W 1 (.asg 2<|.ite (.isN<|.idx Ff<|EY 3) (.lit .none)<|.b1 .tuple<|.comp 0 (.idx Ff<|EY 3)<|.call 82 #[Ff]) [FR M,E6 k,Z]=R (.nx,[FR M,E6 k,FR<|zO as]):=by
   induction as with
   |Z=>subst ha;subst hM;rfl
   |R l=>
    refine E7 ha λms e1 hl=>?_
    clear ha;subst e1
    refine qk (ig (n:=q) hl (w.2.1 l C)<|Nk hn omT) λY h1'=>?_
    clear hl;subst hM
    exact zk (qb C<|Y.tup h1' (qg C C C) C) C C
  clear ha;subst hM
  clear hn;rcases w.1 with C|rfl
  ·exact zd (F:=FL) C C (zt C C<|zb C<|zb C<|zb C<|zb C<|zb C<|zc e2<|zw<|zY C (jI C C C C) (jW<|by simp[Hn])) C
  ·exact zd (F:=FL) C C (zt C C<|zb C<|zb C<|zb C<|zb C<|zb C<|zc e2<|zw<|zY C (jI C C C C) (jW<|by simp[Hn])) C
def KN {is:D It} {ms:D MV} (h:PG is ms) (w:∀i∈is,I9 i) (hn:10≤n):NH n 84 ms<|is.map zI:=by
 revert w
 exact F2.ind (P:=λis ms=>(∀i∈is,I9 i)→NH n 84 ms (is.map zI)) (λH=>F2.nil) (λi m is ms h H ih w=>F2.cons (Rs i h (w i<|j0 ..) hn)<|ih λj hj=>w j (q_ _ hj)) h
end
mutual namespace A
def c3:FE 3:=.inr C
end
mutual section
variable {n p:Q} {U:D MV} {t:Tk} {l l' fl:D Tk}
nonrec abbrev p3 (U:D MV) (p:Q):Lc Th:=pr 3 U p 0
def MC (v:E2 U p<|t::l) {x:Sx} (h:t.2≠x) (J:Ev):E0 pg (EZ pg W<|n+2) (.meth 0 13 #[Da x]) (p3 U p::J)=R (.d<|.bool La,p3 U p::J):=
 qe (c:=3) C (qh c3) C C (kC c3 v h) C
def O_ {k x:Sx} (v:E2 U p<|(k,x)::l) (hk:k≠FG) (J:Ev):E0 pg (EZ pg W<|n+2) (.meth 0 13 #[Da x]) (p3 U p::J)=R (.d<|.bool f',p3 U (p+1)::J):=
 qe (c:=3) C (qh c3) C C (jV c3 hk v) C
def aS {k x:Sx} (v:E2 U p<|(k,x)::l) (hk:k≠FG) (J:Ev):E0 pg (EZ pg W<|n+3) (.meth 0 14 #[Da x]) (p3 U p::J)=R (.d .none,p3 U (p+1)::J):=
 qe (c:=3) C (kF c3) C C (kD c3 hk v) C
def Sw {x:Sx} (v:E2 U p<|(BT,x)::l) (h:qC (BT,x)=f') (J:Ev):E0 pg (EZ pg W<|n+2) (.meth 0 16 .nil) (p3 U p::J)=R (.d<|.str x,p3 U (p+1)::J):=
 zU (c:=3) C (vD c3) C (jQ c3 v h) C
def li {k:Q} (v:E2 U p<|(GZ,zW k)::l) (h:k<20) (J:Ev):E0 pg (EZ pg W<|n+2) (.meth 0 17 .nil) (p3 U p::J)=R (.d<|.int k,p3 U (p+1)::J):=
 zU (c:=3) C (WD c3) C (xq c3 (NC k h) v) C
def sV (v:E2 U p l) (a:Q) (J:Ev):E0 pg (EZ pg W<|n+1) (.meth 0 15 #[EY (a:Q)]) (p3 U p::J)=R (.d<|.bool<|qC<|zV l a,p3 U p::J):=
 qe (c:=3) C (wv c3) C C (wu c3 v a) C
def lj (v:E2 U p<|t::l) (J:Ev):E0 pg (EZ pg W<|n+1) (.meth 0 15 #[EY 0]) (p3 U p::J)=R (.d<|.bool<|qC t,p3 U p::J):=Qh c3 v
def yu (v:E2 U p<|t::l) (J:Ev):E0 pg (EZ pg W<|n+1) (.meth 0 10 #[EY 0]) (p3 U p::J)=R (.d<|.str<|wd t.2,p3 U p::J):=by
 have:=qV (n:=n) (dp:=0) c3 v (a:=0) (J:=J)
 rw[FO]at this;exact this
def knd (v:E2 U p<|t::l) (J:Ev):E0 pg (EZ pg W<|n+1) (.meth 0 9 .nil) (p3 U p::J)=R (.d<|.str t.1,p3 U p::J):=jB c3 v
def aG (v:E2 U p<|t::l) (J:Ev):E0 pg (EZ pg W<|n+1) (.meth 0 12 .nil) (p3 U p::J)=R (.d<|.str t.2,p3 U (p+1)::J):=kj c3 v
def sW (a b:Sx):jE .ne (.str a) (.str b)=R (!decide (a=b)):=C
def ij (a b:Sx):jE .eq (.str a) (.str b)=R (decide (a=b)):=C
def JH {a:Dc} {as:D Dc} (h:a∈as):htD a≤htDL as:=by
 induction as with
 |nil=>cases h
 |cons b as ih=>
  rcases w3.mp h with C|h
  ·exact k_ ..
  ·exact q0 (ih h)<|j8 ..
def WR {G':X} {I':D MV→Ev} {j np:Q} {cl:Sx} (hcl:cl="]"∨cl="}") (L:Lp 3 TL HK G' I' j 32 53 cl) (hn:40≤n+3) {ds:D Dc} (w:HH ds) (v:E2 U p<|toks (zo<|FM ds)++(EX,cl)::fl):
  ∃ms p',HK ds ms∧E2 U p' fl∧qj (E0 pg (EZ pg W<|n+3)<|se G') (Fc pg (EZ pg W<|n+3) W np<|sf G' j 32) W (p3 U p::I' [])=R (.nx,p3 U p'::I' ms):=by
 have hg:∀g∈TU,g.2≠"]"∧g.2≠"}":=by decide
 have z_:=i_ (c:=3) (U:=U) c3 ds w.w
 exact si (T:=λds=>toks<|zo<|FM ds) (tx:=λd=>toks<|Mm d) (k:=10) (np:=np) c3 L C (λa=>by simp[HL,F6]) (λa b=>by simp[HL,F6]) ds w.n (λa ha=>F4 (sq a (z_ a ha).1) λg r e h=>⟨g,r,e,by rcases hcl with C|rfl;exact(hg g h).1;exact(hg g h).2⟩)
  (λa ha l hx=>Qj c3 (z_ a ha).1 (z_ a ha).2 (YO<|q0 (JH ha) w.h) (dL hn (Cm.mpr ⟨q0 (JH ha) w.h,Q4 2⟩:max (htD a) 0≤2))<|by rcases hx with C|⟨b,hb,C⟩;(rcases hcl with C|rfl<;>exact qN (by decide) _);exact qN (by decide) _) 0 p W [] (by decide) v (JP hW w.n omT) (q0 (W1<|K' _)<|Ga w.n omT)
def sX:∀(a:Dc) (m:MV) (as:D Dc) (ms:D MV),TL a m→HK as ms→HK (a::as) (m::ms):=λa m as ms h t=>⟨m,ms,C,h,t⟩
def Zx {ps:D Dc} (w:HH ps) (ht:¬(t.1=EX∧wd t.2∈["[","("])) (hn:50≤n) (v:E2 U p<|toks (qL ps)++t::l):
  ∃ms p',HK ps ms∧E2 U p' (t::l)∧EZ pg W n 63 [p3 U p]=R (.d<|.tup ms,[p3 U p']):=by
 obtain⟨q,C⟩:=IH 4 hn C
 by_cases he:ps=[]
 ·subst he
  have v0:E2 U p<|t::l:=v
  have hk:=λJ=>knd (n:=q+2) v0 J
  have h0:∀J,E0 pg (EZ pg W<|q+3) (.and (.cmp .eq (.meth 0 9 .nil)<|Da Gn)<|.cmp .isin (.meth 0 10 #[EY 0])<|.tupD #[Da "[",Da "("]) (p3 U p::J)=R (.d<|.bool La,p3 U p::J):=λJ=>by
   by_cases Y:t.1=EX
   ·have T':wd t.2∉["[","("]:=λh=>ht ⟨Y,h⟩
    refine zi (ze C (hk _) C C<|by(rewrite [ij];exact rq (Ll Y) C))<|ze C ((λJ=>yu (n:=q+2) v0 J) _) C C ?_
    have:=qJ (k:=wd t.2) ["[","("]
    rw[Lk T']at this;exact this
   ·exact zu<|ze C (hk _) C C<|by(rewrite [ij];exact rq (Lk Y) C)
  exact⟨[],p,C,v0,zd (F:=HJ) C C (zt C C<|zb (h0 _)<|zw C) C⟩
 ·have e:toks (qL ps)++t::l=(EX,"[")::(toks (zo<|FM ps)++(EX,"]")::t::l):=by simp[qL,he]
  rw[e]at v
  have hw:=λJ=>yu (n:=q+2) v J
  have hl:=w.n
  obtain⟨ms,p',Y,T',h3⟩:=WR (n:=q) (U:=U) (G':=.var 2) (I':=λq=>[E4 q,E6 "]"]) (j:=1) (np:=1) (cl:="]") (.inl C) ⟨λH H H=>C,λH H H=>C,λH H=>C,λH H H=>C,C,C,C,C,sX⟩ (Nm hn omT) w<|v.step<|by decide
  have h0:∀J,E0 pg (EZ pg W<|q+3) (.and (.cmp .eq (.meth 0 9 .nil)<|Da Gn)<|.cmp .isin (.meth 0 10 #[EY 0])<|.tupD #[Da "[",Da "("]) (p3 U p::J)=R (.d<|.bool f',p3 U p::J):=λJ=>
   zi (ze C ((λJ=>knd (n:=q+2) v J) _) C C C) (ze C (hw _) C C C)
  exact⟨ms,p',Y,T',zd (F:=HJ) C C (zt C C<|zc (zl (h0 _)<|zt ((λJ=>qm (ze C (aG v _) C C C) C:∀J,E0 pg (EZ pg W<|q+3) (.ite (.cmp .eq (.meth 0 12 .nil)<|Da "[") (Da "]")<|Da ")") (p3 U p::J)=R (.d<|.str "]",p3 U (p+1)::J)) _) C<|jo h3 E8)<|zw<|jJ (w:=.l ms) C<|kZ (by have:=G8 Y;exact Ua hl this:ms.length≤1000000)) C⟩
def wh {as:D Nd} (w:IR as) (hn:50≤n) (v:E2 U p<|toks (FA<|FX as)++fl):
  ∃ms p',Nx as ms∧E2 U p' fl∧EZ pg W n 56 [p3 U p]=R (.d<|.tup ms,[p3 U p']):=by
 obtain⟨q,C⟩:=IH 4 hn C
 have hh:=w.h
 rw[vX as w.n]at v
 exact WE (n:=q) (k:=10) c3 (by decide) (sE c3 as w.n (i9 c3 as w.w) (YO hh)<|dM hn hh) (Ga (w.n) omT) v
end
mutual namespace A
abbrev OJ:D Tk:=[(FG,[]),(BT,IY),(BT,HV),(BT,Ik),(BT,GJ),(BT,HP),(BT,HW),(BT,O5),(BT,Ms),(BT,NI),(BT,FN),(BT,Fy),(BT,Fx)]
def G9:∀t∈OJ,qC t=La∧t.2≠hH∧t.2≠O6∧t.2≠PF∧t.2≠O8∧t.2≠","∧wd t.2≠"{"∧t.1≠GZ∧t.2≠"module"∧t.2≠Mu:=by decide
end
mutual section
variable {n p:Q} {U:D MV} {t:Tk} {l l' fl:D Tk} {s:g'}
def zf1 {al:Sx} (w:al=[]∨al=wO) (ht:t∈OJ) (hn:10≤n) (v:E2 U p<|(BT,IZ)::(EX,"[")::(BT,G0)::(EX,"]")::(toks (if al=[]then []else [sp,.nm hH,sp,.nm al])++t::fl)):
  ∃m p',Rw (.opn al) m∧E2 U p' (t::fl)∧EZ pg W n 62 [p3 U p,E9 s]=R (.d m,[p3 U p',E9 s]):=by
 obtain⟨q,C⟩:=IH 4 hn C
 have v1:=v.step<|by decide
 refine E7 (xx (n:=q) (dp:=0) c3 (t:=(EX,"]")) (xs:=[G0]) (by decide) (by decide) (by decide) (by decide)<|v1.step<|by decide) λp3' v3 hr=>?_
 have v4:=v3.step<|by decide
 have e6:∃p',E2 U p' (t::fl)∧∀J,E0 pg (EZ pg W<|q+3) (.ite (.meth 0 13 #[Da "as"]) (.meth 0 16 .nil)<|Da []) (p3 U (p3'+1)::J)=R (.d<|.str al,p3 U p'::J):=by
  clear hn;rcases w with C|rfl
  ·have v5:E2 U (p3'+1)<|t::fl:=v4
   exact⟨_,v5,λJ=>qb (MC v5 (G9 t ht).2.1 J) C⟩
  ·have v5:E2 U (p3'+1)<|(BT,hH)::(BT,wO)::t::fl:=v4
   have v6:=v5.step<|by decide
   exact⟨_,v6.step (by decide),λJ=>qm (O_ v5 (by decide) J)<|Sw v6 (by decide) J⟩
 refine E7 e6 ?_;clear e6;intro p' v6 e6
 exact⟨_,p',⟨s,C⟩,v6,zd (F:=IX) C C (zc (zk (Sw v (by decide) _) C C:Fc pg (EZ pg W<|q+3) W 2 (.asg 2<|.meth 0 16 .nil) [p3 U p,E9 s,Z,Z]=R (.nx,[p3 U<|p+1,E9 s,E6 IZ,Z]))<|zb C<|zc (jA (aS v1 (by decide) _):Fc pg (EZ pg W<|q+3) W 2 (.exp<|.meth 0 14 #[Da "["]) [p3 U<|p+1,E9 s,E6 IZ,Z]=R (.nx,[p3 U<|p+1+1,E9 s,E6 IZ,Z]))<|zc (zk (zU (c:=3) C (xA c3) C hr C) C C:Fc pg (EZ pg W<|q+3) W 2 (.asg 3<|.meth 0 18 .nil) [p3 U<|p+1+1,E9 s,E6 IZ,Z]=R (.nx,[p3 U p3',E9 s,E6 IZ,FI [.str G0]]))<|zc (jA (aS v3 (by decide) _):Fc pg (EZ pg W<|q+3) W 2 (.exp<|.meth 0 14 #[Da "]"]) [p3 U p3',E9 s,E6 IZ,FI [.str G0]]=R (.nx,[p3 U<|p3'+1,E9 s,E6 IZ,FI [.str G0]]))<|zw<|zr (za C<|za C<|za C<|za C<|za (e6 _) Fb) C) C⟩
nonrec abbrev sY:X:=.ite (.and (.cmp .eq (.meth 0 9 .nil)<|Da Fz)<|.cmp .isin (.meth 0 10 #[EY 0])<|.glb<|.tup [(.str FN),(.str Fy),(.str Fx),(.str Gv)]) (.meth 0 12 .nil)<|Da []
def zsa {mu:Sx} (w:mu∈GE) (ht:¬(t.1=BT∧wd t.2∈GT)) (v:E2 U p<|toks (zF mu)++t::l):∃p',E2 U p' (t::l)∧∀J,E0 pg (EZ pg W<|n+1) sY (p3 U p::J)=R (.d<|.str mu,p3 U p'::J):=by
 by_cases h:mu=[]
 ·subst h
  have v0:E2 U p<|t::l:=v
  refine⟨p,v0,λJ=>qb ?_ C⟩
  by_cases Y:t.1=BT
  ·have T':wd t.2∉GT:=λh=>ht ⟨Y,h⟩
   refine zi (ze C (knd v0 _) C C<|by(rewrite [ij];exact rq (Ll Y) C))<|ze C (yu v0 _) C C ?_
   have:=xy<|wd t.2
   rw[Lk T']at this;exact this
  ·exact zu<|ze C (knd v0 _) C C<|by(rewrite [ij];exact rq (Lk Y) C)
 ·have e:toks (zF mu)++t::l=(BT,mu)::t::l:=by simp[zF,h]
  rw[e]at v
  refine⟨p+1,v.step (by decide:BT≠FG),λJ=>qm (zi (ze C (knd v _) C C C)<|ze C (yu v _) C C ?_)<|aG v J⟩
  clear ht v e;rcases kG w h with C|rfl|rfl<;>rfl
def zf2 {ps:D Dc} {mu:Sx} {r b:Nd} (w:I9<|.func ps mu r b) (hn:60≤n)
  (v:E2 U p<|(BT,wF)::(toks (qL ps)++(EX,":")::(toks (zF mu)++(ND r 8++(EX,"{")::(tk b++(EX,"}")::fl))))):
  ∃m p',Rw (.func ps mu r b) m∧E2 U p' fl∧EZ pg W n 64 [p3 U p,E9 s]=R (.d m,[p3 U p',E9 s]):=by
 obtain⟨q,C⟩:=IH 4 hn C
 obtain⟨wp,wm,⟨wr,hr2⟩,wb,hb2⟩:=w
 refine Fv (Zx (n:=q+3) (t:=(EX,":")) wp (by decide) (Nm hn omT)<|v.step<|by decide) λmp p1 hmp v2 hr1=>?_
 have v3:=v2.step<|by decide
 refine Fv ((nJ wr (k:=8)<|by decide).h) λf rr e H hnf=>?_
 have hxr:=sD (c:=3) (U:=U) (k:=10) (n:=q+3) (m:=8) (fl:=(EX,"{")::(tk b++(EX,"}")::fl)) c3 (rd c3 r wr) (by decide) (YO hr2) (dO hn hr2)<|qN (by decide) _
 rw[e]at v3 hxr
 refine E7 (zsa (n:=q+2) wm hnf v3) λp2 v4 hmu=>?_
 refine Fv (hxr 0 p2 (by decide) v4) λmr p3' hmr v5 hr3=>?_
 refine Fv ((wE (c:=3) (U:=U) (k:=10) (n:=q+3) (fl:=(EX,"}")::fl) c3 (rd c3 b wb) (zn4 hb2) (dP hn hb2) (qN (by decide) _) λH=>we (by decide) _) 0 (p3'+1) (by decide)<|v5.step<|by decide) λmb p4 hmb v7 hr4=>?_
 exact⟨_,p4+1,⟨s,mp,mr,mb,C,hmp,hmr,hmb⟩,(v7.step<|by decide),zd (F:=Ih) C C (zc (qA (zx (Sw v (by decide) _)<|zx (zU (c:=3) (f:=63) C C C hr1 C) GS) C:Fc pg (EZ pg W<|q+3) W 2 (.asgT [2,3] #[.meth 0 16 .nil,.meth 0 42 .nil]) [p3 U p,E9 s,Z,Z,Z,Z,Z]=R (.nx,[p3 U p1,E9 s,E6 wF,FI mp,Z,Z,Z]))<|zc (jA (aS v2 (by decide) _):Fc pg (EZ pg W<|q+3) W 2 (.exp<|.meth 0 14 #[Da ":"]) [p3 U p1,E9 s,E6 wF,FI mp,Z,Z,Z]=R (.nx,[p3 U<|p1+1,E9 s,E6 wF,FI mp,Z,Z,Z]))<|zc (zk (hmu _) C C:Fc pg (EZ pg W<|q+3) W 2 (.asg 4 sY) [p3 U<|p1+1,E9 s,E6 wF,FI mp,Z,Z,Z]=R (.nx,[p3 U p2,E9 s,E6 wF,FI mp,E6 mu,Z,Z]))<|zc (zk (zU (c:=3) C (jS c3) C hr3 C) C C:Fc pg (EZ pg W<|q+3) W 2 (.asg 5<|.meth 0 20 .nil) [p3 U p2,E9 s,E6 wF,FI mp,E6 mu,Z,Z]=R (.nx,[p3 U p3',E9 s,E6 wF,FI mp,E6 mu,FR mr,Z]))<|zc (jA (aS v5 (by decide) _):Fc pg (EZ pg W<|q+3) W 2 (.exp<|.meth 0 14 #[Da "{"]) [p3 U p3',E9 s,E6 wF,FI mp,E6 mu,FR mr,Z]=R (.nx,[p3 U<|p3'+1,E9 s,E6 wF,FI mp,E6 mu,FR mr,Z]))<|zc (zk (zU (c:=3) C (jS c3) C hr4 C) C C:Fc pg (EZ pg W<|q+3) W 2 (.asg 6<|.meth 0 20 .nil) [p3 U<|p3'+1,E9 s,E6 wF,FI mp,E6 mu,FR mr,Z]=R (.nx,[p3 U p4,E9 s,E6 wF,FI mp,E6 mu,FR mr,FR mb]))<|zc (jA (aS v7 (by decide) _):Fc pg (EZ pg W<|q+3) W 2 (.exp<|.meth 0 14 #[Da "}"]) [p3 U p4,E9 s,E6 wF,FI mp,E6 mu,FR mr,FR mb]=R (.nx,[p3 U<|p4+1,E9 s,E6 wF,FI mp,E6 mu,FR mr,FR mb]))<|zw C) C⟩
nonrec abbrev ll:S:=#v[.ite (.not<|.meth 0 13 #[Da ","]) #v[.ret<|.tupD #[Fe,.b1 .tuple FD]] .skip]
nonrec abbrev TI:S:=.seq (.asg 3<|.meth 0 13 #[Da Hh])<|.seq (.asg 4<|.meth 0 17 .nil)<|.seq (.app 2<|.tupD #[GU,Iq,.meth 0 16 .nil]) ll
def sZ (b:Ld) (k:Q) (x:Sx):toks (vZ (b,k,x))++l=(if b then [(BT,SZ)]else [])++(GZ,zW k)::(BT,x)::l:=by induction b<;>simp[vZ,sM]
def KO {b:Ld} {k:Q} {x:Sx} (hk:k<5) (hx:qC (BT,x)=f') (v:E2 U p<|toks (vZ (b,k,x))++l) {d a1 a2:Lc Th} {qq:D MV} (hz:qq.length≤1000):
  ∃p',E2 U p' l∧∀{fl:Fw} {ρ':Ev},Fc pg (EZ pg W<|n+3) W 1 ll [p3 U p',d,E4<|qq++[MW (b,k,x)],GY b,E9 k]=R (fl,ρ')→Fc pg (EZ pg W<|n+3) W 1 TI [p3 U p,d,E4 qq,a1,a2]=R (fl,ρ'):=by
 rw[sZ]at v
 have Y:∃p1,E2 U p1 ((GZ,zW k)::(BT,x)::l)∧∀J,E0 pg (EZ pg W<|n+3) (.meth 0 13 #[Da Hh]) (p3 U p::J)=R (.d<|.bool b,p3 U p1::J):=by
  induction b with
  |La=>
   have:∀k:Q,k<5→zW (k:g')≠SZ:=by decide
   exact⟨p,v,λJ=>MC v (this k hk) J⟩
  |f'=>exact⟨p+1,v.step (by decide:BT≠FG),λJ=>O_ v (by decide:BT≠FG) J⟩
 refine E7 Y ?_;clear Y;intro p1 v1 Y
 have v2:=v1.step (by decide:GZ≠FG)
 refine⟨_,(v2.step (by decide:BT≠FG)),λhZ=>zc (zk (ρ2:=[p3 U p1,d,E4 qq,GY b,a2]) (Y _) C C)<|zc (zk (ρ2:=[p3 U<|p1+1,d,E4 qq,GY b,E9 k]) (li v1 (TZ hk omT) _) C C)<|zc (qD (l0:=qq) (l:=qq) (ρ1:=[p3 U<|p1+1+1,d,E4 qq,GY b,E9 k]) (x:=MW (b,k,x)) C (zr (za C<|za C<|za (Sw v2 hx _) Fb) C) C (Ga hz omT) C) hZ⟩
def JI {d:g'} (v:E2 U p<|t::l) (ht:t.2≠",") {qq:D MV} (hz:qq.length≤1000) {a1 a2:Lc Th}:Fc pg (EZ pg W<|n+3) W 1 ll [p3 U p,E9 d,E4 qq,a1,a2]=R (.rt<|.d<|.tup [.int d,.tup qq],[p3 U p,E9 d,E4 qq,a1,a2]):=
 zG (Jw<|MC v ht _) (zr (za C<|za (jJ (w:=.l qq) C<|kZ<|Ga hz omT) Fb) C)
def zc4 {d a1 a2:Lc Th} (v:E2 U p<|(EX,",")::l) {qq:D MV}:Fc pg (EZ pg W<|n+3) W 1 ll [p3 U p,d,E4 qq,a1,a2]=R (.nx,[p3 U<|p+1,d,E4 qq,a1,a2]):=
 zb (Jv<|O_ v (by decide) _) E8
def WS {d:g'} {ns:D MQ} (h:yt ns) (hne:ns≠[]) (ht:t∈OJ∨t=(BT,PF)) (v:E2 U p<|toks (jg ns)++t::l):
  ∃p' ρ',E2 U p' (t::l)∧qj (E0 pg (EZ pg W<|n+3)<|.lit<|.bool f') (Fc pg (EZ pg W<|n+3) W 1 TI) W [p3 U p,E9 d,E4 [],Z,Z]=R (.rt<|.d<|.tup [.int d,.tup<|ns.map MW],p3 U p'::ρ'):=by
 have ht4:t.2≠",":=by
  rcases ht with h|rfl
  ·exact(G9 t h).2.2.2.2.2.1
  ·decide
 clear ht;rcases h with C|⟨b,k,hk,C⟩|⟨b,k,b',k',hk,hk',C⟩
 ·exact Lg C hne
 ·have e:toks (jg [(b,k,G0)])++t::l=toks (vZ (b,k,G0))++t::l:=by simp[jg,F6]
  rw[e]at v
  clear hne
  refine E7 (KO (n:=n) hk (by decide) v (d:=E9 d) (a1:=Z) (a2:=Z) (qq:=[])<|by simp) λp1 v1 Y=>?_
  exact⟨p1,_,v1,nh C<|Y<|JI v1 ht4<|by simp⟩
 ·have e:toks (jg [(b,k,G0),(b',k',Mt)])++t::l=toks (vZ (b,k,G0))++(EX,",")::(toks (vZ (b',k',Mt))++t::l):=by simp[jg,F6]
  rw[e]at v
  clear e hne
  refine E7 (KO (n:=n) hk (by decide) v (d:=E9 d) (a1:=Z) (a2:=Z) (qq:=[])<|by simp) λp1 v1 Y=>?_
  refine E7 (KO (n:=n) hk' (by decide) (v1.step<|by decide) (d:=E9 d) (a1:=GY b) (a2:=E9 k) (qq:=[MW (b,k,G0)])<|by simp) λp2 v2 T'=>?_
  exact⟨p2,_,v2,qf C (Y<|zc4 v1)<|nh C<|T'<|JI v2 ht4<|by simp⟩
abbrev im (df:g') (ns:D MQ):D Tk:=if df<0 then toks (jg ns)else(GZ,zW df)::(if ns=[]then []else(BT,O8)::toks (jg ns))
nonrec abbrev nU:X:=.and (.cmp .eq (.meth 0 9 .nil)<|Da HF)<|.not<|.meth 0 15 #[EY 1]
def zc6 {df:g'} {ns:D MQ} (hd:KK df) (h:yt ns) (hne:df<0→ns≠[]) (ht:t∈OJ∨t=(BT,PF)) (hn:10≤n) (v:E2 U p<|im df ns++t::l):
  ∃p',E2 U p' (t::l)∧EZ pg W n 66 [p3 U p]=R (.d<|.tup [.int df,.tup<|ns.map MW],[p3 U p']):=by
 obtain⟨q,C⟩:=IH 4 hn C
 have htn:qC t=La∧t.2≠O8:=by
  clear hn;rcases ht with h|rfl
  ·exact⟨(G9 t h).1,(G9 t h).2.2.2.2.1⟩
  ·decide
 clear hn;rcases hd with C|⟨j,hj,C⟩
 ·have v0:E2 U p<|toks (jg ns)++t::l:=v
  refine F4 (WS (n:=q) (d:=-1) h (hne<|by decide) ht v0) λp' ρ' v1 hl=>?_
  have hT:∀J,E0 pg (EZ pg W<|q+3) nU (p3 U p::J)=R (.d<|.bool La,p3 U p::J):=λJ=>by
   have key:∀(b:Ld) (k:Q) (x:Sx) (I':D Tk),qC (BT,x)=f'→E2 U p (toks (vZ (b,k,x))++I')→E0 pg (EZ pg W<|q+3) nU (p3 U p::J)=R (.d<|.bool La,p3 U p::J):=λb k x I' hx v=>by
    rw[sZ]at v
    induction b with
    |f'=>
     exact zu<|ze C (knd (v:E2 U p<|(BT,SZ)::(GZ,zW k)::(BT,x)::I') _) C C C
    |La=>
     replace v:E2 U p<|(GZ,zW k)::(BT,x)::I':=v
     have:=sV (n:=q+2) v 1 J
     rw[xC,hx]at this
     exact zi (ze C (knd v _) C C C)<|Jv this
   rcases h with C|⟨b,k,hk,C⟩|⟨b,k,b',k',hk,hk',C⟩
   ·exact Lg C<|hne<|by decide
   ·exact key b k G0 (t::l) (by decide)<|by simpa[jg,F6]using v0
   ·exact key b k G0 ((EX,",")::(toks (vZ (b',k',Mt))++t::l)) (by decide)<|by simpa[jg,F6]using v0
  exact⟨p',v1,zd (F:=G7) C C (zt C C<|zb (hT _)<|zt C C<|zq<|Wm hl) C⟩
 ·have h0:¬((j:g')<0):=by exact xN
  have e:im j ns++t::l=(GZ,zW j)::((if ns=[]then []else(BT,O8)::toks (jg ns))++t::l):=by simp[im,h0]
  rw[e]at v
  have v1:=v.step (by decide:GZ≠FG)
  have hT:∀J,E0 pg (EZ pg W<|q+3) nU (p3 U p::J)=R (.d<|.bool f',p3 U p::J):=λJ=>by
   have:=sV (n:=q+2) v 1 J
   have e1:qC (zV ((GZ,zW (j:g'))::((if ns=[]then []else(BT,O8)::toks (jg ns))++t::l)) 1)=La:=by
    by_cases he:ns=[]
    ·(refine rq (Lh he) ?_;rewrite [J8];refine rq xC ?_);exact htn.1
    ·(refine rq (Lj he) ?_;refine rq j6 ?_;refine rq xC ?_);decide
   rw[e1]at this
   exact zi (ze C (knd v _) C C C)<|Jw this
  by_cases he:ns=[]
  ·clear hne e;subst he
   replace v1:E2 U (p+1)<|t::l:=v1
   exact⟨p+1,v1,zd (F:=G7) C C (zt C C<|zq<|zl (hT _)<|zc (zk (li v (TZ hj omT) _) C C)<|zG (Jw<|MC v1 htn.2 _) C) C⟩
  ·rw[Lj he]at v1
   replace v1:E2 U (p+1)<|(BT,O8)::(toks (jg ns)++t::l):=v1
   refine F4 (WS (n:=q) (d:=j) h he ht<|v1.step<|by decide) λp' ρ' v3 hl=>?_
   exact⟨p',v3,zd (F:=G7) C C (zt C C<|zc (zl (hT _)<|zc (zk (li v (TZ hj omT) _) C C)<|zb (Jv<|O_ v1 (by decide) _) E8)<|zt C C<|zq<|Wm hl) C⟩
end
mutual namespace A
nonrec abbrev tp (cs:D g') (s:Q) (lf:g'):Lc Th:=R<|.o 0 [.l<|cs.map .int,.d<|.int (s:Q),.d<|.int lf]
nonrec abbrev MX (m:Q):X:=.call 75 #[Ff,EY (m:Q)]
abbrev dv (cs:D g') (s m:Q):Q:=(((cs[s]?).getD<|(((5*(s:g'))*s+3*(s:g'))+7*((cs.length:Q):g')+2).fmod 101).fmod m).toNat
def OC {P:Q→Prop} {n k:Q} (h:k<n+1) (a:P n) (b:k<n→P k):P k:=(Q.lt_or_eq_of_le<|Bt h).elim b λe=>e▸a
def nV {P:Prop} {k:Q} (h:k<0):P:=Lg h<|Du _
@[elab_as_elim] def nW {motive:Q→Prop} {k:Q} (h:k<3) (a:motive 0) (b:motive 1) (c:motive 2):motive k:=OC (P:=motive) h c λh=>OC (P:=motive) h b λh=>OC (P:=motive) h a λh=>nV h
@[elab_as_elim] def s_ {motive:Q→Prop} {k:Q} (h:k<4) (a:motive 0) (b:motive 1) (c:motive 2) (d:motive 3):motive k:=OC (P:=motive) h d λh=>nW h a b c
def jT {cs:D g'} {s m:Q} (hm:0<m):dv cs s m<m:=by
 unfold dv
 generalize (cs[s]?).getD _=a
 exact zn5 hm<|g'.fmod_lt_of_pos a (YI hm:(0:g')<m)
def tc {a:g'} {m:Q} (hm:0<m):Pi .mod (.int a) (.int m)=R (.int ((a.fmod m).toNat:Q)):=by
 have T':=g'.fmod_nonneg_of_pos a (YI hm:(0:g')<m)
 refine rq (Be T') ?_
 exact Lj<|zn6 hm
def WT {a b:g'} (h:a.natAbs<2^60∨b.natAbs<2^60):Pi .mul (.int a) (.int b)=R (.int<|a*b):=Lh h
end
mutual section
variable {P:Pg} {cl:HM} {np i:Q} {J ρ1 ρ2:Ev} {e:X} {b:S} {fl:Fw}
def xI {k:Q} (he:E0 P cl e J=R (.d<|.int (k:Q),ρ1)) (hi:decide (np≤i∧i<ρ1.length)=f') (hk:k<1000000)
  (hl:jr (λm J=>if i<J.length then Fc P cl W np b (st J i<|.d m)else Z) ((j5 k).map λj=>.int (j:Q)) ρ1=R (fl,ρ2)):Fc P cl W np (.forR i e b) J=R (fl,ρ2):=by
 replace hi:=Lm hi
 refine bn he ?_
 refine(Lh ⟨hi.1,hi.2,YH,zn7 hk⟩).trans ?_
 exact hl
def kJ {f:MV→Ev→Lc (Fw×Ev)} {m:MV} {l:D MV} (h:f m J=R (.nx,ρ1)) (hl:jr f l ρ1=R (fl,ρ2)):jr f (m::l) J=R (fl,ρ2):=by
 simp only[jr,h,B2,hl]
end
mutual section
variable {n:Q} {cs:D g'} {s:Q} {lf:g'}
def WU (U':cs.length≤60) (hs:s≤1000000) {m:Q} (hm:0<m):EZ pg W (n+1) 75 [tp cs s lf,E9 (m:Q)]=R (.d<|.int (dv cs s m:Q),[tp cs (s+1) lf,E9 (m:Q)]):=by
 have s1:Fc pg (EZ pg W n) W 2 (.asg 2<|.fld 0 0 1) [tp cs s lf,E9 (m:Q),Z]=R (.nx,[tp cs s lf,E9 (m:Q),E9 (s:Q)]):=C
 have s2:Fc pg (EZ pg W n) W 2 (.setF 0 0 1<|.bin .add FD<|EY 1) [tp cs s lf,E9 (m:Q),E9 (s:Q)]=R (.nx,[tp cs (s+1) lf,E9 (m:Q),E9 (s:Q)]):=C
 have hl:E0 pg (EZ pg W n) (.b1 .len<|.fld 0 0 0) [tp cs (s+1) lf,E9 (m:Q),E9 (s:Q)]=R (.d<|.int (cs.length:Q),[tp cs (s+1) lf,E9 (m:Q),E9 (s:Q)]):=by
  refine jJ (w:=.l<|cs.map .int) C ?_
  have:(cs.map MV.int).length≤Z1:=by(refine rq y_ ?_;rw[j9]);exact Ga U' omT
  exact(Lh this).trans (by rw[j9])
 have ht:E0 pg (EZ pg W n) (.cmp .lt FD<|.b1 .len<|.fld 0 0 0) [tp cs (s+1) lf,E9 (m:Q),E9 (s:Q)]=R (.d<|.bool<|decide ((s:g')<(cs.length:Q)),[tp cs (s+1) lf,E9 (m:Q),E9 (s:Q)]):=
  qt (x:=.int (s:Q)) C hl C
 by_cases h:s<cs.length
 ·rw[Ll<|zn8 h]at ht
  have hd:dv cs s m=((cs[s]).fmod m).toNat:=by unfold dv;refine rq (D.getElem?_eq_getElem h) ?_;rfl
  refine rq hd ?_
  exact zd (F:=Mj) C C (zc s1<|zc s2<|zG ht<|zY (kU (l:=cs.map .int) C C C (yB (j:=s) (by rw[j9];exact Ga U' omT) (.inl ⟨by exact YH,C⟩) (by simp[h]):vf (cs.map .int) (.int (s:Q))=R (.int cs[s]))) C<|tc hm) C
 ·rw[Lk<|zn9 h]at ht
  have hd:dv cs s m=(((((5*(s:g'))*s+3*(s:g'))+7*((cs.length:Q):g')+2).fmod 101).fmod m).toNat:=by unfold dv;refine rq (D.getElem?_eq_none<|YJ h) ?_;rfl
  refine rq hd ?_
  exact zd (F:=Mj) C C (zc s1<|zc s2<|zb ht<|zw<|zY (zY (zY (zY (zY (zY (zY C C<|WT<|.inl<|by decide) C<|WT<|.inr<|zoa hs) (zY C C<|WT<|.inl<|by decide) C) (zY C hl<|WT<|.inl<|by decide) C) C C) C C) C<|tc hm) C
def dr (U':cs.length≤60) (hs:s≤1000000) {m:Q} (hm:0<m) (J:Ev):E0 pg (EZ pg W<|n+1) (MX m) (tp cs s lf::J)=R (.d<|.int (dv cs s m:Q),tp cs (s+1) lf::J):=
 xd C C C (WU U' hs hm) C
def WV {α:Type} (f:α→MV) {l:D α} {k:Q} (hl:l.length≤100) (hk:k<l.length):∃x∈l,vf (l.map f) (.int (k:Q))=R (f x):=
 ⟨l[k],D.getElem_mem hk,yB (j:=k) (by rw[j9];exact Ga hl omT) (.inl ⟨by exact YH,C⟩)<|by simp[hk]⟩
def xJ {α:Type} (f:α→MV) {l:D α} {L:X} (hL:∀J,E0 pg (EZ pg W<|n+1) L J=R (.l<|l.map f,J)) (hp:Hw L=La) (U':cs.length≤60) (hs:s≤1000000) (hl:l.length≤100) {m:Q} (hm:0<m) (hml:m≤l.length):
  ∃x∈l,∀(lf:g') (J:Ev),E0 pg (EZ pg W<|n+1) (.idx L<|MX m) (tp cs s lf::J)=R (.d<|f x,tp cs (s+1) lf::J):=by
 refine E7 (WV f hl (k:=dv cs s m)<|v_ (jT hm) hml) λx hx h=>?_
 exact⟨x,hx,λlf J=>kU (qg hp (hL _) C) (by refine rq hp ?_;rfl) (dr U' hs hm J) h⟩
end
mutual namespace A
abbrev dN:Q→Q
 |0=>2
 |h+1=>3*dN h+10
def lm:(dN 0=2)∧(∀(h:Q),dN (h+1)=3*dN h+10):=⟨C,λH=>C⟩
def td {d:Q} (h:d≤2):dN d≤58:=nW (motive:=λd=>dN d≤58) (C2 h) (by decide) (by decide)<|by decide
abbrev jN (n:Q) (cs:D g') (d:Q):Prop:=∀(s:Q) (lf:g'),s+dN d≤100000→∃(x:Nd) (s':Q) (lf':g'),Wf x∧ht x≤d∧s'≤s+dN d∧EZ pg W n 76 [tp cs s lf,E9 (d:Q)]=R (.d<|zn x,[tp cs s' lf',E9 (d:Q)])
abbrev wX (n:Q) (cs:D g') (d:Q):Prop:=∀(m s:Q) (lf:g'),m≤3→s+m*dN d≤100000→∃(xs:D Nd) (s':Q) (lf':g'),xs.length=m∧PX xs∧htL xs≤d∧s'≤s+m*dN d∧
 EZ pg W n 77 [tp cs s lf,E9 (d:Q),E9 (m:Q)]=R (.d<|.tup<|N7 xs,[tp cs s' lf',E9 (d:Q),E9 (m:Q)])
abbrev xK (n:Q) (cs:D g') (d:Q):Prop:=∀(s:Q) (lf:g'),s+(7+2*dN d)≤100000→∃(xs:D Dc) (s':Q) (lf':g'),MT xs∧xs.length≤2∧xs≠[]∧htDL xs≤d∧s'≤s+(7+2*dN d)∧
 EZ pg W n 78 [tp cs s lf,E9 (d:Q)]=R (.d<|.tup<|GO xs,[tp cs s' lf',E9 (d:Q)])
end
mutual section
variable {n:Q} {cs:D g'} {s d:Q} {lf:g'}
def Ra:∀xs:D Nd,(N7 xs).length=xs.length
 |[]=>rfl
 |x::xs=>by simp[aA,Ra xs]
def O9:∀xs:D Dc,(GO xs).length=xs.length
 |[]=>rfl
 |x::xs=>by simp[Sl,O9 xs]
def KP (h:jN n cs d) {mm:Lc Th} (L:D MV):∀(q:D MV) (s:Q) (lf:g') (x4:Lc Th),s+L.length*dN d≤100000→q.length+L.length≤100→∃(xs:D Nd) (s':Q) (lf':g') (x4':Lc Th),xs.length=L.length∧PX xs∧htL xs≤d∧s'≤s+L.length*dN d∧
  jr (λm J=>if 4<J.length then Fc pg (EZ pg W n) W 3 #v[.app 3<|.call 76 #[Ff,Fe]] (st J 4<|.d m)else Z) L [tp cs s lf,E9 (d:Q),mm,E4 q,x4]=R (.nx,[tp cs s' lf',E9 (d:Q),mm,E4<|q++N7 xs,x4']):=by
 induction L with
 |nil=>
  intro q s lf x4 hs hq
  exact⟨[],s,lf,x4,C,trivial,Q4 _,by simp,by simp[aA,jr]⟩
 |cons m L ih=>
  intro q s lf x4 hs hq
  refine cps λGG kk=>?_
  simp only[j1,Br]at hs hq
  refine HX (h s lf<|dQ hs) λx s1 lf1 w hh Y hr=>?_
  obtain⟨xs,s2,lf2,x4',e,ws,hhs,T',hl⟩:=ih (q++[zn x]) s1 lf1 (FR m) (dR hs Y)<|by simp;exact WY hq omT
  refine kk ?_
  refine⟨x::xs,s2,lf2,x4',by simp[e],⟨w,ws⟩,oi hhs hh,by simp only[j1,Br];exact dT Y T',kJ (ρ1:=[tp cs s1 lf1,E9 (d:Q),mm,E4<|q++[zn x],FR m]) ?_ ?_⟩
  ·refine rq (Lh<|by simp) ?_
   exact zc (qD (l0:=q) (l:=q) (ρ1:=[tp cs s1 lf1,E9 (d:Q),mm,E4 q,FR m]) C (xd C C C hr C) C (Qn hq omT) C) E8
  ·simpa[aA]using hl
def JJ (h:jN n cs d):wX (n+1) cs d:=λm s lf hm hs=>by
 refine cps λGG kk=>?_
 obtain⟨xs,s',lf',x4',e,ws,hh,T',hl⟩:=KP h (mm:=E9 (m:Q)) ((j5 m).map λj=>.int (j:Q)) [] s lf Z (by simpa using hs)<|by simp;exact Ga hm omT
 simp only[j9,CT,J8]at e T' hl
 refine kk ?_
 refine⟨xs,s',lf',e,ws,hh,T',zd (F:=M8) C C (zt C C<|zc (xI (k:=m) (ρ1:=[tp cs s lf,E9 (d:Q),E9 (m:Q),E4 [],Z]) C C (dU hm) hl)<|zw<|jJ (w:=.l<|N7 xs) C<|kZ<|by rw[Ra];exact dV hm e) C⟩
nonrec abbrev nX:X:=.lstD #[.tupD #[Da "x"],.tupD #[Da "y",Da "z"],.tupD #[Da "z"]]
def JK (J:Ev):E0 pg (EZ pg W<|n+1) (.call 73 .nil) J=R (.l<|Oa.map .str,J):=C
def KQ (U':cs.length≤60) (h:jN (n+1) cs d) (L:D MV):∀(q:D MV) (s:Q) (lf:g') (x3 x4 x5 x6:Lc Th),s+L.length*(3+dN d)≤100000→q.length+L.length≤100→∃(xs:D Dc) (s':Q) (lf':g') (x3' x4' x5' x6':Lc Th),xs.length=L.length∧MT xs∧htDL xs≤d∧s'≤s+L.length*(3+dN d)∧
  jr (λm J=>if 3<J.length then Fc pg (EZ pg W<|n+1) W 2 #v[.asg 4<|.idx nX<|MX 3,.asgT [5,6] #[.cmp .eq (MX 4)<|EY 0,.idx (.call 73 .nil)<|MX 5],.app 2<|.tupD #[EY 0,G_,Iq,Im,.call 76 #[Ff,Fe]]] (st J 3<|.d m)else Z) L [tp cs s lf,E9 (d:Q),E4 q,x3,x4,x5,x6]=R (.nx,[tp cs s' lf',E9 (d:Q),E4<|q++GO xs,x3',x4',x5',x6']):=by
 induction L with
 |nil=>
  intro q s lf x3 x4 x5 x6 hs hq
  exact⟨[],s,lf,x3,x4,x5,x6,C,trivial,Q4 _,by simp,by simp[Sl,jr]⟩
 |cons m L ih=>
  intro q s lf x3 x4 x5 x6 hs hq
  refine cps λGG kk=>?_
  simp only[j1,Br]at hs hq
  refine E7 (xJ (n:=n) (cs:=cs) (s:=s) (m:=3) (λxs:D Sx=>MV.tup<|xs.map .str) (l:=R7) (L:=nX) (λJ=>C) C U' (dW hs) (by decide) (by decide)<|by decide) λns hns Y=>?_
  refine E7 (xJ (n:=n) (cs:=cs) (s:=s+1+1) (m:=5) MV.str (l:=Oa) (L:=.call 73 .nil) JK C U' (dX hs) (by decide) (by decide)<|by decide) λmu hmu h3=>?_
  refine HX (h (s+1+1+1) lf<|dZ hs) λx s1 lf1 w hh h4 hr=>?_
  refine kk ?_
  generalize hb:decide (((dv cs (s+1) 4:Q):g')=0)=bb
  have a2:Fc pg (EZ pg W<|n+1) W 2 (.asgT [5,6] #[.cmp .eq (MX 4)<|EY 0,.idx (.call 73 .nil)<|MX 5]) [tp cs (s+1) lf,E9 (d:Q),E4 q,FR m,FI<|ns.map .str,x5,x6]=R (.nx,[tp cs (s+1+1+1) lf,E9 (d:Q),E4 q,FR m,FI<|ns.map .str,GY bb,E6 mu]):=by
   clear kk;subst hb
   exact qA (zx (ze C ((λJ=>dr (n:=n) (lf:=lf) (s:=s+1) U' (dY hs) (m:=4) (by decide) J) _) C C C)<|zx (h3 _ _) GS) C
  obtain⟨xs,s2,lf2,y3,y4,y5,y6,e,ws,hhs,h5,hl⟩:=ih (q++[TX<|.mk bb ns mu x]) s1 lf1 (FR m) (FI<|ns.map .str) (GY bb) (E6 mu) (d0 hs h4)<|by simp;exact WY hq omT
  refine⟨.mk bb ns mu x::xs,s2,lf2,y3,y4,y5,y6,by simp[e],⟨⟨hns,hmu,w⟩,ws⟩,oi hhs hh,by simp only[j1,Br];exact d5 h4 h5,kJ (ρ1:=[tp cs s1 lf1,E9 (d:Q),E4<|q++[TX<|.mk bb ns mu x],FR m,FI<|ns.map .str,GY bb,E6 mu]) ?_ ?_⟩
  ·refine rq (Lh<|by simp) ?_
   exact zc (zk (Y _ _) C C:Fc pg (EZ pg W<|n+1) W 2 (.asg 4<|.idx nX<|MX 3) [tp cs s lf,E9 (d:Q),E4 q,FR m,x4,x5,x6]=R (.nx,[tp cs (s+1) lf,E9 (d:Q),E4 q,FR m,FI<|ns.map .str,x5,x6]))<|zc a2<|zc (qD (l0:=q) (l:=q) C (zr (za C<|za C<|za C<|za C<|za (xd C C C hr C) Fb) C) C (Qn hq omT) C:Fc pg (EZ pg W<|n+1) W 2 (.app 2<|.tupD #[EY 0,G_,Iq,Im,.call 76 #[Ff,Fe]]) [tp cs (s+1+1+1) lf,E9 (d:Q),E4 q,FR m,FI<|ns.map .str,GY bb,E6 mu]=R (.nx,[tp cs s1 lf1,E9 (d:Q),E4<|q++[TX<|.mk bb ns mu x],FR m,FI<|ns.map .str,GY bb,E6 mu])) E8
  ·simpa[Sl]using hl
def JL (U':cs.length≤60) (h:jN (n+1) cs d):xK (n+2) cs d:=λs lf hs=>by
 refine cps λGG kk=>?_
 have Y:=λJ=>dr (n:=n) (lf:=lf) (s:=s) U' (iG hs omT) (m:=2) (by decide) J
 have hk:=jT (cs:=cs) (s:=s) (m:=2)<|by decide
 generalize dv cs s 2=k at Y hk
 have hb:(1+k)*(3+dN d)≤2*(3+dN d):=Z' _<|og hk omT
 obtain⟨xs,s',lf',y3,y4,y5,y6,e,ws,hh,T',hl⟩:=KQ (n:=n) U' h ((j5<|1+k).map λj=>.int (j:Q)) [] (s+1) lf Z Z Z Z (by simp only[j9,CT];exact d6 hb hs)<|by simp;exact og hk omT
 simp only[j9,CT,J8]at e T' hl
 refine kk ?_
 refine⟨xs,s',lf',ws,d7 hk e,(λh=>by clear ws;subst h;simp at e;exact zob e),hh,d8 hb T',zd (F:=M9) C C (zt C C<|zc (xI (k:=1+k) (zY C (Y _) C:E0 pg (EZ pg W<|n+1) (.bin .add (EY 1)<|MX 2) [tp cs s lf,E9 (d:Q),E4 [],Z,Z,Z,Z]=R (.d<|.int ((1+k:Q):g'),[tp cs (s+1) lf,E9 (d:Q),E4 [],Z,Z,Z,Z])) C (d9 hk) hl)<|zw<|jJ (w:=.l<|GO xs) C<|kZ<|d_ e hk<|O9 xs) C⟩
abbrev tf:S→S
 | .seq _ r=>r
 |s=>s
abbrev ndB:S:=tf<|tf Mk.body
nonrec abbrev nv (t M' K a3 a4 a5 a6 a7 a8 a9 a10 a11:Lc Th):Ev:=[t,M',K,a3,a4,a5,a6,a7,a8,a9,a10,a11]
nonrec abbrev nt (K a3 a4 a5 a6 a7 a8 a9 a10 a11:Lc Th):Ev:=[K,a3,a4,a5,a6,a7,a8,a9,a10,a11]
nonrec abbrev Pa (t M' K:Lc Th):Ev:=nv t M' K Z Z Z Z Z Z Z Z Z
nonrec abbrev iD (d:Q):Lc Th:=E9 (d:Q)
nonrec abbrev Ta:X:=.bin .sub Fe<|EY 1
nonrec abbrev aT:X:=.call 76 #[Ff,Ta]
nonrec abbrev nY (m:X):X:=.call 77 #[Ff,Ta,m]
nonrec abbrev nZ:X:=.call 78 #[Ff,Ta]
abbrev MY (n:Q) (cs:D g') (d B k:Q):Prop:=∀(s:Q) (lf:g'),s+B≤100000→∃(x:Nd) (s':Q) (lf':g') (ρ':Ev),Wf x∧ht x≤d∧s'≤s+B∧
 Fc pg (EZ pg W n) W 2 ndB (Pa (tp cs s lf) (iD d)<|iD k)=R (.rt<|.d<|zn x,tp cs s' lf'::iD d::ρ')
def JM (U':cs.length≤60) {B:Q} (h:∀k:Q,k<12→(k<3∨0<d)→MY (n+1) cs d B k) (hB:B+1≤dN d):jN (n+2) cs d:=λs lf hs=>by
 have e2:∃k:Q,k<12∧(k<3∨0<d)∧E0 pg (EZ pg W<|n+1) (.ite (.and (.cmp .gt Fe<|EY 0)<|.cmp .gt (.fld 0 0 2)<|EY 0) (MX 12)<|MX 3) (Pa (tp cs s<|lf -1) (iD d) Z)=R (.d<|.int (k:Q),Pa (tp cs (s+1)<|lf -1) (iD d) Z):=by
  have t1:E0 pg (EZ pg W<|n+1) (.cmp .gt Fe<|EY 0) (Pa (tp cs s<|lf -1) (iD d) Z)=R (.d<|.bool<|decide ((0:g')<(d:Q)),Pa (tp cs s<|lf -1) (iD d) Z):=C
  have t2:E0 pg (EZ pg W<|n+1) (.cmp .gt (.fld 0 0 2)<|EY 0) (Pa (tp cs s<|lf -1) (iD d) Z)=R (.d<|.bool<|decide ((0:g')<lf -1),Pa (tp cs s<|lf -1) (iD d) Z):=C
  have d3:=dr (n:=n) (cs:=cs) (s:=s) (lf:=lf -1) U' (iB hs omT) (m:=3)<|by decide
  have l3:=jT (cs:=cs) (s:=s) (m:=3)<|by decide
  by_cases h0:0<d
  ·rw[Ll<|YI h0]at t1
   by_cases Y:0<lf -1
   ·rw[Ll Y]at t2
    exact⟨_,(jT (cs:=cs) (s:=s) (m:=12)<|by decide),.inr h0,qm (zi t1 t2)<|(dr (n:=n) (cs:=cs) (s:=s) (lf:=lf -1) U' (iB hs omT) (m:=12)<|by decide) _⟩
   ·rw[Lk Y]at t2
    exact⟨_,TZ l3 omT,.inr h0,qb (zi t1 t2)<|d3 _⟩
  ·rw[Lk<|zoc h0]at t1
   exact⟨_,TZ l3 omT,.inl l3,qb (zu t1)<|d3 _⟩
 refine Hs e2 ?_;clear e2;intro k hk hk2 e2
 refine OL (h k hk hk2 (s+1) (lf -1)<|eg hB hs) λx s' lf' ρ' w hh Y hr=>?_
 exact⟨x,s',lf',w,hh,eh hB Y,zd (F:=Mk) C C (zc (C:Fc pg (EZ pg W<|n+1) W 2 (.setF 0 0 2<|.bin .sub (.fld 0 0 2)<|EY 1) (Pa (tp cs s lf) (iD d) Z)=R (.nx,Pa (tp cs s<|lf -1) (iD d) Z))<|zc (zk e2 C C) hr) C⟩
def ln {J:Ev} {t:Lc Th} {cl:HM}:E0 pg cl Ta (t::iD (d+1)::J)=R (.d<|.int (d:Q),t::iD (d+1)::J):=by
 refine zY C C ?_
 refine(?_:R (MV.int<|((d+1:Q):g') -1)=_)
 congr 2;exact om90
def wG (h:jN n cs d) (hs:s+dN d≤100000):∃(x:Nd) (s':Q) (lf':g'),Wf x∧ht x≤d∧s'≤s+dN d∧∀J,E0 pg (EZ pg W n) aT (tp cs s lf::iD (d+1)::J)=R (.d<|zn x,tp cs s' lf'::iD (d+1)::J):=by
 refine HX (h s lf hs) λx s' lf' w hh Y hr=>?_
 exact⟨x,s',lf',w,hh,Y,λJ=>xd C (jw C ln) C hr C⟩
def ti (h:xK n cs d) (hs:s+(7+2*dN d)≤100000):∃(xs:D Dc) (s':Q) (lf':g'),MT xs∧xs.length≤2∧xs≠[]∧htDL xs≤d∧s'≤s+(7+2*dN d)∧∀J,E0 pg (EZ pg W n) nZ (tp cs s lf::iD (d+1)::J)=R (.d<|.tup<|GO xs,tp cs s' lf'::iD (d+1)::J):=by
 refine M0 (h s lf hs) λx s' lf' w hl hn hh Y hr=>?_
 exact⟨x,s',lf',w,hl,hn,hh,Y,λJ=>xd C (jw C ln) C hr C⟩
def tj (U':cs.length≤60) (h:wX (n+1) cs d) (hs:s+(1+2*dN d)≤100000):∃(xs:D Nd) (s':Q) (lf':g'),xs.length≤2∧PX xs∧htL xs≤d∧s'≤s+(1+2*dN d)∧∀J,E0 pg (EZ pg W<|n+1) (nY<|MX 3) (tp cs s lf::iD (d+1)::J)=R (.d<|.tup<|N7 xs,tp cs s' lf'::iD (d+1)::J):=by
 have h3:=dr (n:=n) (cs:=cs) (s:=s) (lf:=lf) U' (iG hs omT) (m:=3)<|by decide
 have l3:=jT (cs:=cs) (s:=s) (m:=3)<|by decide
 generalize dv cs s 3=m at h3 l3
 have hb:m*dN d≤2*dN d:=Z' _<|iJ l3 omT
 refine Rf (h m (s+1) lf (iJ l3 omT)<|eo hb hs) λxs s' lf' e w hh Y hr=>?_
 exact⟨xs,s',lf',Tn l3 e,w,hh,eA hb Y,λJ=>wn (zf C<|zf (jw C ln)<|zf (jw C<|h3 _) Fk) C hr C⟩
def zk1 (h:wX n cs d) (hs:s+3*dN d≤100000):∃(a b c:Nd) (s':Q) (lf':g'),Wf a∧Wf b∧Wf c∧ht a≤d∧ht b≤d∧ht c≤d∧s'≤s+3*dN d∧∀J,E0 pg (EZ pg W n) (nY<|EY 3) (tp cs s lf::iD (d+1)::J)=R (.d<|.tup [zn a,zn b,zn c],tp cs s' lf'::iD (d+1)::J):=by
 refine Rf (h 3 s lf (FQ omT)<|To hs) λxs s' lf' e w hh Y hr=>?_
 refine U8 (lX (P:=λl=>∃a b c,l=[a,b,c]) (λa b c=>⟨a,b,c,C⟩) xs e) λa b c ex=>?_
 ·clear e;subst ex
  exact⟨a,b,c,s',lf',w.1,w.2.1,w.2.2.1,eD hh,eE hh,eH hh,Tp Y,λJ=>wn (zf C<|zf (jw C ln)<|zf C Fk) C hr C⟩
def tn (U':cs.length≤60):MY (n+1) cs d 1 0:=λs lf hs=>by
 refine E7 (xJ (n:=n) (cs:=cs) (s:=s) (m:=5) MV.str (l:=MN) (L:=.call 70 .nil) (λJ=>C) C U' (iE hs omT) (by decide) (by decide)<|by decide) λx hx Y=>?_
 exact⟨.name x,s+1,lf,nt (iD 0) Z Z Z Z Z Z Z Z Z,hx,Q4 _,j2 _,zG C<|zr (za C<|za C<|za (Y _ _) Fb) C⟩
def tq (U':cs.length≤60):MY (n+1) cs d 1 1:=λs lf hs=>by
 have Y:=dr (n:=n) (cs:=cs) (s:=s) (lf:=lf) U' (iE hs omT) (m:=20)<|by decide
 have l1:=jT (cs:=cs) (s:=s) (m:=20)<|by decide
 generalize dv cs s 20=m at Y l1
 exact⟨.num m,s+1,lf,nt (iD 1) Z Z Z Z Z Z Z Z Z,l1,Q4 _,j2 _,zb C<|zG C (zr (za C<|za C<|za (Y _) Fb) C)⟩
def tr (U':cs.length≤60):MY (n+1) cs d 1 2:=λs lf hs=>by
 refine E7 (xJ (n:=n) (cs:=cs) (s:=s) (m:=3) MV.str (l:=IN) (L:=.lstD #[Da Ho,Da Hq,Da Hr]) (λJ=>C) C U' (iE hs omT) (by decide) (by decide)<|by decide) λx hx Y=>?_
 exact⟨.con x,s+1,lf,nt (iD 2) Z Z Z Z Z Z Z Z Z,hx,Q4 _,j2 _,zb C<|zb C<|zG C (zr (za (Y _ _)<|za C Fb) C)⟩
def zsb (U':cs.length≤60) (h:jN (n+1) cs d):MY (n+1) cs (d+1) (1+dN d) 3:=λs lf hs=>by
 refine E7 (xJ (n:=n) (cs:=cs) (s:=s) (m:=11) MV.str (l:=Nf) (L:=.call 72 .nil) (λJ=>C) C U' (eI hs) (by decide) (by decide)<|by decide) λx hx Y=>?_
 refine HX (wG (s:=s+1) (lf:=lf) h<|eJ hs) λa s2 lf2 wa ha b2 T'=>?_
 exact⟨.un x a,s2,lf2,nt (iD 3) Z Z Z Z Z Z Z Z Z,⟨hx,wa⟩,JR ha omT,eN b2,zb C<|zb C<|zb C<|zG C (zr (za C<|za C<|za (Y _ _)<|za (T' _) Fb) C)⟩
def ts (U':cs.length≤60) (h:jN (n+1) cs d) {k:Q} (hk:k=4∨k=5):MY (n+1) cs (d+1) (1+2*dN d) k:=λs lf hs=>by
 refine E7 (xJ (n:=n) (cs:=cs) (s:=s) (m:=19) MV.str (l:=HA) (L:=.call 71 .nil) (λJ=>C) C U' (iG hs omT) (by decide) (by decide)<|by decide) λx hx Y=>?_
 refine HX (wG (s:=s+1) (lf:=lf) h<|eQ hs) λa s2 lf2 wa ha b2 T'=>?_
 refine HX (wG (s:=s2) (lf:=lf2) h<|eR hs b2) λb s3 lf3 wb hb b3 h3=>?_
 have a1:Fc pg (EZ pg W<|n+1) W 2 (.asgT [3,4] #[.idx (.call 71 .nil)<|MX 19,aT]) (Pa (tp cs s lf) (iD<|d+1)<|iD k)=R (.nx,nv (tp cs s2 lf2) (iD<|d+1) (iD k) (E6 x) (FR<|zn a) Z Z Z Z Z Z Z):=qA (zx (Y _ _)<|zx (T' _) GS) C
 refine⟨.bin x a b,s3,lf3,nt (iD k) (E6 x) (FR<|zn a) Z Z Z Z Z Z Z,⟨hx,wa,wb⟩,Vb hb ha,eV b2 b3,?_⟩
 have a2:Fc pg (EZ pg W<|n+1) W 2 (.ret<|.tupD #[Da "bin",EY 0,GU,Iq,aT]) (nv (tp cs s2 lf2) (iD<|d+1) (iD k) (E6 x) (FR<|zn a) Z Z Z Z Z Z Z)=R (.rt<|.d<|zn<|.bin x a b,nv (tp cs s3 lf3) (iD<|d+1) (iD k) (E6 x) (FR<|zn a) Z Z Z Z Z Z Z):=
  jK (zr (za C<|za C<|za C<|za C<|za (h3 _) Fb) C)
 clear U' h hs hx Y wa ha b2 T' wb hb b3 h3;rcases hk with C|rfl
 ·exact zb C<|zb C<|zb C<|zb C<|zq (zl C<|zc a1<|zq a2)
 ·exact zb C<|zb C<|zb C<|zb C<|zq (zl C<|zc a1<|zq a2)
def ww (U':cs.length≤60) (hs:s≤1000000):∃x∈GE,∀(lf:g') (J:Ev),E0 pg (EZ pg W<|n+1) (.idx (.call 73 .nil)<|MX 4) (tp cs s lf::J)=R (.d<|.str x,tp cs (s+1) lf::J):=by
 have hk:=jT (cs:=cs) (s:=s) (m:=4)<|by decide
 have h4:∀k:Q,k<4→∃x∈GE,vf (Oa.map .str) (.int (k:Q))=R (.str x):=λk hk=>by
  refine s_ (motive:=λk=>∃x∈GE,vf (Oa.map .str) (.int (k:Q))=R (.str x)) hk ?_ ?_ ?_ ?_
  all_goals exact⟨_,by decide,C⟩
 refine E7 (h4 _ hk) λx hx h=>?_
 exact⟨x,hx,λlf J=>kU (qg C (JK _) C) C (dr U' hs (by decide) J) h⟩
def zsc (U':cs.length≤60) (h:jN (n+1) cs d):MY (n+1) cs (d+1) (2+2*dN d) 6:=λs lf hs=>by
 refine E7 (ww (n:=n) (cs:=cs) (s:=s) U'<|iG hs omT) λl hl h0=>?_
 refine E7 (ww (n:=n) (cs:=cs) (s:=s+1) U'<|eW hs) λr hr Y=>?_
 refine HX (wG (s:=s+1+1) (lf:=lf) h<|eX hs) λa s2 lf2 wa ha b2 T'=>?_
 refine HX (wG (s:=s2) (lf:=lf2) h<|eY hs b2) λb s3 lf3 wb hb b3 h3=>?_
 refine⟨.arrow l r a b,s3,lf3,nt (iD 6) Z (FR<|zn a) (E6 l) (E6 r) Z Z Z Z Z,⟨hl,hr,wa,wb⟩,Vb hb ha,eZ b2 b3,?_⟩
 exact zb C<|zb C<|zb C<|zb C<|zb C<|zq (zl C<|zc (qA (zx (h0 _ _)<|zx (Y _ _) GS) C:Fc pg (EZ pg W<|n+1) W 2 (.asgT [5,6] #[.idx (.call 73 .nil)<|MX 4,.idx (.call 73 .nil)<|MX 4]) (Pa (tp cs s lf) (iD<|d+1)<|iD 6)=R (.nx,nv (tp cs (s+1+1) lf) (iD<|d+1) (iD 6) Z Z (E6 l) (E6 r) Z Z Z Z Z))<|zc (zk (T' _) C C:Fc pg (EZ pg W<|n+1) W 2 (.asg 4 aT) (nv (tp cs (s+1+1) lf) (iD<|d+1) (iD 6) Z Z (E6 l) (E6 r) Z Z Z Z Z)=R (.nx,nv (tp cs s2 lf2) (iD<|d+1) (iD 6) Z (FR<|zn a) (E6 l) (E6 r) Z Z Z Z Z))<|zw<|zr (za C<|za C<|za C<|za C<|za C<|za (h3 _) Fb) C)
def zsd (U':cs.length≤60) (h:jN (n+1) cs d) (hn:wX (n+1) cs d):MY (n+1) cs (d+1) (1+3*dN d) 7:=λs lf hs=>by
 refine HX (wG (s:=s) (lf:=lf) h<|gu hs) λa s2 lf2 wa ha b2 T'=>?_
 refine Rf (tj (s:=s2) (lf:=lf2) U' hn<|e7 hs b2) λas s3 lf3 hl ws hh b3 h3=>?_
 refine⟨.box a as,s3,lf3,nt (iD 7) Z Z Z Z (FR<|zn a) Z Z Z Z,⟨wa,ws,hl⟩,Vb hh ha,e8 b2 b3,?_⟩
 exact zb C<|zb C<|zb C<|zb C<|zb C<|zb C<|zq (zl C<|zc (zk (T' _) C C:Fc pg (EZ pg W<|n+1) W 2 (.asg 7 aT) (Pa (tp cs s lf) (iD<|d+1)<|iD 7)=R (.nx,nv (tp cs s2 lf2) (iD<|d+1) (iD 7) Z Z Z Z (FR<|zn a) Z Z Z Z))<|zw<|zr (za C<|za C<|za C<|za (h3 _) Fb) C)
def zse (U':cs.length≤60) (hn:wX (n+1) cs d):MY (n+1) cs (d+1) (3*dN d) 8:=λs lf hs=>by
 refine cps λGG kk=>?_
 obtain⟨a,b,c,s2,lf2,wa,wb,wc,ha,hb,hc',b2,T'⟩:=zk1 (s:=s) (lf:=lf) hn<|To hs
 refine kk ?_
 refine⟨.ite a b c,s2,lf2,nt (iD 8) Z Z Z Z Z (FI [zn a,zn b,zn c]) Z Z Z,⟨wa,wb,wc⟩,by exact zod hc' ha hb,Tp b2,?_⟩
 exact zb C<|zb C<|zb C<|zb C<|zb C<|zb C<|zb C<|zq (zl C<|zc (zk (T' _) C C:Fc pg (EZ pg W<|n+1) W 2 (.asg 8<|nY<|EY 3) (Pa (tp cs s lf) (iD<|d+1)<|iD 8)=R (.nx,nv (tp cs s2 lf2) (iD<|d+1) (iD 8) Z Z Z Z Z (FI [zn a,zn b,zn c]) Z Z Z))<|zw<|zr (za C<|za C<|za C<|za C<|za C Fb) C)
nonrec abbrev qX:X:=.lstD #[Da "all",Da Fx,Da "no",Da Fy,Da FN,Da "sum"]
def zsf (U':cs.length≤60) (h:jN (n+1) cs d) (hd:xK (n+1) cs d):MY (n+1) cs (d+1) (8+3*dN d) 9:=λs lf hs=>by
 refine E7 (xJ (n:=n) (cs:=cs) (s:=s) (m:=6) MV.str (l:=Gq) (L:=qX) (λJ=>C) C U' (TB hs) (by decide) (by decide)<|by decide) λx hx Y=>?_
 refine M0 (ti (s:=s+1) (lf:=lf) hd<|lL hs omT) λds s2 lf2 ws hl hne hh b2 T'=>?_
 refine HX (wG (s:=s2) (lf:=lf2) h<|Tq hs b2) λa s3 lf3 wa ha b3 h3=>?_
 refine⟨.quant x ds a,s3,lf3,nt (iD 9) Z Z Z Z Z Z (E6 x) (FI<|GO ds) Z,⟨hx,ws,hl,hne,wa⟩,Vb ha hh,Tr b2 b3,?_⟩
 exact zb C<|zb C<|zb C<|zb C<|zb C<|zb C<|zb C<|zb C<|zq (zl C<|zc (qA (zx (Y _ _)<|zx (T' _) GS) C:Fc pg (EZ pg W<|n+1) W 2 (.asgT [9,10] #[.idx qX<|MX 6,nZ]) (Pa (tp cs s lf) (iD<|d+1)<|iD 9)=R (.nx,nv (tp cs s2 lf2) (iD<|d+1) (iD 9) Z Z Z Z Z Z (E6 x) (FI<|GO ds) Z))<|zw<|zr (za C<|za C<|za C<|za C<|za (h3 _) Fb) C)
def zk2 (U':cs.length≤60) (h:jN (n+1) cs d):MY (n+1) cs (d+1) (1+2*dN d) 10:=λs lf hs=>by
 refine cps λGG kk=>?_
 refine HX (wG (s:=s) (lf:=lf) h<|tY hs omT) λa s2 lf2 wa ha b2 T'=>?_
 refine E7 (xJ (n:=n) (cs:=cs) (s:=s2) (m:=2) MV.str (l:=Rj) (L:=.lstD #[Da "x",Da "y"]) (λJ=>C) C U' (e_ hs b2) (by decide) (by decide)<|by decide) λx hx Y=>?_
 refine HX (wG (s:=s2+1) (lf:=lf2) h<|fb hs b2) λb s3 lf3 wb hb b3 h3=>?_
 refine kk ?_
 refine⟨.lett x a b,s3,lf3,nt (iD 10) Z Z Z Z Z Z Z Z<|FR<|zn a,⟨hx,wa,wb⟩,Vb hb ha,fe b2 b3,?_⟩
 exact zb C<|zb C<|zb C<|zb C<|zb C<|zb C<|zb C<|zb C<|zb C<|zq (zl C<|zc (zk (T' _) C C:Fc pg (EZ pg W<|n+1) W 2 (.asg 11 aT) (Pa (tp cs s lf) (iD<|d+1)<|iD 10)=R (.nx,nv (tp cs s2 lf2) (iD<|d+1) (iD 10) Z Z Z Z Z Z Z Z<|FR<|zn a))<|zw<|zr (za C<|za C<|za (Y _ _)<|za C<|za (h3 _) Fb) C)
def io (U':cs.length≤60) (hs:s≤1000000) {m:Q} (hm:0<m):∃b:Ld,∀(lf:g') (J:Ev),E0 pg (EZ pg W<|n+1) (.cmp .eq (MX m)<|EY 0) (tp cs s lf::J)=R (.d<|.bool b,tp cs (s+1) lf::J):=
 ⟨_,λlf J=>ze C (dr U' hs hm J) C C C⟩
def zk3 (U':cs.length≤60) (h:jN (n+1) cs d) (hn:wX (n+1) cs d) (hd:xK (n+1) cs d):MY (n+1) cs (d+1) (8+3*dN d) 11:=λs lf hs=>by
 refine Fg (io (n:=n) (cs:=cs) (s:=s) (m:=2) U' (TB hs)<|by decide) λb h0=>?_
 induction b with
 |f'=>
  refine Rf (tj (s:=s+1) (lf:=lf) U' hn<|lL hs omT) λas s3 lf3 hl ws hh b3 h3=>?_
  refine⟨.block as,s3,lf3,nt (iD 11) Z Z Z Z Z Z Z Z Z,⟨ws,hl⟩,JR hh omT,ff b3,?_⟩
  exact zb C<|zb C<|zb C<|zb C<|zb C<|zb C<|zb C<|zb C<|zb C<|zb C<|zG (h0 _ _) (zr (za C<|za C<|za (h3 _) Fb) C)
 |La=>
  refine M0 (ti (s:=s+1) (lf:=lf) hd<|lL hs omT) λds s2 lf2 ws hl hne hh b2 T'=>?_
  refine HX (wG (s:=s2) (lf:=lf2) h<|Tq hs b2) λa s3 lf3 wa ha b3 h3=>?_
  refine⟨.compr ds a,s3,lf3,nt (iD 11) Z Z Z Z Z Z Z (FI<|GO ds) Z,⟨ws,hl,hne,wa⟩,Vb ha hh,Tr b2 b3,?_⟩
  exact zb C<|zb C<|zb C<|zb C<|zb C<|zb C<|zb C<|zb C<|zb C<|zb C<|zb (h0 _ _)<|zc (zk (T' _) C C:Fc pg (EZ pg W<|n+1) W 2 (.asg 10 nZ) (Pa (tp cs (s+1) lf) (iD<|d+1)<|iD 11)=R (.nx,nv (tp cs s2 lf2) (iD<|d+1) (iD 11) Z Z Z Z Z Z Z (FI<|GO ds) Z)) (zw<|zr (za C<|za C<|za C<|za (h3 _) Fb) C)
def MY.mono {B B' k:Q} (h:MY n cs d B k) (hB:B≤B'):MY n cs d B' k:=λs lf hs=>by
 refine OL (h s lf<|fg hB hs) λx s' lf' ρ' w hh Y T'=>?_
 exact⟨x,s',lf',ρ',w,hh,fh hB Y,T'⟩
def wx (U':cs.length≤60):∀(d n:Q),3*d+3≤n→jN n cs d
 |0,n,hn=>by
  obtain⟨q,C⟩:∃q,n=q+2:=⟨n -2,zoe hn⟩
  refine JM U' (B:=1) (λk hk T'=>?_)<|by decide
  exact OC (T'.elim id λh=>Lg h<|by decide) (tr U')<|λhk=>OC hk (tq U')<|λhk=>OC hk (tn U')<|λhk=>nV hk
 |d+1,n,hn=>by
  obtain⟨q,C⟩:∃q,n=q+5:=⟨n -5,zof hn⟩
  have Y:=wx U' d (q+4)<|lI hn omT
  have T':=JJ<|wx U' d (q+3)<|lI hn omT
  have h3:=JL (n:=q+2) U'<|wx U' d (q+3)<|lI hn omT
  refine JM (n:=q+3) U' (B:=3*dN d+9) (λk hk H=>?_)<|j2 _
  exact OC hk ((zk3 U' Y T' h3).mono<|@TC _)<|λhk=>OC hk ((zk2 U' Y).mono<|iF omT)<|λhk=>OC hk ((zsf U' Y h3).mono<|@TC _)<|λhk=>OC hk ((zse U' T').mono<|@UR _)<|λhk=>OC hk ((zsd U' Y T').mono<|@gv _)<|λhk=>OC hk ((zsc U' Y).mono<|iF omT)<|λhk=>OC hk ((ts U' Y<|.inr C).mono<|iF omT)<|λhk=>OC hk ((ts U' Y<|.inl C).mono<|iF omT)<|λhk=>OC hk ((zsb U' Y).mono<|@UQ _)<|λhk=>OC hk ((tr U').mono<|@Pe _)<|λhk=>OC hk ((tq U').mono<|@Pe _)<|λhk=>OC hk ((tn U').mono<|@Pe _)<|λhk=>nV hk
def JN (U':cs.length≤60) (d:Q) (hn:3*d+3≤n):jN n cs d:=wx U' d n hn
def YF (U':cs.length≤60) (d:Q) (hn:3*d+4≤n):wX n cs d:=by
 obtain⟨q,C⟩:∃q,n=q+1:=⟨n -1,zog hn⟩
 exact JJ<|wx U' d q<|Y4 hn
def YG (U':cs.length≤60) (d:Q) (hn:3*d+5≤n):xK n cs d:=by
 obtain⟨q,C⟩:∃q,n=q+2:=⟨n -2,zoh hn⟩
 exact JL U'<|wx U' d (q+1)<|Q.le_of_succ_le<|Y4 hn
end
mutual section
variable {n:Q} {cs:D g'} {s:Q} {lf:g'}
def ip (U':cs.length≤60) {d:Q} (hd:d≤2) (hn:10≤n) (hs:s≤90000):∃(xs:D Nd) (s':Q) (lf':g'),IR xs∧s'≤s+200∧∀J,E0 pg (EZ pg W n) (.call 77 #[Ff,EY (d:Q),MX 3]) (tp cs s lf::J)=R (.d<|.tup<|N7 xs,tp cs s' lf'::J):=by
 obtain⟨q,C⟩:=IH 1 hn C
 have h3:=dr (n:=q) (cs:=cs) (s:=s) (lf:=lf) U' (Ga hs omT) (m:=3)<|by decide
 have l3:=jT (cs:=cs) (s:=s) (m:=3)<|by decide
 generalize dv cs s 3=m at h3 l3
 have hb:m*dN d≤2*58:=Bs (iJ l3 omT)<|td hd
 refine Rf (YF (n:=q+1) U' d (fi hn hd) m (s+1) lf (iJ l3 omT)<|fj hb hs) λxs s' lf' e w hh Y hr=>?_
 exact⟨xs,s',lf',⟨w,Tn l3 e,vb hd hh omT⟩,fo hb Y,λJ=>wn (zf C<|zf C<|zf (jw C<|h3 _) Fk) C hr C⟩
def n4 (U':cs.length≤60) (hn:10≤n) (hs:s≤90000):∃(ds:D Dc) (s':Q) (lf':g'),HH ds∧s'≤s+200∧∀J,E0 pg (EZ pg W n) (.ite (.cmp .eq (MX 2)<|EY 0) (.call 78 #[Ff,EY 1])<|.tupD .nil) (tp cs s lf::J)=R (.d<|.tup<|GO ds,tp cs s' lf'::J):=by
 obtain⟨q,C⟩:=IH 1 hn C
 refine Fg (io (n:=q) (cs:=cs) (s:=s) (m:=2) U' (Ga hs omT)<|by decide) λb h0=>?_
 induction b with
 |f'=>
  obtain⟨ds,s',lf',w,hl,-,hh,Y,hr⟩:=YG (n:=q+1) U' 1 (tW hn omT) (s+1) lf<|by simp only[lm];exact fq hs
  simp only[lm]at Y
  exact⟨ds,s',lf',⟨w,hl,Ga hh omT⟩,ft Y,λJ=>qm (h0 _ _)<|xd C C C hr C⟩
 |La=>exact⟨[],s+1,lf,⟨trivial,by simp,Q4 _⟩,WZ omT,λJ=>qb (h0 _ _) C⟩
def tu (U':cs.length≤60) {d:Q} (hd:d≤2) (hn:10≤n) (hs:s≤90000):∃(x:Nd) (s':Q) (lf':g'),(Wf x∧ht x≤2)∧s'≤s+200∧∀J,E0 pg (EZ pg W n) (.call 76 #[Ff,EY (d:Q)]) (tp cs s lf::J)=R (.d<|zn x,tp cs s' lf'::J):=by
 have hz:=td hd
 refine HX (JN (n:=n) U' d (fu hn hd) s lf<|n8 hz hs omT) λx s' lf' w hh Y hr=>?_
 exact⟨x,s',lf',⟨w,vb hd hh omT⟩,fv hz Y,λJ=>xd C C C hr C⟩
nonrec abbrev bhX:X:=.lstD #[Da Io,Da "Hat"]
nonrec abbrev tv:S:=#v[.app 1<|.tupD #[.cmp .eq (MX 2)<|EY 0,MX 5,.idx bhX FD]]
def xL (U':cs.length≤60) (hs:s≤90000) {j:Q} (hj:j<2):∃(b:Ld) (k:Q),k<5∧∀(q:D MV),q.length≤10→Fc pg (EZ pg W<|n+1) W 1 tv [tp cs s lf,E4 q,iD j]=R (.nx,[tp cs (s+1+1) lf,E4<|q++[MW (b,k,if j=0 then G0 else Mt)],iD j]):=by
 refine Fg (io (n:=n) (cs:=cs) (s:=s) (m:=2) U' (Ga hs omT)<|by decide) λb h0=>?_
 have h5:=dr (n:=n) (cs:=cs) (s:=s+1) (lf:=lf) U' (yo hs omT) (m:=5)<|by decide
 have l5:=jT (cs:=cs) (s:=s+1) (m:=5)<|by decide
 generalize dv cs (s+1) 5=k at h5 l5
 refine⟨b,k,l5,λq hq=>?_⟩
 clear U' hs l5;obtain C|rfl:j=0∨j=1:=by exact t8 hj
 ·exact zc (qD (l0:=q) (l:=q) (x:=MW (b,k,G0)) (ρ1:=[tp cs (s+1+1) lf,E4 q,iD 0]) C (zr (za (h0 _ _)<|za (h5 _)<|za C Fb) C) C (Ga hq omT) C) E8
 ·exact zc (qD (l0:=q) (l:=q) (x:=MW (b,k,Mt)) (ρ1:=[tp cs (s+1+1) lf,E4 q,iD 1]) C (zr (za (h0 _ _)<|za (h5 _)<|za C Fb) C) C (Ga hq omT) C) E8
def zc9 (U':cs.length≤60) (hs:s≤80000) (hn:10≤n):∃(df:g') (ns:D MQ) (s':Q),KK df∧yt ns∧s'≤s+20∧EZ pg W n 79 [tp cs s lf]=R (.d<|.tup [.int df,.tup<|ns.map MW],[tp cs s' lf]):=by
 obtain⟨q,C⟩:=IH 2 hn C
 have h3:=dr (n:=q) (cs:=cs) (s:=s) (lf:=lf) U' (Ga hs omT) (m:=3)<|by decide
 have l3:=jT (cs:=cs) (s:=s) (m:=3)<|by decide
 generalize dv cs s 3=m at h3 l3
 have hl:∃(ns:D MQ) (s':Q) (x2:Lc Th),yt ns∧s'≤s+10∧jr (λm J=>if 2<J.length then Fc pg (EZ pg W<|q+1) W 1 tv (st J 2<|.d m)else Z) ((j5 m).map λj=>.int (j:Q)) [tp cs (s+1) lf,E4 [],Z]=R (.nx,[tp cs s' lf,E4<|ns.map MW,x2]):=by
  clear h3
  refine nW l3 ⟨[],s+1,Z,.inl C,WZ omT,C⟩ ?_ ?_
  ·refine F4 (xL (n:=q) (s:=s+1) (lf:=lf) U' (yo hs omT) (j:=0)<|FQ omT) λb k hk Y=>?_
   exact⟨[(b,k,G0)],_,_,.inr<|.inl ⟨b,k,hk,C⟩,by exact(@UU _),kJ (Y []<|by simp) C⟩
  ·refine F4 (xL (n:=q) (s:=s+1) (lf:=lf) U' (yo hs omT) (j:=0)<|FQ omT) λb k hk Y=>?_
   refine F4 (xL (n:=q) (s:=s+1+1+1) (lf:=lf) U' (Ts hs) (j:=1)<|FQ omT) λb' k' hk' T'=>?_
   exact⟨[(b,k,G0),(b',k',Mt)],_,_,.inr<|.inr ⟨b,k,b',k',hk,hk',C⟩,by exact(@UV _),kJ (Y []<|by simp)<|kJ (T' [MW (b,k,G0)]<|by simp) C⟩
 refine Gm hl ?_;clear hl;intro ns s' x2 hns hs' hl
 have h6:=dr (n:=q) (cs:=cs) (s:=s') (lf:=lf) U' (iC hs hs' omT) (m:=6)<|by decide
 have l6:=jT (cs:=cs) (s:=s') (m:=6)<|by decide
 generalize dv cs s' 6=k at h6 l6
 refine⟨(k:g') -1,ns,s'+1,?_,hns,by exact fy hs',zd (F:=M_) C C (zt C C<|zc (xI (k:=m) (ρ1:=[tp cs (s+1) lf,E4 [],Z]) (h3 _) C (TZ l3 omT) hl)<|zw<|zr (za (zY (h6 _) C C)<|za (jJ (w:=.l<|ns.map MW) C<|kZ<|by rw[j9];exact Ga (sN hns) omT) Fb) C) C⟩
 by_cases h0:k=0
 ·clear h6;subst h0;exact .inl C
 ·exact .inr ⟨k -1,zoi l6,oA h0⟩
nonrec abbrev tw:X:=.lstD #[.tupD #[Da Io],.tupD #[Da Io,Da "Hat"]]
def zk4 (U':cs.length≤60) (hs:s≤80000) (hn:20≤n):∃(i:It) (s':Q) (lf':g'),I9 i∧s'≤s+900∧EZ pg W n 80 [tp cs s lf]=R (.d<|zI i,[tp cs s' lf']):=by
 refine cps λGG kk=>?_
 obtain⟨q,C⟩:=IH 2 hn C
 refine E7 (xJ (n:=q) (cs:=cs) (s:=s) (m:=2) (λxs:D Sx=>MV.tup<|xs.map .str) (l:=hR) (L:=tw) (λJ=>C) C U' (Ga hs omT) (by decide) (by decide)<|by decide) λxs hxs Y=>?_
 refine E7 (ww (n:=q) (cs:=cs) (s:=s+1) U'<|yo hs omT) λmu hmu T'=>?_
 have h4:=dr (n:=q) (cs:=cs) (s:=s+1+1) (lf:=lf) U' (fz hs) (m:=4)<|by decide
 have l4:=jT (cs:=cs) (s:=s+1+1) (m:=4)<|by decide
 generalize dv cs (s+1+1) 4=a at h4 l4
 have hab:∃(par:Sx) (sup:D Sx),(par,sup)∈S8∧∀(x1 x2 x4 x5 x6:Lc Th) (t:Lc Th),Fc pg (EZ pg W<|q+1) W 1 (.asgT [4,5] #[.ite (.cmp .eq GU<|EY 1) (Da "Top")<|Da [],.idx (.lstD #[.tupD .nil,.tupD .nil,.tupD #[Da "Top"],.tupD #[Da "Top",Da "Hat"]]) GU]) [t,x1,x2,iD a,x4,x5,x6]=R (.nx,[t,x1,x2,iD a,E6 par,FI<|sup.map .str,x6]):=by
  clear h4
  revert a
  intro a l4
  exact s_ l4 ⟨[],[],by decide,λH H H H H H=>C⟩ ⟨I5,[],by decide,λH H H H H H=>C⟩ ⟨[],[I5],by decide,λH H H H H H=>C⟩ ⟨[],[I5,Mt],by decide,λH H H H H H=>C⟩
 refine F4 hab λpar sup hps h5=>?_
 refine Gm (n4 (n:=q+1) (s:=s+1+1+1) (lf:=lf) U' (Nm hn omT)<|Ts hs) λds s6 lf6 hds b6 h6=>?_
 refine Fg (io (n:=q) (cs:=cs) (s:=s6) (m:=2) U' (fA hs b6)<|by decide) λab h7=>?_
 refine Gm (ip (n:=q+1) (s:=s6+1) (lf:=lf6) U' (d:=1) (FQ omT) (Nm hn omT)<|fC hs b6) λas s8 lf8 has b8 h8=>?_
 refine kk ?_
 exact⟨.sig xs ab mu par sup ds as,s8,lf8,⟨hxs,hmu,hps,hds,has⟩,fF b6 b8,zd (F:=NR) (J:=[tp cs s8 lf8,FI<|xs.map .str,E6 mu,iD a,E6 par,FI<|sup.map .str,FI<|GO ds]) C C (zc (qA (zx (Y _ _)<|zx (T' _ _) GS) C:Fc pg (EZ pg W<|q+1) W 1 (.asgT [1,2] #[.idx tw<|MX 2,.idx (.call 73 .nil)<|MX 4]) [tp cs s lf,Z,Z,Z,Z,Z,Z]=R (.nx,[tp cs (s+1+1) lf,FI<|xs.map .str,E6 mu,Z,Z,Z,Z]))<|zc (zk (h4 _) C C:Fc pg (EZ pg W<|q+1) W 1 (.asg 3<|MX 4) [tp cs (s+1+1) lf,FI<|xs.map .str,E6 mu,Z,Z,Z,Z]=R (.nx,[tp cs (s+1+1+1) lf,FI<|xs.map .str,E6 mu,iD a,Z,Z,Z]))<|zc (h5 _ _ _ _ _ _)<|zc (zk (h6 _) C C:Fc pg (EZ pg W<|q+1) W 1 (.asg 6<|.ite (.cmp .eq (MX 2)<|EY 0) (.call 78 #[Ff,EY 1])<|.tupD .nil) [tp cs (s+1+1+1) lf,FI<|xs.map .str,E6 mu,iD a,E6 par,FI<|sup.map .str,Z]=R (.nx,[tp cs s6 lf6,FI<|xs.map .str,E6 mu,iD a,E6 par,FI<|sup.map .str,FI<|GO ds]))<|zw<|zr (za C<|za C<|za C<|za (h7 _ _)<|za C<|za C<|za C<|za C<|za (h8 _) Fb) C) C⟩
abbrev Rb:D Sx:=[IY,HV,Ik,GJ,HP,HW,O5,Ms]
abbrev yl (n:Q) (cs:D g') (k:Sx):Prop:=∀(s:Q) (lf:g'),s≤50000→∃(i:It) (s':Q) (lf':g'),I9 i∧s'≤s+1000∧EZ pg W n 81 [tp cs s lf,E6 k]=R (.d<|zI i,[tp cs s' lf',E6 k])
def zf4 (U':cs.length≤60):yl (n+2) cs IY:=λs lf hs=>by
 refine E7 (xJ (n:=n) (cs:=cs) (s:=s) (m:=2) MV.str (l:=[[],wO]) (L:=.lstD #[Da [],Da "o"]) (λJ=>C) C U' (Ga hs omT) (by decide) (by decide)<|by decide) λx hx Y=>?_
 refine⟨.opn x,s+1,lf,?_,WZ omT,zd (F:=Gc) (J:=[tp cs (s+1) lf,E6 IY,Z,Z,Z,Z,Z,Z]) C C (zG C<|zr (za C<|za C<|za C<|za C<|za (Y _ _) Fb) C) C⟩
 refine(?_:x=[]∨x=wO);simpa using hx
def zk5 (U':cs.length≤60) (hn:21≤n):yl (n+1) cs HV:=λs lf hs=>by
 refine Gm (zk4 (n:=n) (s:=s) (lf:=lf) U' (Ga hs omT)<|oe hn omT) λi s' lf' w b h=>?_
 exact⟨i,s',lf',w,lM b omT,zd (F:=Gc) (J:=[tp cs s' lf',E6 HV,Z,Z,Z,Z,Z,Z]) C C (zb C<|zG C<|qP C C h C) C⟩
def zf5 (U':cs.length≤60) (hn:21≤n):yl (n+2) cs Ik:=λs lf hs=>by
 refine E7 (xJ (n:=n) (cs:=cs) (s:=s) (m:=2) MV.str (l:=[[],Nj]) (L:=.lstD #[Da [],Da "told"]) (λJ=>C) C U' (Ga hs omT) (by decide) (by decide)<|by decide) λx hx Y=>?_
 refine Gm (ip (n:=n+1) (s:=s+1) (lf:=lf) U' (d:=2) (FQ omT) (xM hn omT)<|yo hs omT) λas s8 lf8 has b8 h8=>?_
 refine⟨.fact x as,s8,lf8,⟨by simpa using hx,has⟩,lN b8 omT,zd (F:=Gc) (J:=[tp cs s8 lf8,E6 Ik,Z,Z,Z,Z,Z,Z]) C C (zb C<|zb C<|zG C (zr (za C<|za C<|za (Y _ _)<|za (h8 _) Fb) C)) C⟩
def zf6 (U':cs.length≤60) (hn:21≤n):yl (n+2) cs GJ:=λs lf hs=>by
 refine Gm (ip (n:=n+1) (s:=s) (lf:=lf) U' (d:=2) (FQ omT) (xM hn omT)<|Ga hs omT) λas s8 lf8 has b8 h8=>?_
 refine⟨.asrt as,s8,lf8,has,lM b8 omT,zd (F:=Gc) (J:=[tp cs s8 lf8,E6 GJ,Z,Z,Z,Z,Z,Z]) C C (zb C<|zb C<|zb C<|zG C (zr (za C<|za C<|za C<|za (h8 _) Fb) C)) C⟩
nonrec abbrev ty:X:=.ite (.cmp .eq (MX 2)<|EY 0) (.call 78 #[Ff,EY 1])<|.tupD .nil
def zf7 (U':cs.length≤60) (hn:21≤n):yl (n+2) cs HP:=λs lf hs=>by
 refine Gm (n4 (n:=n+1) (s:=s) (lf:=lf) U' (xM hn omT)<|Ga hs omT) λds s6 lf6 hds b6 h6=>?_
 refine Gm (ip (n:=n+1) (s:=s6) (lf:=lf6) U' (d:=2) (FQ omT) (xM hn omT)<|iC hs b6 omT) λas s8 lf8 has b8 h8=>?_
 refine⟨.pred ds as,s8,lf8,⟨hds,has⟩,fG b6 b8,zd (F:=Gc) (J:=[tp cs s8 lf8,E6 HP,FI<|GO ds,Z,Z,Z,Z,Z]) C C (zb C<|zb C<|zb C<|zb C<|zq (zl C<|zc (zk (h6 _) C C:Fc pg (EZ pg W<|n+1) W 2 (.asg 2 ty) [tp cs s lf,E6 HP,Z,Z,Z,Z,Z,Z]=R (.nx,[tp cs s6 lf6,E6 HP,FI<|GO ds,Z,Z,Z,Z,Z]))<|zw<|zr (za C<|za C<|za C<|za C<|za (h8 _) Fb) C)) C⟩
def zf8 (U':cs.length≤60) (hn:21≤n):yl (n+2) cs HW:=λs lf hs=>by
 refine Gm (n4 (n:=n+1) (s:=s) (lf:=lf) U' (xM hn omT)<|Ga hs omT) λds s6 lf6 hds b6 h6=>?_
 refine E7 (ww (n:=n) (cs:=cs) (s:=s6) U'<|iC hs b6 omT) λmu hmu T'=>?_
 refine Gm (tu (n:=n+1) (s:=s6+1) (lf:=lf6) U' (d:=1) (FQ omT) (xM hn omT)<|fH hs b6) λr s7 lf7 hr b7 h7=>?_
 refine Gm (tu (n:=n+1) (s:=s7) (lf:=lf7) U' (d:=2) (FQ omT) (xM hn omT)<|fI b6 hs b7) λb s8 lf8 hb b8 h8=>?_
 refine⟨.func ds mu r b,s8,lf8,⟨hds,hmu,hr,hb⟩,fJ b7 b6 b8,zd (F:=Gc) (J:=[tp cs s8 lf8,E6 HW,FI<|GO ds,E6 mu,FR<|zn r,Z,Z,Z]) C C (zb C<|zb C<|zb C<|zb C<|zb C<|zq (zl C<|zc (qA (zx (h6 _)<|zx (T' _ _) GS) C:Fc pg (EZ pg W<|n+1) W 2 (.asgT [2,3] #[ty,.idx (.call 73 .nil)<|MX 4]) [tp cs s lf,E6 HW,Z,Z,Z,Z,Z,Z]=R (.nx,[tp cs (s6+1) lf6,E6 HW,FI<|GO ds,E6 mu,Z,Z,Z,Z]))<|zc (zk (h7 _) C C:Fc pg (EZ pg W<|n+1) W 2 (.asg 4<|.call 76 #[Ff,EY 1]) [tp cs (s6+1) lf6,E6 HW,FI<|GO ds,E6 mu,Z,Z,Z,Z]=R (.nx,[tp cs s7 lf7,E6 HW,FI<|GO ds,E6 mu,FR<|zn r,Z,Z,Z]))<|zw<|zr (za C<|za C<|za C<|za C<|za C<|za C<|za (h8 _) Fb) C)) C⟩
def tz (U':cs.length≤60) (hn:21≤n) {k:Sx} (hk:k=O5∨k=Ms):yl (n+2) cs k:=λs lf hs=>by
 refine Fg (io (n:=n) (cs:=cs) (s:=s) (m:=2) U' (Ga hs omT)<|by decide) λb h0=>?_
 have hu:∃(as:Lc<|D Nd) (s1:Q) (lf1:g'),(∀l,as=R l→IR l)∧s1≤s+300∧Fc pg (EZ pg W<|n+1) W 2 (.unp [5,6]<|.ite (.cmp .eq (MX 2)<|EY 0) (.tupD #[Da "p",.lit .none])<|.tupD #[Da [],.call 77 #[Ff,EY 1,MX 3]]) [tp cs s lf,E6 k,Z,Z,Z,Z,Z,Z]=R (.nx,[tp cs s1 lf1,E6 k,Z,Z,Z,E6<|MG as,FR<|zO as,Z]):=by
  induction b with
  |f'=>exact⟨Z,s+1,lf,(λl e=>nO e),WZ omT,kW (l:=[.str wP,.none]) (qm (h0 _ _) C) C⟩
  |La=>
   refine Gm (ip (n:=n+1) (s:=s+1) (lf:=lf) U' (d:=1) (FQ omT) (xM hn omT)<|yo hs omT) λas s8 lf8 has b8 h8=>?_
   exact⟨R as,s8,lf8,(λl e=>by replace e:=z' e;subst e;exact has),lN b8 omT,kW (l:=[.str [],.tup<|N7 as]) (qb (h0 _ _)<|zr (za C<|za (h8 _) Fb) C) C⟩
 refine Gm hu λas s1 lf1 has b1 a1=>?_
 refine HX (zc9 (n:=n+1) (s:=s1) (lf:=lf1) U' (iC hs b1 omT)<|xM hn omT) λdf ns s2 hdf hns b2 T'=>?_
 have h3:=dr (n:=n) (cs:=cs) (s:=s2) (lf:=lf1) U' (fK b1 hs b2) (m:=3)<|by decide
 have l3:=jT (cs:=cs) (s:=s2) (m:=3)<|by decide
 generalize dv cs s2 3=m at h3 l3
 have a2:Fc pg (EZ pg W<|n+1) W 2 (.asg 7<|.call 79 #[Ff]) [tp cs s1 lf1,E6 k,Z,Z,Z,E6<|MG as,FR<|zO as,Z]=R (.nx,[tp cs s2 lf1,E6 k,Z,Z,Z,E6<|MG as,FR<|zO as,FI [.int df,.tup<|ns.map MW]]):=zk (qP C C T' C) C C
 refine⟨.cmd k as df ns<|(m:g') -1,s2+1,lf1,⟨hk,has,hdf,hns,?_⟩,fM b1 b2,?_⟩
 ·by_cases h0:m=0
  ·subst h0;exact .inl C
  ·exact .inr ⟨m -1,zoj l3,oA h0⟩
 ·have a3:Fc pg (EZ pg W<|n+1) W 2 (.ret<|.tupD #[Fe,EY 0,G_,Im,OO,.bin .sub (MX 3)<|EY 1]) [tp cs s2 lf1,E6 k,Z,Z,Z,E6<|MG as,FR<|zO as,FI [.int df,.tup<|ns.map MW]]=R (.rt<|.d<|zI<|.cmd k as df ns<|(m:g') -1,[tp cs (s2+1) lf1,E6 k,Z,Z,Z,E6<|MG as,FR<|zO as,FI [.int df,.tup<|ns.map MW]]):=
   jK (zr (za C<|za C<|za C<|za C<|za C<|za (zY (h3 _) C C) Fb) C)
  clear U' hn hs h0 hu has b1 hdf hns b2 T' h3 l3;rcases hk with C|rfl
  ·exact zd (F:=Gc) C C (zb C<|zb C<|zb C<|zb C<|zb C<|zb C<|zc a1 (zc a2<|zq a3)) C
  ·exact zd (F:=Gc) C C (zb C<|zb C<|zb C<|zb C<|zb C<|zb C<|zc a1 (zc a2<|zq a3)) C
def zf9 (U':cs.length≤60) (hn:25≤n) {k:Sx} (hk:k∈Rb):yl n cs k:=by
 obtain⟨q,C⟩:=IH 2 hn C
 simp only[Rb,w3,Z_,or_false]at hk
 rcases hk with C|rfl|rfl|rfl|rfl|rfl|rfl|rfl
 ·exact zf4 U'
 ·exact zk5 (n:=q+1) U'<|Nm hn omT
 ·exact zf5 U'<|Nk hn omT
 ·exact zf6 U'<|Nk hn omT
 ·exact zf7 U'<|Nk hn omT
 ·exact zf8 U'<|Nk hn omT
 ·exact tz U' (Nk hn omT)<|.inl C
 ·exact tz U' (Nk hn omT)<|.inr C
end
mutual section
variable {n p:Q} {U:D MV} {t u:Tk} {l l' fl r:D Tk} {s:g'}
nonrec abbrev lq (u:Tk):Prop:=u∈OJ∨u=(BT,PF)
def zgb (h:lq u):u.2≠O6:=by
 rcases h with h|rfl
 ·exact(G9 u h).2.2.1
 ·decide
nonrec abbrev iq:X:=.ite (.meth 0 13 #[Da "for"]) (.meth 0 45 .nil)<|.tupD #[.neg<|EY 1,.tupD .nil]
def zk6 {df:g'} {ns:D MQ} (hd:KK df) (h:yt ns) (hu:lq u) (hn:10≤n) (v:E2 U p<|toks (qE df ns)++u::r):
  ∃p',E2 U p' (u::r)∧∀J,E0 pg (EZ pg W n) iq (p3 U p::J)=R (.d<|.tup [.int df,.tup<|ns.map MW],p3 U p'::J):=by
 obtain⟨q,C⟩:=IH 4 hn C
 by_cases h0:df<0∧ns=[]
 ·refine qk h0 λY e1=>?_
  subst e1
  obtain C:df=-1:=hd.elim id λ⟨j,_,e⟩=>Lg (e▸Y:(j:g')<0)<|Cn.mpr<|Q3 _
  have v0:E2 U p<|u::r:=v
  exact⟨p,v0,λJ=>qb (MC v0 (zgb hu) J) C⟩
 ·have e:toks (qE df ns)++u::r=(BT,O6)::(im df ns++u::r):=by
   unfold qE im
   by_cases Y:df<0
   ·replace T':ns≠[]:=λT'=>h0 ⟨Y,T'⟩
    simp[Y,T']
   ·by_cases T':ns=[]
    ·simp[Y,T']
    ·simp[Y,T']
  replace v:=e▸v
  refine E7 (zc6 (n:=q+4) hd h (λY T'=>h0 ⟨Y,T'⟩) hu (Nm hn omT)<|v.step<|by decide) λp' v1 hr=>?_
  exact⟨p',v1,λJ=>qm (O_ v (by decide) J)<|zU (c:=3) (f:=66) C C C hr C⟩
nonrec abbrev n5:S:=.ite (.meth 0 13 #[Da Ix]) #v[.asg 6<|.meth 0 17 .nil,.ite (.cmp .gt Im<|EY 1) #v[.bad] .skip] .skip
def zk7 {ex:g'} (h:ex=-1∨∃j:Q,j<2∧ex=(j:g')) (ht:t∈OJ) (v:E2 U p<|toks (kN ex)++t::fl) (a1 a2 a3 a4 a5:Lc Th):
  (∃u r,toks (kN ex)++t::fl=u::r∧lq u)∧∃p',E2 U p' (t::fl)∧Fc pg (EZ pg W<|n+3) W 2 n5 [p3 U p,a1,a2,a3,a4,a5,E9<| -1]=R (.nx,[p3 U p',a1,a2,a3,a4,a5,E9 ex]):=by
 rcases h with C|⟨j,hj,C⟩
 ·have v0:E2 U p<|t::fl:=v
  exact⟨⟨t,fl,C,.inl ht⟩,p,v0,zR (MC v0 (G9 t ht).2.2.2.1 _) E8⟩
 ·have h0:¬((j:g')<0):=by exact xN
  have e:toks (kN j)++t::fl=(BT,PF)::(GZ,zW j)::t::fl:=by simp[kN,h0]
  (replace v:=e▸v;refine rq e ?_)
  have v1:=v.step<|by decide
  have hg:E0 pg (EZ pg W<|n+3) (.cmp .gt Im<|EY 1) [p3 U<|p+1+1,a1,a2,a3,a4,a5,E9 (j:Q)]=R (.d<|.bool La,[p3 U<|p+1+1,a1,a2,a3,a4,a5,E9 (j:Q)]):=by
   refine qt (x:=.int (j:Q)) C C ?_
   refine(?_:R (decide ((1:g')<(j:g')))=R La)
   exact rq (Lk<|zok hj) C
  exact⟨⟨_,_,C,.inr C⟩,p+1+1,v1.step (by decide:GZ≠FG),zl (O_ v (by decide) _)<|zc (zk (li v1 (TZ hj omT) _) C C)<|zb hg E8⟩
def zk8 {k:Sx} {as:Lc<|D Nd} {df:g'} {ns:D MQ} {ex:g'} (w:I9<|.cmd k as df ns ex) (ht:t∈OJ) (hn:60≤n) (v:E2 U p<|toks (FZ<|.cmd k as df ns ex)++t::fl):
  ∃m p',Rw (.cmd k as df ns ex) m∧E2 U p' (t::fl)∧EZ pg W n 65 [p3 U p,E9 s]=R (.d m,[p3 U p',E9 s]):=by
 obtain⟨q,C⟩:=IH 4 hn C
 refine ZB w λhk hA hdf hns hex=>?_
 have e:toks (FZ<|.cmd k as df ns ex)++t::fl=(BT,k)::(toks (N2 as)++(toks (qE df ns)++(toks (kN ex)++t::fl))):=by simp[FZ]
 replace v:=e▸v
 have v1:=v.step (by decide:BT≠FG)
 have hwh:∃(ma:MV) (p2:Q),nP as ma∧E2 U p2 (toks (qE df ns)++(toks (kN ex)++t::fl))∧Fc pg (EZ pg W<|q+3) W 2 (.ite (.meth 0 15 #[EY 0]) #v[.asg 3<|.meth 0 12 .nil] #v[.asg 4<|.meth 0 35 .nil]) [p3 U<|p+1,E9 s,E6 k,E6 [],FR .none,Z,Z]=R (.nx,[p3 U p2,E9 s,E6 k,E6<|MG as,FR ma,Z,Z]):=by
  clear w e;induction as with
  |Z=>
   replace v1:E2 U (p+1)<|(BT,wP)::(toks (qE df ns)++(toks (kN ex)++t::fl)):=v1
   exact⟨.none,p+1+1,C,v1.step (by decide),zl (lj v1 _)<|zc (zk (aG v1 _) C C) E8⟩
  |R as=>
   refine Fv (wh (n:=q+3) (hA as C) (Nm hn omT) v1) λms p2 hms v2 hr=>?_
   have v1':E2 U (p+1)<|toks (FA<|FX as)++(toks (qE df ns)++(toks (kN ex)++t::fl)):=v1
   replace v1':=(vX as (hA as C).n)▸v1'
   exact⟨.tup ms,p2,⟨ms,C,hms⟩,v2,zR (lj v1' _)<|zc (zk (zU (c:=3) (f:=56) C C C hr C) C C) E8⟩
 refine Fv hwh λma p2 hma v2 s2=>?_
 have hu:∃u r,toks (kN ex)++t::fl=u::r∧lq u:=by
  clear hk hA v1 hwh w e;rcases hex with C|⟨j,hj,C⟩
  ·exact⟨t,fl,C,.inl ht⟩
  ·have h0:¬((j:g')<0):=by exact xN
   exact⟨(BT,PF),(GZ,zW j)::t::fl,by simp[kN,h0],.inr C⟩
 refine F4 hu ?_;clear hu;intro u r e3 hu
 replace v2:=e3▸v2
 refine E7 (zk6 (n:=q+3) hdf hns hu (Nm hn omT) v2) λp3' v3 h3=>?_
 replace v3:=e3▸v3
 obtain⟨-,p4,v4,s5⟩:=zk7 (n:=q) hex ht v3 (E9 s) (E6 k) (E6<|MG as) (FR ma)<|FI [.int df,.tup<|ns.map MW]
 exact⟨_,p4,⟨s,ma,C,hma⟩,v4,zd (F:=IE) C C (zc (qA (zx (aG v _)<|zx C<|zx C GS) C:Fc pg (EZ pg W<|q+3) W 2 (.asgT [2,3,4] #[.meth 0 12 .nil,Da [],.lit .none]) [p3 U p,E9 s,Z,Z,Z,Z,Z]=R (.nx,[p3 U<|p+1,E9 s,E6 k,E6 [],FR .none,Z,Z]))<|zc s2<|zc (zk (h3 _) C C:Fc pg (EZ pg W<|q+3) W 2 (.asg 5 iq) [p3 U p2,E9 s,E6 k,E6<|MG as,FR ma,Z,Z]=R (.nx,[p3 U p3',E9 s,E6 k,E6<|MG as,FR ma,FI [.int df,.tup<|ns.map MW],Z]))<|zc (C:Fc pg (EZ pg W<|q+3) W 2 (.asg 6<|.neg<|EY 1) [p3 U p3',E9 s,E6 k,E6<|MG as,FR ma,FI [.int df,.tup<|ns.map MW],Z]=R (.nx,[p3 U p3',E9 s,E6 k,E6<|MG as,FR ma,FI [.int df,.tup<|ns.map MW],E9<| -1]))<|zc s5<|zw<|zr (za C<|za C<|za C<|za C<|za C<|za C Fb) C) C⟩
nonrec abbrev lr:X:=.and (.cmp .eq (.meth 0 9 .nil)<|Da Fz)<|.cmp .isin (.meth 0 10 #[EY 0])<|.tupD #[Da GA,Da FN,Da Fy,Da Fx]
nonrec abbrev Tb:S:=#v[.ite (.cmp .eq (.meth 0 10 #[EY 0])<|Da GA) #v[.asg 2<|.lit<|.bool f'] #v[.ite (.cmp .ne GU<|Da []) #v[.bad] #v[.asg 3<|.meth 0 10 #[EY 0]]],.exp<|.meth 0 12 .nil]
nonrec abbrev sv (o a1 ab mu x4 x5 x6 x7 x8:Lc Th):Ev:=[o,a1,ab,mu,x4,x5,x6,x7,x8]
def tA {x:Sx} (hx:x∈[NI,FN,Fy,Fx]) (v:E2 U p<|(BT,x)::l) (J:Ev):E0 pg (EZ pg W<|n+1) lr (p3 U p::J)=R (.d<|.bool f',p3 U p::J):=by
 refine zi (ze C (knd v _) C C C)<|ze C (yu v _) C C ?_
 simp only[w3,Z_,or_false]at hx
 clear v;rcases hx with C|rfl|rfl|rfl<;>rfl
def tB (v:E2 U p<|(BT,HV)::l) (J:Ev):E0 pg (EZ pg W<|n+1) lr (p3 U p::J)=R (.d<|.bool La,p3 U p::J):=
 zi (ze C (knd v _) C C C) (ze C (yu v _) C C C)
def zk9 (v:E2 U p<|(BT,NI)::l) (a1 ab mu:Lc Th):Fc pg (EZ pg W<|n+1) W 2 Tb (sv (p3 U p) a1 ab mu Z Z Z Z Z)=R (.nx,sv (p3 U<|p+1) a1 (GY f') mu Z Z Z Z Z):=
 zc (zl (ze C (yu v _) C C C)<|zc (zk (ρ2:=sv (p3 U p) a1 (GY f') mu Z Z Z Z Z) C C C) E8) (jO (aG v _) E8)
def zsg {mu:Sx} (hm:mu=FN∨mu=Fy∨mu=Fx) (v:E2 U p<|(BT,mu)::l) (a1 ab:Lc Th):Fc pg (EZ pg W<|n+1) W 2 Tb (sv (p3 U p) a1 ab (E6 []) Z Z Z Z Z)=R (.nx,sv (p3 U<|p+1) a1 ab (E6 mu) Z Z Z Z Z):=by
 have Y:wd mu=mu∧mu≠NI:=by rcases hm with C|rfl|rfl<;>decide
 have hw:=λJ=>yu (n:=n) v J
 simp only[Y.1]at hw
 exact zc (zR (ze C (hw _) C C<|KI Y.2)<|zc (zR C<|zc (zk (ρ2:=sv (p3 U p) a1 ab (E6 mu) Z Z Z Z Z) (hw _) C C) E8) E8)<|jO (aG v _) E8
def zgc {ab:Ld} {mu:Sx} (hm:mu∈GE) (v:E2 U p<|toks (if ab then [.nm NI,sp]else [])++(toks (zF mu)++(BT,HV)::l)) (a1:Lc Th):
  ∃p',E2 U p' ((BT,HV)::l)∧qj (E0 pg (EZ pg W<|n+1) lr) (Fc pg (EZ pg W<|n+1) W 2 Tb) W (sv (p3 U p) a1 (GY La) (E6 []) Z Z Z Z Z)=R (.nx,sv (p3 U p') a1 (GY ab) (E6 mu) Z Z Z Z Z):=by
 have step2:∀(z8 p:Q) (ab:Ld),E2 U p (toks (zF mu)++(BT,HV)::l)→2≤z8→∃p',E2 U p' ((BT,HV)::l)∧qj (E0 pg (EZ pg W<|n+1) lr) (Fc pg (EZ pg W<|n+1) W 2 Tb) z8 (sv (p3 U p) a1 (GY ab) (E6 []) Z Z Z Z Z)=R (.nx,sv (p3 U p') a1 (GY ab) (E6 mu) Z Z Z Z Z):=λz8 p ab v hN=>by
  refine dn 2 hN λz8 e=>?_
  clear hN;subst e
  by_cases h:mu=[]
  ·subst h
   have v0:E2 U p<|(BT,HV)::l:=v
   exact⟨p,v0,qn<|tB v0 _⟩
  ·have e:toks (zF mu)++(BT,HV)::l=(BT,mu)::(BT,HV)::l:=by simp[zF,h]
   replace v:=e▸v
   have h3:=kG hm h
   have v1:=v.step (by decide:BT≠FG)
   exact⟨p+1,v1,qf (tA (by clear hm h e;rcases h3 with C|rfl|rfl<;>decide) v _) (zsg h3 v _ _)<|qn<|tB v1 _⟩
 induction ab with
 |La=>
  exact step2 W p La (v:E2 U p<|toks (zF mu)++(BT,HV)::l)<|oe hW omT
 |f'=>
  have v0:E2 U p<|(BT,NI)::(toks (zF mu)++(BT,HV)::l):=v
  clear v hm
  refine E7 (step2 1999999 (p+1) f' (v0.step<|by decide)<|@bY _) λp' v2 hl=>?_
  exact⟨p',v2,qf (tA (by decide) v0 _) (zk9 v0 _ _ _) hl⟩
nonrec abbrev tC:S:=#v[.app 6<|.meth 0 16 .nil]
nonrec abbrev abS:S:=.ite (.meth 0 13 #[Da H1]) #v[.asg 5<|.meth 0 16 .nil] #v[.ite (.meth 0 13 #[Da "in"]) #v[.app 6<|.meth 0 16 .nil,.whl (.meth 0 13 #[Da "+"]) tC] .skip]
def zdb {par:Sx} {sup:D Sx} (h:(par,sup)∈S8) (v:E2 U p<|toks (xD par sup)++(EX,"{")::l) (a1 ab mu x4:Lc Th):
  ∃p',E2 U p' ((EX,"{")::l)∧Fc pg (EZ pg W<|n+2) W 2 abS (sv (p3 U p) a1 ab mu x4 (E6 []) (E4 []) Z Z)=R (.nx,sv (p3 U p') a1 ab mu x4 (E6 par) (E4<|sup.map .str) Z Z):=by
 simp only[S8,w3,Z_,or_false,Dt]at h
 rcases h with⟨C,C⟩|⟨C,C⟩|⟨C,C⟩|⟨C,C⟩
 ·have v0:E2 U p<|(EX,"{")::l:=v
  exact⟨p,v0,zR (MC v0 (by decide) _)<|zb (MC v0 (by decide) _) E8⟩
 ·have v0:E2 U p<|(BT,aE)::(BT,I5)::(EX,"{")::l:=v
  have v1:=v0.step<|by decide
  exact⟨p+1+1,v1.step (by decide),zl (O_ v0 (by decide) _)<|zc (zk (Sw v1 (by decide) _) C C) E8⟩
 ·have v0:E2 U p<|(BT,hK)::(BT,I5)::(EX,"{")::l:=v
  have v1:=v0.step<|by decide
  have v2:=v1.step<|by decide
  exact⟨p+1+1,v2,zR (MC v0 (by decide) _)<|zc (zl (O_ v0 (by decide) _)<|zc (qD (l0:=[]) (l:=[]) (ρ2:=sv (p3 U<|p+1+1) a1 ab mu x4 (E6 []) (E4 [.str I5]) Z Z) C (Sw v1 (by decide) _) C (by simp) C)<|jo (qn<|MC v2 (by decide) _) E8) E8⟩
 ·have v0:E2 U p<|(BT,hK)::(BT,I5)::(EX,"+")::(BT,Mt)::(EX,"{")::l:=v
  have v1:=v0.step<|by decide
  have v2:=v1.step<|by decide
  have v3:=v2.step<|by decide
  have v4:=v3.step<|by decide
  exact⟨p+1+1+1+1,v4,zR (MC v0 (by decide) _)<|zc (zl (O_ v0 (by decide) _)<|zc (qD (l0:=[]) (l:=[]) (ρ2:=sv (p3 U<|p+1+1) a1 ab mu x4 (E6 []) (E4 [.str I5]) Z Z) C (Sw v1 (by decide) _) C (by simp) C)<|jo (qf (O_ v2 (by decide) _) (zc (qD (l0:=[.str I5]) (l:=[.str I5]) C (Sw v3 (by decide) _) C (by simp) C) E8:Fc pg (EZ pg W<|n+2) W 2 tC (sv (p3 U<|p+1+1+1) a1 ab mu x4 (E6 []) (E4 [.str I5]) Z Z)=R (.nx,sv (p3 U<|p+1+1+1+1) a1 ab mu x4 (E6 []) (E4 [.str I5,.str Mt]) Z Z))<|qn<|MC v4 (by decide) _) E8) E8⟩
def zdc {par:Sx} {sup:D Sx} (h:(par,sup)∈S8):∃u r,toks (xD par sup)++(EX,"{")::l=u::r∧u.2≠",":=by
 simp only[S8,w3,Z_,or_false,Dt]at h
 rcases h with⟨C,C⟩|⟨C,C⟩|⟨C,C⟩|⟨C,C⟩
 ·exact⟨(EX,"{"),l,C,by decide⟩
 ·exact⟨(BT,aE),(BT,I5)::(EX,"{")::l,C,by decide⟩
 ·exact⟨(BT,hK),(BT,I5)::(EX,"{")::l,C,by decide⟩
 ·exact⟨(BT,hK),(BT,I5)::(EX,"+")::(BT,Mt)::(EX,"{")::l,C,by decide⟩
nonrec abbrev tD:X:=.ite (.cmp .eq (.meth 0 10 #[EY 0])<|Da "{") (.meth 0 35 .nil)<|.tupD .nil
def zdd {as:D Nd} (w:IR as) (ht:t∈OJ) (hn:50≤n) (v:E2 U p<|toks (jf as)++t::fl):
  ∃ms p',Nx as ms∧E2 U p' (t::fl)∧∀J,E0 pg (EZ pg W n) tD (p3 U p::J)=R (.d<|.tup ms,p3 U p'::J):=by
 obtain⟨q,C⟩:=IH 1 hn C
 by_cases he:as=[]
 ·subst he
  have v0:E2 U p<|t::fl:=v
  exact⟨[],p,C,v0,λJ=>qb (ze C (yu v0 _) C C<|KI (G9 t ht).2.2.2.2.2.2.1) C⟩
 ·have e:toks (jf as)++t::fl=toks (FA<|FX as)++t::fl:=by simp[jf,he]
  rw[e]at v
  refine Fv (wh (n:=q+1) w (Nm hn omT) v) λms p' Y v1 hr=>?_
  rw[vX as w.n]at v
  exact⟨ms,p',Y,v1,λJ=>qm (ze C (yu v _) C C C)<|zU (c:=3) (f:=56) C C C hr C⟩
def zla {xs:D Sx} {ab:Ld} {mu par:Sx} {sup:D Sx} {fs:D Dc} {as:D Nd} (w:I9<|.sig xs ab mu par sup fs as) (ht:t∈OJ) (hn:60≤n) (v:E2 U p<|toks (FZ<|.sig xs ab mu par sup fs as)++t::fl):
  ∃m p',Rw (.sig xs ab mu par sup fs as) m∧E2 U p' (t::fl)∧EZ pg W n 67 [p3 U p,E9 s]=R (.d m,[p3 U p',E9 s]):=by
 obtain⟨q,C⟩:=IH 4 hn C
 refine ZB w λhx hmu hab hF hA=>?_
 have hnm:toks (vr xs)=Ox xs∧xs≠[]∧xs.length≤1000∧∀x∈xs,qC (BT,x)=f':=by
  simp only[hR,w3,Z_,or_false]at hx
  rcases hx with C|rfl
  ·exact⟨C,by decide,by decide,by decide⟩
  ·exact⟨C,by decide,by decide,by decide⟩
 have ef:toks (qQ fs)++(toks (jf as)++t::fl)=(EX,"{")::(toks (zo<|FM fs)++(EX,"}")::(toks (jf as)++t::fl)):=by
  by_cases he:fs=[]
  ·subst he;simp[qQ,HL,F6]
  ·simp[qQ,he]
 have e:toks (FZ<|.sig xs ab mu par sup fs as)++t::fl=toks (if ab then [.nm NI,sp]else [])++(toks (zF mu)++(BT,HV)::(Ox xs++(toks (xD par sup)++(toks (qQ fs)++(toks (jf as)++t::fl))))):=by
  simp[FZ,hnm.1]
 rw[e,ef]at v
 refine E7 (zgc (n:=q+2) hmu v<|E9 s) λp1 v1 Y=>?_
 have v2:=v1.step<|by decide
 refine F4 (zdc (l:=toks (zo<|FM fs)++(EX,"}")::(toks (jf as)++t::fl)) hab) λu r eu hu=>?_
 rw[eu]at v2
 refine E7 (xx (n:=q) (dp:=0) c3 hu hnm.2.1 hnm.2.2.1 hnm.2.2.2 v2) λp2 v3 h3=>?_
 rw[←eu]at v3
 refine E7 (zdb (n:=q+1) hab v3 (E9 s) (GY ab) (E6 mu)<|FI<|xs.map .str) λp3' v4 h4=>?_
 have hFl:=hF.n
 obtain⟨mf,p5,hmf,v6,h6⟩:=WR (n:=q) (U:=U) (G':=Da "}") (I':=λq=>[E9 s,GY ab,E6 mu,FI<|xs.map .str,E6 par,E4<|sup.map .str,E4 q,Z]) (j:=7) (np:=2) (cl:="}") (.inr C) ⟨λH H H=>C,λH H H=>C,λH H=>C,λH H H=>C,C,C,C,C,sX⟩ (Nm hn omT) hF<|v4.step<|by decide
 refine Fv (zdd (n:=q+3) hA ht (Nm hn omT) v6) λma p6 hma v7 h7=>?_
 have z1:(sup.map MV.str).length≤1000000:=by
  simp only[S8,w3,Z_,or_false,Dt]at hab
  clear ht v hn hx hmu hF hA hnm ef e v2 eu hu v3 v6;rcases hab with⟨C,C⟩|⟨C,C⟩|⟨C,C⟩|⟨C,C⟩<;>decide
 exact⟨_,p6,⟨s,mf,ma,C,hmf,hma⟩,v7,zd (F:=H8) C C (zc (C:Fc pg (EZ pg W<|q+3) W 2 (.asgT [2,3] #[.lit<|.bool La,Da []]) (sv (p3 U p) (E9 s) Z Z Z Z Z Z Z)=R (.nx,sv (p3 U p) (E9 s) (GY La) (E6 []) Z Z Z Z Z))<|jo Y<|zc (zR (Jv<|O_ v1 (by decide) _) E8:Fc pg (EZ pg W<|q+3) W 2 (.ite (.not<|.meth 0 13 #[Da G2]) #v[.bad] .skip) (sv (p3 U p1) (E9 s) (GY ab) (E6 mu) Z Z Z Z Z)=R (.nx,sv (p3 U<|p1+1) (E9 s) (GY ab) (E6 mu) Z Z Z Z Z))<|zc (qA (zx (zU (c:=3) C (xA c3) C h3 C)<|zx C<|zx C GS) C:Fc pg (EZ pg W<|q+3) W 2 (.asgT [4,5,6] #[.meth 0 18 .nil,Da [],.lstD .nil]) (sv (p3 U<|p1+1) (E9 s) (GY ab) (E6 mu) Z Z Z Z Z)=R (.nx,sv (p3 U p2) (E9 s) (GY ab) (E6 mu) (FI<|xs.map .str) (E6 []) (E4 []) Z Z))<|zc h4<|zc (jA (aS v4 (by decide) _):Fc pg (EZ pg W<|q+3) W 2 (.exp<|.meth 0 14 #[Da "{"]) (sv (p3 U p3') (E9 s) (GY ab) (E6 mu) (FI<|xs.map .str) (E6 par) (E4<|sup.map .str) Z Z)=R (.nx,sv (p3 U<|p3'+1) (E9 s) (GY ab) (E6 mu) (FI<|xs.map .str) (E6 par) (E4<|sup.map .str) Z Z))<|zc (C:Fc pg (EZ pg W<|q+3) W 2 (.asg 7<|.lstD .nil) (sv (p3 U<|p3'+1) (E9 s) (GY ab) (E6 mu) (FI<|xs.map .str) (E6 par) (E4<|sup.map .str) Z Z)=R (.nx,sv (p3 U<|p3'+1) (E9 s) (GY ab) (E6 mu) (FI<|xs.map .str) (E6 par) (E4<|sup.map .str) (E4 []) Z))<|jo h6<|zc (zk (h7 _) C C:Fc pg (EZ pg W<|q+3) W 2 (.asg 8 tD) (sv (p3 U p5) (E9 s) (GY ab) (E6 mu) (FI<|xs.map .str) (E6 par) (E4<|sup.map .str) (E4 mf) Z)=R (.nx,sv (p3 U p6) (E9 s) (GY ab) (E6 mu) (FI<|xs.map .str) (E6 par) (E4<|sup.map .str) (E4 mf)<|FI ma))<|zq (jK (zr (za C<|za C<|za C<|za C<|za C<|za C<|za (jJ (w:=.l<|sup.map .str) C<|kZ z1)<|za (jJ (w:=.l mf) C<|kZ (by have:=G8 hmf;exact Ua hFl this:mf.length≤1000000))<|za C Fb) C):Fc pg (EZ pg W<|q+3) W 2 (.ret<|.tupD #[Da G2,Fe,Iq,FD,GU,G_,.b1 .tuple Im,.b1 .tuple OO,Ru]) (sv (p3 U p6) (E9 s) (GY ab) (E6 mu) (FI<|xs.map .str) (E6 par) (E4<|sup.map .str) (E4 mf)<|FI ma)=R (.rt<|.d<|.tup [.str HV,.int s,.tup<|xs.map .str,.bool ab,.str mu,.str par,.tup<|sup.map .str,.tup mf,.tup ma],sv (p3 U p6) (E9 s) (GY ab) (E6 mu) (FI<|xs.map .str) (E6 par) (E4<|sup.map .str) (E4 mf)<|FI ma))) C⟩
def Rc:∀(i:It),I9 i→∃t r,toks (FZ i)=t::r∧t∈OJ∧t.1=BT
 | .opn al,w=>⟨(BT,IY),_,C,by decide,C⟩
 | .sig xs ab mu par sup fs as,w=>by
  induction ab with
  |f'=>exact⟨(BT,NI),_,C,by decide,C⟩
  |La=>
   have hm:=w.2.1
   by_cases h:mu=[]
   ·subst h;exact⟨(BT,HV),_,C,by decide,C⟩
   ·rcases kG hm h with C|rfl|rfl
    ·exact⟨_,_,C,by decide,C⟩
    ·exact⟨_,_,C,by decide,C⟩
    ·exact⟨_,_,C,by decide,C⟩
 | .fact nm as,w=>⟨(BT,Ik),_,C,by decide,C⟩
 | .asrt as,w=>⟨(BT,GJ),_,C,by decide,C⟩
 | .pred ps as,w=>⟨(BT,HP),_,C,by decide,C⟩
 | .func ps mu r b,w=>⟨(BT,HW),_,C,by decide,C⟩
 | .cmd k as df ns ex,w=>by
  rcases w.1 with C|rfl
  ·exact⟨(BT,O5),_,C,by decide,C⟩
  ·exact⟨(BT,Ms),_,C,by decide,C⟩
nonrec abbrev tE:X:=.and (.cmp .eq (.meth 0 9 .nil)<|Da Fz)<|.cmp .isin (.meth 0 10 #[EY 0])<|.tupD #[Da "run",Da H0]
abbrev JO (n:Q) (U:D MV) (i:It) (l l':D Tk):Prop:=∀p,E2 U p l→∃m p',Rw i m∧E2 U p' l'∧EZ pg W n 60 [p3 U p]=R (.d m,[p3 U p'])
def zgd {al:Sx} (w:I9<|.opn al) (ht:t∈OJ) (hn:60≤n):JO (n+1) U (.opn al) (toks (FZ<|.opn al)++t::fl)<|t::fl:=λp v=>by
 obtain⟨q,C⟩:=IH 3 hn C
 have e:toks (FZ<|.opn al)++t::fl=(BT,IY)::((BT,IZ)::(EX,"[")::(BT,G0)::(EX,"]")::(toks (if al=[]then []else [sp,.nm hH,sp,.nm al])++t::fl)):=by simp[FZ]
 rw[e]at v
 refine Fg (jR (n:=q+2) (dp:=0) c3 v) λs hs=>?_
 refine Fv (zf1 (n:=q+3) (s:=s) w ht (Nm hn omT)<|v.step<|by decide) λm p' hm v' hr=>?_
 exact⟨m,p',hm,v',zd (F:=F8) (J:=[p3 U p',E9 s]) C C (zc (zk (hs _) C C)<|zG (O_ v (by decide) _)<|qe (c:=3) (f:=62) C C C C hr C) C⟩
def zge {nm:Sx} {as:D Nd} (w:I9<|.fact nm as) (hn:60≤n):JO (n+1) U (.fact nm as) (toks (FZ<|.fact nm as)++fl) fl:=λp v=>by
 obtain⟨q,C⟩:=IH 3 hn C
 have e:toks (FZ<|.fact nm as)++fl=(BT,Ik)::(toks (if nm=[]then []else [sp,.nm nm])++(toks (FA<|FX as)++fl)):=by simp[FZ]
 rw[e]at v
 refine Fg (jR (n:=q+2) (dp:=0) c3 v) λs hs=>?_
 have v1:=v.step (by decide:BT≠FG)
 have hk:∃p1,E2 U p1 (toks (FA<|FX as)++fl)∧∀J,E0 pg (EZ pg W<|q+3) (.ite (.meth 0 15 #[EY 0]) (.meth 0 12 .nil)<|Da []) (p3 U (p+1)::J)=R (.d<|.str nm,p3 U p1::J):=by
  clear e;rcases w.1 with C|rfl
  ·replace v1:E2 U (p+1)<|toks (FA<|FX as)++fl:=v1
   have v2:=v1
   rw[vX as w.2.n]at v2
   exact⟨p+1,v1,λJ=>qb (lj v2 _) C⟩
  ·replace v1:E2 U (p+1)<|(BT,Nj)::(toks (FA<|FX as)++fl):=v1
   exact⟨p+1+1,v1.step (by decide),λJ=>qm (lj v1 _)<|aG v1 _⟩
 refine E7 hk ?_;clear hk;intro p1 v2 hk
 refine Fv (wh (n:=q+3) w.2 (Nm hn omT) v2) λms p2 hms v3 hr=>?_
 exact⟨_,p2,⟨s,ms,C,hms⟩,v3,zd (F:=F8) (J:=[p3 U p2,E9 s]) C C (zc (zk (hs _) C C)<|zb (MC v (by decide) _)<|zG (O_ v (by decide) _)<|zr (za C<|za C<|za (hk _)<|za (zU (c:=3) (f:=56) C C C hr C) Fb) C) C⟩
def zgf {as:D Nd} (w:I9<|.asrt as) (hn:60≤n):JO (n+1) U (.asrt as) (toks (FZ<|.asrt as)++fl) fl:=λp v=>by
 obtain⟨q,C⟩:=IH 3 hn C
 have e:toks (FZ<|.asrt as)++fl=(BT,GJ)::(BT,Nj)::(toks (FA<|FX as)++fl):=by simp[FZ]
 rw[e]at v
 refine Fg (jR (n:=q+2) (dp:=0) c3 v) λs hs=>?_
 have v1:=v.step (by decide:BT≠FG)
 refine Fv (wh (n:=q+3) w (Nm hn omT)<|v1.step<|by decide) λms p2 hms v3 hr=>?_
 exact⟨_,p2,⟨s,ms,C,hms⟩,v3,zd (F:=F8) (J:=[p3 U p2,E9 s]) C C (zc (zk (hs _) C C)<|zb (MC v (by decide) _)<|zb (MC v (by decide) _)<|zG (O_ v (by decide) _)<|zr (za C<|za C<|za (Sw v1 (by decide) _)<|za (zU (c:=3) (f:=56) C C C hr C) Fb) C) C⟩
def zgg {ps:D Dc} {as:D Nd} (w:I9<|.pred ps as) (hn:60≤n):JO (n+1) U (.pred ps as) (toks (FZ<|.pred ps as)++fl) fl:=λp v=>by
 obtain⟨q,C⟩:=IH 3 hn C
 have e:toks (FZ<|.pred ps as)++fl=(BT,HP)::(BT,wP)::(toks (qL ps)++(toks (FA<|FX as)++fl)):=by simp[FZ]
 rw[e]at v
 refine Fg (jR (n:=q+2) (dp:=0) c3 v) λs hs=>?_
 have v1:=v.step (by decide:BT≠FG)
 have v2:=v1.step (by decide:BT≠FG)
 have eb:=vX (fl:=fl) as w.2.n
 rw[eb]at v2
 refine Fv (Zx (n:=q+3) (t:=(EX,"{")) w.1 (by decide) (Nm hn omT) v2) λmp p3' hmp v3 hr1=>?_
 rw[←eb]at v3
 refine Fv (wh (n:=q+3) w.2 (Nm hn omT) v3) λms p2 hms v4 hr=>?_
 exact⟨_,p2,⟨s,mp,ms,C,hmp,hms⟩,v4,zd (F:=F8) (J:=[p3 U p2,E9 s]) C C (zc (zk (hs _) C C)<|zb (MC v (by decide) _)<|zb (MC v (by decide) _)<|zb (MC v (by decide) _)<|zG (O_ v (by decide) _)<|zr (za C<|za C<|za (Sw v1 (by decide) _)<|za (zU (c:=3) (f:=63) C C C hr1 C)<|za (zU (c:=3) (f:=56) C C C hr C) Fb) C) C⟩
def zgh {ps:D Dc} {mu:Sx} {r b:Nd} (w:I9<|.func ps mu r b) (hn:70≤n):JO (n+1) U (.func ps mu r b) (toks (FZ<|.func ps mu r b)++fl) fl:=λp v=>by
 obtain⟨q,C⟩:=IH 3 hn C
 have e:toks (FZ<|.func ps mu r b)++fl=(BT,HW)::((BT,wF)::(toks (qL ps)++(EX,":")::(toks (zF mu)++(ND r 8++(EX,"{")::(tk b++(EX,"}")::fl))))):=by simp[FZ,ND,tk]
 rw[e]at v
 refine Fg (jR (n:=q+2) (dp:=0) c3 v) λs hs=>?_
 refine Fv (zf2 (n:=q+3) (s:=s) w (Nm hn omT)<|v.step<|by decide) λm p' hm v' hr=>?_
 exact⟨m,p',hm,v',zd (F:=F8) (J:=[p3 U p',E9 s]) C C (zc (zk (hs _) C C)<|zb (MC v (by decide) _)<|zb (MC v (by decide) _)<|zb (MC v (by decide) _)<|zb (MC v (by decide) _)<|zG (O_ v (by decide) _)<|qe (c:=3) (f:=64) C C C C hr C) C⟩
def zlb {k:Sx} {as:Lc<|D Nd} {df:g'} {ns:D MQ} {ex:g'} (w:I9<|.cmd k as df ns ex) (ht:t∈OJ) (hn:70≤n):JO (n+1) U (.cmd k as df ns ex) (toks (FZ<|.cmd k as df ns ex)++t::fl)<|t::fl:=λp v=>by
 refine cps λGG kk=>?_
 obtain⟨q,C⟩:=IH 3 hn C
 have e:∃r,toks (FZ<|.cmd k as df ns ex)++t::fl=(BT,k)::r:=⟨_,C⟩
 refine Fg e ?_;clear e;intro r e
 have v0:=v
 rw[e]at v
 refine Fg (jR (n:=q+2) (dp:=0) c3 v) λs hs=>?_
 refine Fv (zk8 (n:=q+3) (s:=s) w ht (Nm hn omT) v0) λm p' hm v' hr=>?_
 have hT:∀J,E0 pg (EZ pg W<|q+3) tE (p3 U p::J)=R (.d<|.bool f',p3 U p::J):=λJ=>by
  refine zi (ze C (knd v _) C C C)<|ze C (yu v _) C C ?_
  clear ht hn e v0;rcases w.1 with C|rfl<;>rfl
 have hne:k≠IY∧k≠Ik∧k≠GJ∧k≠HP∧k≠HW:=by clear ht;clear hn e v0;rcases w.1 with C|rfl<;>decide
 refine kk ?_
 exact⟨m,p',hm,v',zd (F:=F8) (J:=[p3 U p',E9 s]) C C (zc (zk (hs _) C C)<|zb (MC v hne.1 _)<|zb (MC v hne.2.1 _)<|zb (MC v hne.2.2.1 _)<|zb (MC v hne.2.2.2.1 _)<|zb (MC v hne.2.2.2.2 _)<|zG (hT _)<|qe (c:=3) (f:=65) C C C C hr C) C⟩
def zlc {xs:D Sx} {ab:Ld} {mu par:Sx} {sup:D Sx} {fs:D Dc} {as:D Nd} (hm:mu∈GE):∃x r,toks (FZ<|.sig xs ab mu par sup fs as)++l=(BT,x)::r∧x∈[NI,HV,FN,Fy,Fx]:=by
 induction ab with
 |f'=>exact⟨_,_,C,by decide⟩
 |La=>
  by_cases h:mu=[]
  ·subst h;exact⟨_,_,C,by decide⟩
  ·rcases kG hm h with C|rfl|rfl
   ·exact⟨_,_,C,by decide⟩
   ·exact⟨_,_,C,by decide⟩
   ·exact⟨_,_,C,by decide⟩
def zld {xs:D Sx} {ab:Ld} {mu par:Sx} {sup:D Sx} {fs:D Dc} {as:D Nd} (w:I9<|.sig xs ab mu par sup fs as) (ht:t∈OJ) (hn:70≤n):JO (n+1) U (.sig xs ab mu par sup fs as) (toks (FZ<|.sig xs ab mu par sup fs as)++t::fl)<|t::fl:=λp v=>by
 obtain⟨q,C⟩:=IH 3 hn C
 refine F4 (zlc (xs:=xs) (ab:=ab) (mu:=mu) (par:=par) (sup:=sup) (fs:=fs) (as:=as) (l:=t::fl) w.2.1) λx r e hx=>?_
 have v0:=v
 rw[e]at v
 refine Fg (jR (n:=q+2) (dp:=0) c3 v) λs hs=>?_
 refine Fv (zla (n:=q+3) (s:=s) w ht (Nm hn omT) v0) λm p' hm v' hr=>?_
 have hne:x≠IY∧x≠Ik∧x≠GJ∧x≠HP∧x≠HW∧wd x∉[O5,Ms]:=by
  have:∀x∈[NI,HV,FN,Fy,Fx],x≠IY∧x≠Ik∧x≠GJ∧x≠HP∧x≠HW∧wd x∉[O5,Ms]:=by decide
  exact this x hx
 have hT:∀J,E0 pg (EZ pg W<|q+3) tE (p3 U p::J)=R (.d<|.bool La,p3 U p::J):=λJ=>by
  refine zi (ze C (knd v _) C C C)<|ze C (yu v _) C C ?_
  have:=qJ (k:=wd x) [O5,Ms]
  rw[Lk hne.2.2.2.2.2]at this;exact this
 exact⟨m,p',hm,v',zd (F:=F8) (J:=[p3 U p',E9 s]) C C (zc (zk (hs _) C C)<|zb (MC v hne.1 _)<|zb (MC v hne.2.1 _)<|zb (MC v hne.2.2.1 _)<|zb (MC v hne.2.2.2.1 _)<|zb (MC v hne.2.2.2.2.1 _)<|zb (hT _)<|zw<|qe (c:=3) (f:=67) C C C C hr C) C⟩
def zgi (hn:75≤n) (ht:t∈OJ):∀i:It,I9 i→JO n U i (toks (FZ i)++t::fl) (t::fl):=λi w=>by
 obtain⟨q,C⟩:=IH 1 hn C
 induction i with
 |opn al=>exact zgd w ht<|Nk hn omT
 |sig=>exact zld w ht<|Nk hn omT
 |fact=>exact zge w<|Nk hn omT
 |asrt=>exact zgf w<|Nk hn omT
 |pred=>exact zgg w<|Nk hn omT
 |func=>exact zgh w<|Nk hn omT
 |cmd=>exact zlb w ht<|Nk hn omT
def zle {P:Pg} {cl:HM} {np j:Q} {e:X} {J ρ1 ρ2:Ev} {l l0 m0:D MV} (h0:gt J j=E4 l0) (he:E0 P cl e J=R (.l m0,ρ1)) (Y:gt ρ1 j=E4 l) (hz:l.length+m0.length≤1000000) (hs:st ρ1 j (.l<|l++m0)=ρ2):Fc P cl W np (.ext j e) J=R (.nx,ρ2):=by
 subst hs;exact zrh h0 he Y hz
def Zy (i:It) (is:D It):toks (wA<|i::is)=toks (FZ i)++toks (wA is):=by simp[wA]
def So:∀is:D It,(∀i∈is,I9 i)→∃t r,toks (wA is)++[(FG,[])]=t::r∧t∈OJ
 |[],_=>⟨(FG,[]),[],C,by decide⟩
 |i::is,w=>by
  refine Fv (Rc i<|w i<|by simp) λt r e ht H=>?_
  exact⟨t,r++(toks (wA is)++[(FG,[])]),by(rewrite [Zy];refine rq e ?_);simp,ht⟩
nonrec abbrev tF:X:=.cmp .ne (.meth 0 9 .nil)<|Da HG
nonrec abbrev imB:S:=#v[.asg 2<|.meth 0 11 .nil,.ext 1 (.ite (.meth 0 13 #[Da Mu]) (.meth 0 40 #[FD])<|.lstD #[.meth 0 39 .nil]),.ite (.call 18 #[.idx Fe<|.neg<|EY 1]) #v[.bad] .skip]
def KR (hn:75≤n) (is:D It):∀(p z8:Q) (q:D MV) (x2:Lc Th),(∀i∈is,I9 i)→E2 U p (toks (wA is)++[(FG,[])])→is.length<z8→q.length+is.length≤1000→
  ∃ms p' x2',PG is ms∧qj (E0 pg (EZ pg W<|n+3) tF) (Fc pg (EZ pg W<|n+3) W 1 imB) z8 [p3 U p,E4 q,x2]=R (.nx,[p3 U p',E4<|q++ms,x2']):=by
 induction is with
 |nil=>
  intro p z8 q x2 w v hN hz
  obtain⟨z8,C,h0⟩:=qr hN
  have v0:E2 U p<|(FG,[])::[]:=v
  refine⟨[],p,x2,.nil,?_⟩
  rw[Z8]
  exact qn<|ze C (knd v0 _) C C C
 |cons i is ih=>
  intro p z8 q x2 w v hN hz
  obtain⟨z8,C,h0⟩:=qr hN
  refine cps λGG kk=>?_
  simp only[j1]at hN hz
  have wi:=w i<|by simp
  have ws:∀j∈is,I9 j:=λj hj=>w j<|by simp[hj]
  refine Fv (Rc i wi) λt r e ht hk=>?_
  refine F4 (So is ws) λu r' e' hu=>?_
  have v0:E2 U p<|t::(r++u::r'):=by rw[Zy,e]at v;simpa[←e']using v
  have v1:E2 U p<|toks (FZ i)++u::r':=by refine rq e ?_;exact v0
  refine Fv (zgi (n:=n+3) (xM hn omT) hu i wi p v1) λm p1 hm v2 hr=>?_
  rw[←e']at v2
  refine Fg (jR (n:=n+2) (dp:=0) c3 v0) λs hs=>?_
  refine E7 (tzI i hm wi) λx hx hT=>?_
  obtain⟨ms,p2,x2',hms,hl⟩:=ih p1 z8 (q++[m]) (E9 s) ws v2 h0<|by simp;exact WY hz omT
  refine kk ?_
  refine⟨m::ms,p2,x2',.cons hm hms,?_⟩
  have hkn:t.1≠HG:=by refine rq hk ?_;decide
  have c1:E0 pg (EZ pg W<|n+3) tF [p3 U p,E4 q,x2]=R (.d<|.bool f',[p3 U p,E4 q,x2]):=ze C (knd v0 _) C C<|by(rewrite [sW];refine rq (Lk hkn) ?_);rfl
  have b1:Fc pg (EZ pg W<|n+3) W 1 (.asg 2<|.meth 0 11 .nil) [p3 U p,E4 q,x2]=R (.nx,[p3 U p,E4 q,E9 s]):=zk (hs _) C C
  have b2:Fc pg (EZ pg W<|n+3) W 1 (.ext 1 (.ite (.meth 0 13 #[Da Mu]) (.meth 0 40 #[FD])<|.lstD #[.meth 0 39 .nil])) [p3 U p,E4 q,E9 s]=R (.nx,[p3 U p1,E4<|q++[m],E9 s]):=
   zle (l0:=q) (l:=q) (m0:=[m]) (ρ1:=[p3 U p1,E4 q,E9 s]) C (qb (MC v0 (G9 t ht).2.2.2.2.2.2.2.2.2 _)<|Jf (za (zU (c:=3) (f:=60) C C C hr C) Fb) C) C (by simp;exact Qn hz omT) C
  clear hm hr;subst hx
  have hh:=WK (n:=n+2) hT (FQ omT)<|FQ omT
  have b3:Fc pg (EZ pg W<|n+3) W 1 (.ite (.call 18 #[.idx Fe<|.neg<|EY 1]) #v[.bad] .skip) [p3 U p1,E4<|q++[.tup x],E9 s]=R (.nx,[p3 U p1,E4<|q++[.tup x],E9 s]):=
   zR (wn (U:=[FI x]) (ts':=[FI x]) (zf (jw C<|kU (l:=q++[.tup x]) (z:=.tup x) C C C<|vQ<|fN hz) Fk) C hh C) E8
  have:=qf c1 (zc b1<|zc b2<|zc b3 E8) hl
  simpa using this
def zgj {P:Pg} {cl:HM} {a:X} {m c f:Q} {fs:D Fl} {J ρ1 ts':Ev} {r:Th} (ha:E0 P cl a J=R (.o c fs,ρ1)) (hm:P.mt c m=R f) (U':cl f [R<|.o c fs]=R (r,ts')):E0 P cl (.methT a m .nil) J=R (r,ρ1):=bn ha<|bn hm<|mp U' C
def zde {is:D It} (w:∀i∈is,I9 i) (hl:is.length≤2) (hn:85≤n):∃ms,PG is ms∧EZ pg W (n+1) 68 [E6<|flat<|wA is]=R (.l ms,[E6<|flat<|wA is]):=by
 obtain⟨q,C⟩:=IH 5 hn C
 have hI:PG is<|is.map zI:=by
  clear hl w
  induction is with
  |nil=>exact .nil
  |cons i is ih=>exact .cons (Sn i) ih
 refine E7 (WM (n:=q) (zfy w)<|Ga ((xG (n:=27) hI w hl<|FQ omT).2) omT) λU v hr=>?_
 obtain⟨ms,p',x2',hms,hlp⟩:=KR (n:=q+1) (Nm hn omT) is 0 W [] Z w v (JP hW hl omT)<|by simp;exact Ga hl omT
 refine F4 (So is w) λu r' e' hu=>?_
 have v1:=v
 rw[e']at v1
 refine⟨ms,hms,zd (F:=M7) (J:=[E6<|flat<|wA is]) C C (zw<|zgj (sL (n:=q+4) (c:=3) (J:=[]) (.inr C) hr) (f:=59) (ts':=[p3 U p']) C ?_) C⟩
 ·exact zd (F:=Mh) (J:=[p3 U p',Z,x2']) C C (zc (zk (ρ2:=[p3 U 0,E4 [],Z]) C C C)<|zb (MC v1 (G9 u hu).2.2.2.2.2.2.2.2.1 _)<|jo hlp<|zw C) C
end
mutual section
variable {n:Q} {cs:D g'} {s:Q} {lf:g'}
nonrec abbrev I1 (t x2 x3 x4 x5 x6:Lc Th):Ev:=[Z,t,x2,x3,x4,x5,x6]
def zsh {x:Nd} (h:ht x≤3):jE .ne (zn x) (zn x)=R La:=by
 have Y:=Hf x
 refine Fg (WL<|Gr x) λl e=>?_
 rw[e]at Y⊢
 refine JC (k:=20) ⟨by simpa[MV.flat]using Y.1,?_⟩<|FQ omT
 have:=Y.2
 simp only[MV.dep]at this;exact fO h this
nonrec abbrev ir:S:=#v[.setF 0 1 2<|EY 9,.asg 3<|.call 76 #[Fe,EY 3],.asg 4<|.call 11 #[GU],.asg 5<|.call 69 #[Iq],.ite (.or (.cmp .ne (.call 82 #[G_]) GU)<|.cmp .ne (.call 11 #[G_]) Iq) #v[.ret<|.lit<|.bool La] .skip]
def WW (U':cs.length≤60) (hn:100≤n) (hs:s≤50000) (x2 x3 x4 x5:Lc Th):∃(s':Q) (lf':g') (x3' x4' x5':Lc Th),s'≤s+1000∧Fc pg (EZ pg W n) W 1 ir (I1 (tp cs s lf) x2 x3 x4 x5 Z)=R (.nx,I1 (tp cs s' lf') x2 x3' x4' x5' Z):=by
 refine cps λGG kk=>?_
 obtain⟨q,C⟩:=IH 1 hn C
 obtain⟨x,s',lf',w,hh,Y,hr⟩:=JN (n:=q+1) U' 3 (q0 (by decide) hn) s 9<|by simp only[lm];exact fP hs
 simp only[lm]at Y
 refine E7 (zcs (n:=q) w hh<|Nk hn omT) λm hm hb=>?_
 refine kk ?_
 exact⟨s',lf',_,_,_,fR Y,zc (C:Fc pg (EZ pg W<|q+1) W 1 (.setF 0 1 2<|EY 9) (I1 (tp cs s lf) x2 x3 x4 x5 Z)=R (.nx,I1 (tp cs s 9) x2 x3 x4 x5 Z))<|zc (zk (xd C C C hr C) C C:Fc pg (EZ pg W<|q+1) W 1 (.asg 3<|.call 76 #[Fe,EY 3]) (I1 (tp cs s 9) x2 x3 x4 x5 Z)=R (.nx,I1 (tp cs s' lf') x2 (FR<|zn x) x4 x5 Z))<|zc (zk (qP C C (ZU (n:=q+1) x (Gr x) w hh<|Tt hn hh) C) C C:Fc pg (EZ pg W<|q+1) W 1 (.asg 4<|.call 11 #[GU]) (I1 (tp cs s' lf') x2 (FR<|zn x) x4 x5 Z)=R (.nx,I1 (tp cs s' lf') x2 (FR<|zn x) (E6<|pp x) x5 Z))<|zc (zk (qP C C hb C) C C:Fc pg (EZ pg W<|q+1) W 1 (.asg 5<|.call 69 #[Iq]) (I1 (tp cs s' lf') x2 (FR<|zn x) (E6<|pp x) x5 Z)=R (.nx,I1 (tp cs s' lf') x2 (FR<|zn x) (E6<|pp x) (FR m) Z))<|zb (Kx (ze C (qP C C (wg x _ (q+1) hm w<|fQ hn hh) C) C C (zsh hh):E0 pg (EZ pg W<|q+1) (.cmp .ne (.call 82 #[G_]) GU) (I1 (tp cs s' lf') x2 (FR<|zn x) (E6<|pp x) (FR m) Z)=R (.d<|.bool La,I1 (tp cs s' lf') x2 (FR<|zn x) (E6<|pp x) (FR m) Z)) (ze C (qP C C (ZU (n:=q+1) x hm w hh<|Tt hn hh) C) C C (by(rewrite [sW];refine rq (Ll C) ?_);rfl):E0 pg (EZ pg W<|q+1) (.cmp .ne (.call 11 #[G_]) Iq) (I1 (tp cs s' lf') x2 (FR<|zn x) (E6<|pp x) (FR m) Z)=R (.d<|.bool La,I1 (tp cs s' lf') x2 (FR<|zn x) (E6<|pp x) (FR m) Z))) E8⟩
nonrec abbrev iu:S:=#v[.setF 0 1 2<|EY 6,.app 6<|.call 81 #[Fe,.idx (.call 74 .nil)<|.call 75 #[Fe,EY 8]]]
def WX (U':cs.length≤60) (hn:100≤n) (hs:s≤40000) (x2 x3 x4 x5:Lc Th) {q:D MV} (hq:q.length≤10):∃(i:It) (s':Q) (lf':g'),I9 i∧s'≤s+2000∧Fc pg (EZ pg W n) W 1 iu (I1 (tp cs s lf) x2 x3 x4 x5<|E4 q)=R (.nx,I1 (tp cs s' lf') x2 x3 x4 x5<|E4<|q++[zI i]):=by
 obtain⟨k,C⟩:=IH 1 hn C
 have h8:=WU (n:=k) (cs:=cs) (s:=s) (lf:=6) U' (Ga hs omT) (m:=8)<|by decide
 refine E7 (WV MV.str (l:=Rb) (k:=dv cs s 8) (by decide)<|jT (cs:=cs) (s:=s) (m:=8)<|by decide) λkd hkd hx=>?_
 generalize dv cs s 8=j at h8 hx
 refine Gm (zf9 (n:=k+1) U' (Nm hn omT) hkd (s+1) 6<|yo hs omT) λi s' lf' w Y hr=>?_
 exact⟨i,s',lf',w,lN Y omT,zc (C:Fc pg (EZ pg W<|k+1) W 1 (.setF 0 1 2<|EY 6) (I1 (tp cs s lf) x2 x3 x4 x5<|E4 q)=R (.nx,I1 (tp cs s 6) x2 x3 x4 x5<|E4 q))<|zc (qD (l0:=q) (l:=q) C (xd C (jw C (kU (l:=Rb.map .str) (qg C C C) C (xd C C C h8 C:E0 pg (EZ pg W<|k+1) (.call 75 #[Fe,EY 8]) (I1 (tp cs s 6) x2 x3 x4 x5<|E4 q)=R (.d<|.int (j:Q),I1 (tp cs (s+1) 6) x2 x3 x4 x5<|E4 q)) hx:E0 pg (EZ pg W<|k+1) (.idx (.call 74 .nil)<|.call 75 #[Fe,EY 8]) (I1 (tp cs s 6) x2 x3 x4 x5<|E4 q)=R (.d<|.str kd,I1 (tp cs (s+1) 6) x2 x3 x4 x5<|E4 q))) C hr C:E0 pg (EZ pg W<|k+1) (.call 81 #[Fe,.idx (.call 74 .nil)<|.call 75 #[Fe,EY 8]]) (I1 (tp cs s 6) x2 x3 x4 x5<|E4 q)=R (.d<|zI i,I1 (tp cs s' lf') x2 x3 x4 x5<|E4 q)) C (Ga hq omT) C) E8⟩
def zlf {P:Pg} {cl:HM} {o:Oh} {a:X} {j:Q} {J ρ1:Ev} {x y:D MV} {z:Ld} (ha:opn a (E0 P cl a) J=R (.l x,ρ1)) (hb:gt ρ1 j=R (.l y)) (hz:Nn o x y=R z):E0 P cl (.cmp o a<|.var j) J=R (.d<|.bool z,ρ1):=bn (o:=opn a (E0 P cl a) J) ha<|by refine(?_:(match gt ρ1 j with|R (.l y)=>(Nn o x y).map λz=>(Th.d<|.bool z,ρ1)|_=>Z)=_);refine rq hb ?_;exact mp hz C
def Sq:∀is:D It,PG is<|is.map zI
 |[]=>.nil
 |i::is=>.cons (Sn i)<|Sq is
def Sr:∀is:D It,(∀i∈is,I9 i)→OH 21 (is.map zI)
 |[],_=>.nil
 |i::is,w=>.cons (hV i<|w i<|by simp)<|Sr is λj hj=>w j (by simp[hj])
def law_ok (U':cs.length≤60) (hn:100≤n):∃ρ',Fc pg (EZ pg W n) W 1 PP [Z,R<|.o 0 [.l<|cs.map .int,.d<|.int 0,.d<|.int 9],Z,Z,Z,Z,Z]=R (.rt<|.d<|.bool f',ρ'):=by
 refine cps λGG kk=>?_
 obtain⟨q,C⟩:=IH 1 hn C
 obtain⟨s1,lf1,y3,y4,y5,b1,Y⟩:=WW (n:=q+1) (cs:=cs) (s:=0) (lf:=9) U' (Nm hn omT) (FQ omT) (iD 0) Z Z Z
 obtain⟨s2,lf2,z3,z4,z5,b2,T'⟩:=WW (n:=q+1) (cs:=cs) (s:=s1) (lf:=lf1) U' (Nm hn omT) (fU b1) (iD 1) y3 y4 y5
 refine Gm (WX (n:=q+1) (cs:=cs) (s:=s2) (lf:=lf2) U' (Nm hn omT) (fW b1 b2) (iD 0) z3 z4 z5 (q:=[])<|by simp) λi s3 lf3 wi b3 h3=>?_
 refine Gm (WX (n:=q+1) (cs:=cs) (s:=s3) (lf:=lf3) U' (Nm hn omT) (fX b2 b1 b3) (iD 1) z3 z4 z5 (q:=[zI i])<|by simp) λj s4 lf4 wj b4 h4=>?_
 have w:∀x∈[i,j],I9 x:=by
  intro x hx
  refine cps λGG kk=>?_
  simp only[w3,Z_,or_false]at hx
  refine kk ?_
  rcases hx with C|rfl
  ·exact wi
  ·exact wj
 have ht:=(xG (n:=q) (Sq [i,j]) w (by simp)<|Nk hn omT).1
 refine E7 (zde (n:=q) w (by simp)<|Nk hn omT) λms hms hr=>?_
 have ht2:=(xG (n:=q) hms w (by simp)<|Nk hn omT).1
 refine kk ?_
 have hml:=F2.len hms
 generalize flat (wA [i,j])=T at ht hr ht2
 exact⟨_,zc (xI (k:=2) C C (by decide) (kJ Y<|kJ T' C):Fc pg (EZ pg W<|q+1) W 1 (.forR 2 (EY 2) ir) (I1 (tp cs 0 9) Z Z Z Z Z)=R (.nx,I1 (tp cs s2 lf2) (iD 1) z3 z4 z5 Z))<|zc (C:Fc pg (EZ pg W<|q+1) W 1 (.asg 6<|.lstD .nil) (I1 (tp cs s2 lf2) (iD 1) z3 z4 z5 Z)=R (.nx,I1 (tp cs s2 lf2) (iD 1) z3 z4 z5<|E4 []))<|zc (xI (k:=2) C C (by decide) (kJ h3<|kJ h4 C):Fc pg (EZ pg W<|q+1) W 1 (.forR 2 (EY 2) iu) (I1 (tp cs s2 lf2) (iD 1) z3 z4 z5<|E4 [])=R (.nx,I1 (tp cs s4 lf4) (iD 1) z3 z4 z5<|E4 [zI i,zI j]))<|zc (zk (qP C C ht C) C C:Fc pg (EZ pg W<|q+1) W 1 (.asg 4<|.call 17 #[Im]) (I1 (tp cs s4 lf4) (iD 1) z3 z4 z5<|E4 [zI i,zI j])=R (.nx,I1 (tp cs s4 lf4) (iD 1) z3 (E6 T) z5<|E4 [zI i,zI j]))<|zc (zk (qP C C hr C) C C:Fc pg (EZ pg W<|q+1) W 1 (.asg 5<|.call 68 #[Iq]) (I1 (tp cs s4 lf4) (iD 1) z3 (E6 T) z5<|E4 [zI i,zI j])=R (.nx,I1 (tp cs s4 lf4) (iD 1) z3 (E6 T) (E4 ms)<|E4 [zI i,zI j]))<|zw<|zi (zlf (qg C (kV (w:=.l ms) C C (by simp at hml;exact fY hml) (KN (n:=q+1) hms w<|Nm hn omT).map) C) C (zcl (Sr [i,j] w)<|FQ omT):E0 pg (EZ pg W<|q+1) (.cmp .eq (.comp 0 G_<|.call 84 #[Ff]) Im) (I1 (tp cs s4 lf4) (iD 1) z3 (E6 T) (E4 ms)<|E4 [zI i,zI j])=R (.d<|.bool f',I1 (tp cs s4 lf4) (iD 1) z3 (E6 T) (E4 ms)<|E4 [zI i,zI j])) (ze C (qP C C ht2 C) C C (by(rewrite [ij];exact rq (Ll C) C)):E0 pg (EZ pg W<|q+1) (.cmp .eq (.call 17 #[G_]) Iq) (I1 (tp cs s4 lf4) (iD 1) z3 (E6 T) (E4 ms)<|E4 [zI i,zI j])=R (.d<|.bool f',I1 (tp cs s4 lf4) (iD 1) z3 (E6 T) (E4 ms)<|E4 [zI i,zI j]))⟩
end
end L
end Internal
set_option Elab.async true
open Internal
theorem lawOk:TK:=fun cells hc=>L.law_ok (n:=300) hc (by decide)
set_option maxRecDepth 100000 in
set_option maxHeartbeats 8000000 in
theorem all:PySem.Challenge.rw_nu0253_01.Holds:=by
 w_on;o_law;o_head (kHook Mine.hx.heap_1_1 [2,3,15,16,19,20,21,23,24,26,27,28,30,31,33,34,35,37,38,40,41,42,44,45,47,48,49,51,52,54,55,56,58,59,61,62,63,65,66,68,69,70,73,74,75,78,79,80,82,83,85,86,87,90,91,92,94,95,97,98,99,101,102,104,105,106,109,110,111,113,114,116,117,118,120,121,123,124,125,128,129,130,133,138,139,141,142,144,145,146,148,149,151,152,153,154,155,156,159,162,167,168,170,171,173,174,175,177,178,180,181,182,183,184,187,194,195,196,199,200,201,202,203,204,205,207,208,211,212,220,222,223,225,226,227,229,230,232,233,234,236,237,239,240,241,243,244,246,247,248,250,251,253,254,255,257,258,260,261,262,264,265,267,268,269,271,272,274,275,276,278,279,281,282,283,284,285,286,287,290,292,293,295,296,304,306,307,309,310,311,313,314,316,317,318,320,321,323,324,325,327,328,330,331,332,334,335,337,338,339,341,342,344,345,346,348,349,351,352,353,355,356,358,359,360,362,363,365,366,367,369,370,372,373,374,376,377,379,380,381,383,384,386,387,388,389,390,391,392,395,402,404,405,407,408,409,411,412,414,415,416,418,419,421,422,423,425,426,428,429,430,432,433,435,436,437,439,440,442,443,444,446,447,449,450,451,453,454,456,457,458,460,461,463,464,465,467,468,470,471,472,474,475,477,478,479,481,482,484,485,486,488,489,491,492,493,495,496,498,499,500,502,503,505,506,507,509,510,512,513,514,516,517,519,520,521,523,524,526,527,528,529,530,533,540,542,543,545,546,547,549,550,552,553,554,556,557,559,560,561,563,564,566,567,568,570,571,573,574,575,577,578,580,581,582,584,585,587,588,589,591,592,594,595,596,598,599,601,602,603,604,605,608,610,611,613,614,615,617,618,620,621,622,624,625,627,628,629,631,632,634,635,636,638,639,641,642,643,645,646,648,649,650,652,653,655,656,657,659,660,662,663,664,666,667,669,670,671,673,674,676,677,678,680,681,683,684,685,687,688,690,691,692,694,695,697,698,699,701,702,704,705,706,709,710,711,714,715,716,719,720,721,724,725] (fun _=>by kernel_rfl));(case hw=>w_witness2);w_strict (k_go0;rename_i la vsl lb hL ra w1 r0 hI hr hz hcT K0 hD h1 F N0;(have KX:=‹(Mine.hx.heap_1_1 _).In _›);(have T:=‹PyProof.Rows.Top _ _ _ _ _ _›);(have hg:=‹Shared.gens _=_›);exact Internal.fin_glue Mine.lawOk T KX hg hL hI hz F rfl rfl (by kernel_rfl) (by kernel_rfl) (by kernel_rfl) (by kernel_rfl) (by kernel_rfl) (by kernel_rfl) (by kernel_rfl) (by kernel_rfl) (fun _=>rfl) (by with_unfolding_all rfl))
end Mine
theorem PySem.Challenge.cw_nu0253_01_holds : PySem.Challenge.rw_nu0253_01.Holds :=
 Mine.all
