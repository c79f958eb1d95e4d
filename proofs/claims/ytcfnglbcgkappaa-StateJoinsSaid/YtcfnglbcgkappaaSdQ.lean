/- The law StateJoins, by the symbolic run. -/
import Derived.Test.YtcfnglbcgkappaaSdI
import Derived.Test.YtcfnglbcgkappaaSdK
import Derived.Test.YtcfnglbcgkappaaSdM
import Derived.Test.YtcfnglbcgkappaaSyR
import Derived.Test.YtcfnglbcgkappaaProg
import Derived.Laws.Externs
set_option linter.unusedVariables false
set_option linter.unusedSimpArgs false
namespace Go.Proofs.Ytcfnglbcgkappaa
open Go.RowKit Go.ChangeShapes Go.WideShapes

def z_Sta : List C := repC z_Ty 11 ++ (repC z_Ty 8 ++ [])
theorem grd_Sta : Try.prog.eqGuardType Try.prog.depth 35 = false := by kernel_rfl
set_option maxRecDepth 100000 in
theorem klA11 : Kl Try.prog 7 32 (repC z_Ty 11) := Kl.array (d := 6) (fun vs hv => kl_Ty vs hv) Try.underlying32 (by kernel_rfl) (by kernel_rfl)
set_option maxRecDepth 100000 in
theorem klA8 : Kl Try.prog 7 33 (repC z_Ty 8) := Kl.array (d := 6) (fun vs hv => kl_Ty vs hv) Try.underlying33 (by kernel_rfl) (by kernel_rfl)
set_option maxRecDepth 100000 in
theorem kl_Sta : Kl Try.prog 8 35 z_Sta := Kl.struct (KlSeq.cons klA11 (by rfl) (by kernel_rfl) (KlSeq.cons klA8 (by rfl) (by kernel_rfl) (KlSeq.nil _ _ _))) Try.underlying35 (by kernel_rfl) (by kernel_rfl)
set_option maxRecDepth 100000 in
theorem fm_Sta (vs : List Value) (hv : kindsV vs z_Sta) : (Value.agg vs.toArray).formed Try.prog 35 = true := formed_of Try.underlying35 (by kernel_rfl) vs hv
set_option maxRecDepth 100000 in
theorem eq_Sta (vs us : List Value) (hv : kindsV vs z_Sta) (hu : kindsV us z_Sta) (w : World) : (Op.equal 35 (.agg vs.toArray) (.agg us.toArray)).run Try.prog w = .ok (eqVs vs us) w :=
  eq_of_keys (by kernel_rfl) fm_Sta 8 (fun vs hv => kl_Sta vs hv) vs us hv hu w
def tys_SdQ : List (Nat × TI) := [(2, ⟨false, 1, [.int .i64 (.lit 0)], [], none, some .i64, false, false, none, 8, false⟩),
 (3, ⟨false, 1, [.int .i64 (.lit 0)], [], none, some .i64, false, false, none, 8, false⟩),
 (4, ⟨false, 1, [.bool (.tt false)], [], none, none, false, true, none, 1, false⟩),
 (22, ⟨false, 1, [.int .i8 (.lit 0)], [], none, some .i8, false, false, none, 1, false⟩),
 (23, ⟨false, 1, [.int .u64 (.lit 0)], [], none, some .u64, false, false, none, 8, false⟩),
 (25, ⟨true, 4, [.int .u64 (.lit 0), .int .u64 (.lit 0), .int .i64 (.lit 0), .int .i64 (.lit 0)], [(0, 23), (1, 23), (2, 2), (3, 2)], none, none, false, false, none, 32, false⟩),
 (27, ⟨true, 2, [.int .u64 (.lit 0), .int .u64 (.lit 0)], [(0, 23), (1, 23)], none, none, false, false, none, 16, false⟩),
 (29, ⟨true, 6, [.int .u64 (.lit 0), .int .u64 (.lit 0), .int .i64 (.lit 0), .int .i64 (.lit 0), .int .u64 (.lit 0), .int .u64 (.lit 0)], [(0, 25), (4, 27)], none, none, true, false, none, 48, false⟩),
 (31, ⟨true, 9, [.int .i8 (.lit 0), .int .u64 (.lit 0), .int .u64 (.lit 0), .int .i64 (.lit 0), .int .i64 (.lit 0), .int .u64 (.lit 0), .int .u64 (.lit 0), .int .i64 (.lit 0), .int .i64 (.lit 0)], [(0, 22), (1, 29), (7, 3), (8, 3)], none, none, true, false, none, 72, false⟩),
 (32, ⟨true, 99, [.int .i8 (.lit 0), .int .u64 (.lit 0), .int .u64 (.lit 0), .int .i64 (.lit 0), .int .i64 (.lit 0), .int .u64 (.lit 0), .int .u64 (.lit 0), .int .i64 (.lit 0), .int .i64 (.lit 0), .int .i8 (.lit 0), .int .u64 (.lit 0), .int .u64 (.lit 0), .int .i64 (.lit 0), .int .i64 (.lit 0), .int .u64 (.lit 0), .int .u64 (.lit 0), .int .i64 (.lit 0), .int .i64 (.lit 0), .int .i8 (.lit 0), .int .u64 (.lit 0), .int .u64 (.lit 0), .int .i64 (.lit 0), .int .i64 (.lit 0), .int .u64 (.lit 0), .int .u64 (.lit 0), .int .i64 (.lit 0), .int .i64 (.lit 0), .int .i8 (.lit 0), .int .u64 (.lit 0), .int .u64 (.lit 0), .int .i64 (.lit 0), .int .i64 (.lit 0), .int .u64 (.lit 0), .int .u64 (.lit 0), .int .i64 (.lit 0), .int .i64 (.lit 0), .int .i8 (.lit 0), .int .u64 (.lit 0), .int .u64 (.lit 0), .int .i64 (.lit 0), .int .i64 (.lit 0), .int .u64 (.lit 0), .int .u64 (.lit 0), .int .i64 (.lit 0), .int .i64 (.lit 0), .int .i8 (.lit 0), .int .u64 (.lit 0), .int .u64 (.lit 0), .int .i64 (.lit 0), .int .i64 (.lit 0), .int .u64 (.lit 0), .int .u64 (.lit 0), .int .i64 (.lit 0), .int .i64 (.lit 0), .int .i8 (.lit 0), .int .u64 (.lit 0), .int .u64 (.lit 0), .int .i64 (.lit 0), .int .i64 (.lit 0), .int .u64 (.lit 0), .int .u64 (.lit 0), .int .i64 (.lit 0), .int .i64 (.lit 0), .int .i8 (.lit 0), .int .u64 (.lit 0), .int .u64 (.lit 0), .int .i64 (.lit 0), .int .i64 (.lit 0), .int .u64 (.lit 0), .int .u64 (.lit 0), .int .i64 (.lit 0), .int .i64 (.lit 0), .int .i8 (.lit 0), .int .u64 (.lit 0), .int .u64 (.lit 0), .int .i64 (.lit 0), .int .i64 (.lit 0), .int .u64 (.lit 0), .int .u64 (.lit 0), .int .i64 (.lit 0), .int .i64 (.lit 0), .int .i8 (.lit 0), .int .u64 (.lit 0), .int .u64 (.lit 0), .int .i64 (.lit 0), .int .i64 (.lit 0), .int .u64 (.lit 0), .int .u64 (.lit 0), .int .i64 (.lit 0), .int .i64 (.lit 0), .int .i8 (.lit 0), .int .u64 (.lit 0), .int .u64 (.lit 0), .int .i64 (.lit 0), .int .i64 (.lit 0), .int .u64 (.lit 0), .int .u64 (.lit 0), .int .i64 (.lit 0), .int .i64 (.lit 0)], [], some (11, 31), none, false, false, none, 792, false⟩),
 (33, ⟨true, 72, [.int .i8 (.lit 0), .int .u64 (.lit 0), .int .u64 (.lit 0), .int .i64 (.lit 0), .int .i64 (.lit 0), .int .u64 (.lit 0), .int .u64 (.lit 0), .int .i64 (.lit 0), .int .i64 (.lit 0), .int .i8 (.lit 0), .int .u64 (.lit 0), .int .u64 (.lit 0), .int .i64 (.lit 0), .int .i64 (.lit 0), .int .u64 (.lit 0), .int .u64 (.lit 0), .int .i64 (.lit 0), .int .i64 (.lit 0), .int .i8 (.lit 0), .int .u64 (.lit 0), .int .u64 (.lit 0), .int .i64 (.lit 0), .int .i64 (.lit 0), .int .u64 (.lit 0), .int .u64 (.lit 0), .int .i64 (.lit 0), .int .i64 (.lit 0), .int .i8 (.lit 0), .int .u64 (.lit 0), .int .u64 (.lit 0), .int .i64 (.lit 0), .int .i64 (.lit 0), .int .u64 (.lit 0), .int .u64 (.lit 0), .int .i64 (.lit 0), .int .i64 (.lit 0), .int .i8 (.lit 0), .int .u64 (.lit 0), .int .u64 (.lit 0), .int .i64 (.lit 0), .int .i64 (.lit 0), .int .u64 (.lit 0), .int .u64 (.lit 0), .int .i64 (.lit 0), .int .i64 (.lit 0), .int .i8 (.lit 0), .int .u64 (.lit 0), .int .u64 (.lit 0), .int .i64 (.lit 0), .int .i64 (.lit 0), .int .u64 (.lit 0), .int .u64 (.lit 0), .int .i64 (.lit 0), .int .i64 (.lit 0), .int .i8 (.lit 0), .int .u64 (.lit 0), .int .u64 (.lit 0), .int .i64 (.lit 0), .int .i64 (.lit 0), .int .u64 (.lit 0), .int .u64 (.lit 0), .int .i64 (.lit 0), .int .i64 (.lit 0), .int .i8 (.lit 0), .int .u64 (.lit 0), .int .u64 (.lit 0), .int .i64 (.lit 0), .int .i64 (.lit 0), .int .u64 (.lit 0), .int .u64 (.lit 0), .int .i64 (.lit 0), .int .i64 (.lit 0)], [], some (8, 31), none, false, false, none, 576, false⟩),
 (35, ⟨true, 171, [.int .i8 (.lit 0), .int .u64 (.lit 0), .int .u64 (.lit 0), .int .i64 (.lit 0), .int .i64 (.lit 0), .int .u64 (.lit 0), .int .u64 (.lit 0), .int .i64 (.lit 0), .int .i64 (.lit 0), .int .i8 (.lit 0), .int .u64 (.lit 0), .int .u64 (.lit 0), .int .i64 (.lit 0), .int .i64 (.lit 0), .int .u64 (.lit 0), .int .u64 (.lit 0), .int .i64 (.lit 0), .int .i64 (.lit 0), .int .i8 (.lit 0), .int .u64 (.lit 0), .int .u64 (.lit 0), .int .i64 (.lit 0), .int .i64 (.lit 0), .int .u64 (.lit 0), .int .u64 (.lit 0), .int .i64 (.lit 0), .int .i64 (.lit 0), .int .i8 (.lit 0), .int .u64 (.lit 0), .int .u64 (.lit 0), .int .i64 (.lit 0), .int .i64 (.lit 0), .int .u64 (.lit 0), .int .u64 (.lit 0), .int .i64 (.lit 0), .int .i64 (.lit 0), .int .i8 (.lit 0), .int .u64 (.lit 0), .int .u64 (.lit 0), .int .i64 (.lit 0), .int .i64 (.lit 0), .int .u64 (.lit 0), .int .u64 (.lit 0), .int .i64 (.lit 0), .int .i64 (.lit 0), .int .i8 (.lit 0), .int .u64 (.lit 0), .int .u64 (.lit 0), .int .i64 (.lit 0), .int .i64 (.lit 0), .int .u64 (.lit 0), .int .u64 (.lit 0), .int .i64 (.lit 0), .int .i64 (.lit 0), .int .i8 (.lit 0), .int .u64 (.lit 0), .int .u64 (.lit 0), .int .i64 (.lit 0), .int .i64 (.lit 0), .int .u64 (.lit 0), .int .u64 (.lit 0), .int .i64 (.lit 0), .int .i64 (.lit 0), .int .i8 (.lit 0), .int .u64 (.lit 0), .int .u64 (.lit 0), .int .i64 (.lit 0), .int .i64 (.lit 0), .int .u64 (.lit 0), .int .u64 (.lit 0), .int .i64 (.lit 0), .int .i64 (.lit 0), .int .i8 (.lit 0), .int .u64 (.lit 0), .int .u64 (.lit 0), .int .i64 (.lit 0), .int .i64 (.lit 0), .int .u64 (.lit 0), .int .u64 (.lit 0), .int .i64 (.lit 0), .int .i64 (.lit 0), .int .i8 (.lit 0), .int .u64 (.lit 0), .int .u64 (.lit 0), .int .i64 (.lit 0), .int .i64 (.lit 0), .int .u64 (.lit 0), .int .u64 (.lit 0), .int .i64 (.lit 0), .int .i64 (.lit 0), .int .i8 (.lit 0), .int .u64 (.lit 0), .int .u64 (.lit 0), .int .i64 (.lit 0), .int .i64 (.lit 0), .int .u64 (.lit 0), .int .u64 (.lit 0), .int .i64 (.lit 0), .int .i64 (.lit 0), .int .i8 (.lit 0), .int .u64 (.lit 0), .int .u64 (.lit 0), .int .i64 (.lit 0), .int .i64 (.lit 0), .int .u64 (.lit 0), .int .u64 (.lit 0), .int .i64 (.lit 0), .int .i64 (.lit 0), .int .i8 (.lit 0), .int .u64 (.lit 0), .int .u64 (.lit 0), .int .i64 (.lit 0), .int .i64 (.lit 0), .int .u64 (.lit 0), .int .u64 (.lit 0), .int .i64 (.lit 0), .int .i64 (.lit 0), .int .i8 (.lit 0), .int .u64 (.lit 0), .int .u64 (.lit 0), .int .i64 (.lit 0), .int .i64 (.lit 0), .int .u64 (.lit 0), .int .u64 (.lit 0), .int .i64 (.lit 0), .int .i64 (.lit 0), .int .i8 (.lit 0), .int .u64 (.lit 0), .int .u64 (.lit 0), .int .i64 (.lit 0), .int .i64 (.lit 0), .int .u64 (.lit 0), .int .u64 (.lit 0), .int .i64 (.lit 0), .int .i64 (.lit 0), .int .i8 (.lit 0), .int .u64 (.lit 0), .int .u64 (.lit 0), .int .i64 (.lit 0), .int .i64 (.lit 0), .int .u64 (.lit 0), .int .u64 (.lit 0), .int .i64 (.lit 0), .int .i64 (.lit 0), .int .i8 (.lit 0), .int .u64 (.lit 0), .int .u64 (.lit 0), .int .i64 (.lit 0), .int .i64 (.lit 0), .int .u64 (.lit 0), .int .u64 (.lit 0), .int .i64 (.lit 0), .int .i64 (.lit 0), .int .i8 (.lit 0), .int .u64 (.lit 0), .int .u64 (.lit 0), .int .i64 (.lit 0), .int .i64 (.lit 0), .int .u64 (.lit 0), .int .u64 (.lit 0), .int .i64 (.lit 0), .int .i64 (.lit 0), .int .i8 (.lit 0), .int .u64 (.lit 0), .int .u64 (.lit 0), .int .i64 (.lit 0), .int .i64 (.lit 0), .int .u64 (.lit 0), .int .u64 (.lit 0), .int .i64 (.lit 0), .int .i64 (.lit 0)], [(0, 32), (99, 33)], none, none, true, false, none, 1368, false⟩),
 (36, ⟨false, 1, [.int .i64 (.lit 0)], [], none, some .i64, false, false, none, 8, false⟩)]
set_option maxRecDepth 100000 in
theorem tysck_SdQ : (tys_SdQ.all fun p => ckTI Try.prog p.1 p.2) = true := by kernel_rfl
theorem tyseq_SdQ : (tys_SdQ.all fun p => !p.2.eqok || ((Nat.beq p.1 29 && kindsC p.2.zero z_Sc) || (Nat.beq p.1 31 && kindsC p.2.zero z_Ty) || (Nat.beq p.1 35 && kindsC p.2.zero z_Sta))) = true := by kernel_rfl
theorem tysok_SdQ : ∀ t i, (t, i) ∈ tys_SdQ → TIok Try.prog t i := by
  intro t i h
  have h1 := List.all_eq_true.1 tyseq_SdQ (t, i) h
  have h2 : i.eqok = true → (t = 29 ∧ kindsC i.zero z_Sc = true) ∨ (t = 31 ∧ kindsC i.zero z_Ty = true) ∨ (t = 35 ∧ kindsC i.zero z_Sta = true) := by
    intro he
    simp only [he, Bool.not_true, Bool.false_or, Bool.or_eq_true, Bool.and_eq_true] at h1
    rcases h1 with (h1 | h1) | h1
    · exact .inl ⟨Nat.eq_of_beq_eq_true h1.1, h1.2⟩
    · exact .inr (.inl ⟨Nat.eq_of_beq_eq_true h1.1, h1.2⟩)
    · exact .inr (.inr (⟨Nat.eq_of_beq_eq_true h1.1, h1.2⟩))
  refine TIok_of (all_at (f := ckTI Try.prog) tysck_SdQ h) (fun he => ?_) (fun he => ?_)
  · rcases h2 he with ⟨rfl, hs⟩ | ⟨rfl, hs⟩ | ⟨rfl, hs⟩
    · exact fun vs us hv hu => eq_Sc vs us (kindsV_of hs hv) (kindsV_of hs hu)
    · exact fun vs us hv hu => eq_Ty vs us (kindsV_of hs hv) (kindsV_of hs hu)
    · exact fun vs us hv hu => eq_Sta vs us (kindsV_of hs hv) (kindsV_of hs hu)
  · rcases h2 he with ⟨rfl, hs⟩ | ⟨rfl, hs⟩ | ⟨rfl, hs⟩
    · exact grd_Sc
    · exact grd_Ty
    · exact grd_Sta
def sV_sjoins (a : Sta) (b : Sta) : List Dt := [.z (b2i true)]
def sF_sjoins : List Dt → List Dt := rd_Sta fun a => rd_Sta fun b => fun _ => sV_sjoins a b
set_option maxRecDepth 100000 in
def sT_sjoins : Tr :=
(.call 0 (kSta ++ [.int .i64]) (.vs 0 342 .nil) 342
(.call 1 (kSta ++ [.int .i64]) (.vs 0 342 .nil) 514
(.call 2 (kSta ++ [.int .i64]) (.vs 0 342 .nil) 686
(.call 3 (kSta ++ [.int .i64]) (.vs 0 342 .nil) 858
(.br (.beq (.and (.eq (.var 342) (.var 514)) (.and (.eq (.var 343) (.var 515)) (.and (.eq (.var 344) (.var 516)) (.and (.eq (.var 345) (.var 517)) (.and (.eq (.var 346) (.var 518)) (.and (.eq (.var 347) (.var 519)) (.and (.eq (.var 348) (.var 520)) (.and (.eq (.var 349) (.var 521)) (.and (.eq (.var 350) (.var 522)) (.and (.eq (.var 351) (.var 523)) (.and (.eq (.var 352) (.var 524)) (.and (.eq (.var 353) (.var 525)) (.and (.eq (.var 354) (.var 526)) (.and (.eq (.var 355) (.var 527)) (.and (.eq (.var 356) (.var 528)) (.and (.eq (.var 357) (.var 529)) (.and (.eq (.var 358) (.var 530)) (.and (.eq (.var 359) (.var 531)) (.and (.eq (.var 360) (.var 532)) (.and (.eq (.var 361) (.var 533)) (.and (.eq (.var 362) (.var 534)) (.and (.eq (.var 363) (.var 535)) (.and (.eq (.var 364) (.var 536)) (.and (.eq (.var 365) (.var 537)) (.and (.eq (.var 366) (.var 538)) (.and (.eq (.var 367) (.var 539)) (.and (.eq (.var 368) (.var 540)) (.and (.eq (.var 369) (.var 541)) (.and (.eq (.var 370) (.var 542)) (.and (.eq (.var 371) (.var 543)) (.and (.eq (.var 372) (.var 544)) (.and (.eq (.var 373) (.var 545)) (.and (.eq (.var 374) (.var 546)) (.and (.eq (.var 375) (.var 547)) (.and (.eq (.var 376) (.var 548)) (.and (.eq (.var 377) (.var 549)) (.and (.eq (.var 378) (.var 550)) (.and (.eq (.var 379) (.var 551)) (.and (.eq (.var 380) (.var 552)) (.and (.eq (.var 381) (.var 553)) (.and (.eq (.var 382) (.var 554)) (.and (.eq (.var 383) (.var 555)) (.and (.eq (.var 384) (.var 556)) (.and (.eq (.var 385) (.var 557)) (.and (.eq (.var 386) (.var 558)) (.and (.eq (.var 387) (.var 559)) (.and (.eq (.var 388) (.var 560)) (.and (.eq (.var 389) (.var 561)) (.and (.eq (.var 390) (.var 562)) (.and (.eq (.var 391) (.var 563)) (.and (.eq (.var 392) (.var 564)) (.and (.eq (.var 393) (.var 565)) (.and (.eq (.var 394) (.var 566)) (.and (.eq (.var 395) (.var 567)) (.and (.eq (.var 396) (.var 568)) (.and (.eq (.var 397) (.var 569)) (.and (.eq (.var 398) (.var 570)) (.and (.eq (.var 399) (.var 571)) (.and (.eq (.var 400) (.var 572)) (.and (.eq (.var 401) (.var 573)) (.and (.eq (.var 402) (.var 574)) (.and (.eq (.var 403) (.var 575)) (.and (.eq (.var 404) (.var 576)) (.and (.eq (.var 405) (.var 577)) (.and (.eq (.var 406) (.var 578)) (.and (.eq (.var 407) (.var 579)) (.and (.eq (.var 408) (.var 580)) (.and (.eq (.var 409) (.var 581)) (.and (.eq (.var 410) (.var 582)) (.and (.eq (.var 411) (.var 583)) (.and (.eq (.var 412) (.var 584)) (.and (.eq (.var 413) (.var 585)) (.and (.eq (.var 414) (.var 586)) (.and (.eq (.var 415) (.var 587)) (.and (.eq (.var 416) (.var 588)) (.and (.eq (.var 417) (.var 589)) (.and (.eq (.var 418) (.var 590)) (.and (.eq (.var 419) (.var 591)) (.and (.eq (.var 420) (.var 592)) (.and (.eq (.var 421) (.var 593)) (.and (.eq (.var 422) (.var 594)) (.and (.eq (.var 423) (.var 595)) (.and (.eq (.var 424) (.var 596)) (.and (.eq (.var 425) (.var 597)) (.and (.eq (.var 426) (.var 598)) (.and (.eq (.var 427) (.var 599)) (.and (.eq (.var 428) (.var 600)) (.and (.eq (.var 429) (.var 601)) (.and (.eq (.var 430) (.var 602)) (.and (.eq (.var 431) (.var 603)) (.and (.eq (.var 432) (.var 604)) (.and (.eq (.var 433) (.var 605)) (.and (.eq (.var 434) (.var 606)) (.and (.eq (.var 435) (.var 607)) (.and (.eq (.var 436) (.var 608)) (.and (.eq (.var 437) (.var 609)) (.and (.eq (.var 438) (.var 610)) (.and (.eq (.var 439) (.var 611)) (.and (.eq (.var 440) (.var 612)) (.and (.eq (.var 441) (.var 613)) (.and (.eq (.var 442) (.var 614)) (.and (.eq (.var 443) (.var 615)) (.and (.eq (.var 444) (.var 616)) (.and (.eq (.var 445) (.var 617)) (.and (.eq (.var 446) (.var 618)) (.and (.eq (.var 447) (.var 619)) (.and (.eq (.var 448) (.var 620)) (.and (.eq (.var 449) (.var 621)) (.and (.eq (.var 450) (.var 622)) (.and (.eq (.var 451) (.var 623)) (.and (.eq (.var 452) (.var 624)) (.and (.eq (.var 453) (.var 625)) (.and (.eq (.var 454) (.var 626)) (.and (.eq (.var 455) (.var 627)) (.and (.eq (.var 456) (.var 628)) (.and (.eq (.var 457) (.var 629)) (.and (.eq (.var 458) (.var 630)) (.and (.eq (.var 459) (.var 631)) (.and (.eq (.var 460) (.var 632)) (.and (.eq (.var 461) (.var 633)) (.and (.eq (.var 462) (.var 634)) (.and (.eq (.var 463) (.var 635)) (.and (.eq (.var 464) (.var 636)) (.and (.eq (.var 465) (.var 637)) (.and (.eq (.var 466) (.var 638)) (.and (.eq (.var 467) (.var 639)) (.and (.eq (.var 468) (.var 640)) (.and (.eq (.var 469) (.var 641)) (.and (.eq (.var 470) (.var 642)) (.and (.eq (.var 471) (.var 643)) (.and (.eq (.var 472) (.var 644)) (.and (.eq (.var 473) (.var 645)) (.and (.eq (.var 474) (.var 646)) (.and (.eq (.var 475) (.var 647)) (.and (.eq (.var 476) (.var 648)) (.and (.eq (.var 477) (.var 649)) (.and (.eq (.var 478) (.var 650)) (.and (.eq (.var 479) (.var 651)) (.and (.eq (.var 480) (.var 652)) (.and (.eq (.var 481) (.var 653)) (.and (.eq (.var 482) (.var 654)) (.and (.eq (.var 483) (.var 655)) (.and (.eq (.var 484) (.var 656)) (.and (.eq (.var 485) (.var 657)) (.and (.eq (.var 486) (.var 658)) (.and (.eq (.var 487) (.var 659)) (.and (.eq (.var 488) (.var 660)) (.and (.eq (.var 489) (.var 661)) (.and (.eq (.var 490) (.var 662)) (.and (.eq (.var 491) (.var 663)) (.and (.eq (.var 492) (.var 664)) (.and (.eq (.var 493) (.var 665)) (.and (.eq (.var 494) (.var 666)) (.and (.eq (.var 495) (.var 667)) (.and (.eq (.var 496) (.var 668)) (.and (.eq (.var 497) (.var 669)) (.and (.eq (.var 498) (.var 670)) (.and (.eq (.var 499) (.var 671)) (.and (.eq (.var 500) (.var 672)) (.and (.eq (.var 501) (.var 673)) (.and (.eq (.var 502) (.var 674)) (.and (.eq (.var 503) (.var 675)) (.and (.eq (.var 504) (.var 676)) (.and (.eq (.var 505) (.var 677)) (.and (.eq (.var 506) (.var 678)) (.and (.eq (.var 507) (.var 679)) (.and (.eq (.var 508) (.var 680)) (.and (.eq (.var 509) (.var 681)) (.and (.eq (.var 510) (.var 682)) (.and (.eq (.var 511) (.var 683)) (.and (.eq (.var 512) (.var 684)) (.tt true)))))))))))))))))))))))))))))))))))))))))))))))))))))))))))))))))))))))))))))))))))))))))))))))))))))))))))))))))))))))))))))))))))))))))))))))))))))))))))))))))))))))))))) (.tt true))
(.br (.eq (.var 513) (.var 685))
(.br (.beq (.and (.eq (.var 686) (.var 858)) (.and (.eq (.var 687) (.var 859)) (.and (.eq (.var 688) (.var 860)) (.and (.eq (.var 689) (.var 861)) (.and (.eq (.var 690) (.var 862)) (.and (.eq (.var 691) (.var 863)) (.and (.eq (.var 692) (.var 864)) (.and (.eq (.var 693) (.var 865)) (.and (.eq (.var 694) (.var 866)) (.and (.eq (.var 695) (.var 867)) (.and (.eq (.var 696) (.var 868)) (.and (.eq (.var 697) (.var 869)) (.and (.eq (.var 698) (.var 870)) (.and (.eq (.var 699) (.var 871)) (.and (.eq (.var 700) (.var 872)) (.and (.eq (.var 701) (.var 873)) (.and (.eq (.var 702) (.var 874)) (.and (.eq (.var 703) (.var 875)) (.and (.eq (.var 704) (.var 876)) (.and (.eq (.var 705) (.var 877)) (.and (.eq (.var 706) (.var 878)) (.and (.eq (.var 707) (.var 879)) (.and (.eq (.var 708) (.var 880)) (.and (.eq (.var 709) (.var 881)) (.and (.eq (.var 710) (.var 882)) (.and (.eq (.var 711) (.var 883)) (.and (.eq (.var 712) (.var 884)) (.and (.eq (.var 713) (.var 885)) (.and (.eq (.var 714) (.var 886)) (.and (.eq (.var 715) (.var 887)) (.and (.eq (.var 716) (.var 888)) (.and (.eq (.var 717) (.var 889)) (.and (.eq (.var 718) (.var 890)) (.and (.eq (.var 719) (.var 891)) (.and (.eq (.var 720) (.var 892)) (.and (.eq (.var 721) (.var 893)) (.and (.eq (.var 722) (.var 894)) (.and (.eq (.var 723) (.var 895)) (.and (.eq (.var 724) (.var 896)) (.and (.eq (.var 725) (.var 897)) (.and (.eq (.var 726) (.var 898)) (.and (.eq (.var 727) (.var 899)) (.and (.eq (.var 728) (.var 900)) (.and (.eq (.var 729) (.var 901)) (.and (.eq (.var 730) (.var 902)) (.and (.eq (.var 731) (.var 903)) (.and (.eq (.var 732) (.var 904)) (.and (.eq (.var 733) (.var 905)) (.and (.eq (.var 734) (.var 906)) (.and (.eq (.var 735) (.var 907)) (.and (.eq (.var 736) (.var 908)) (.and (.eq (.var 737) (.var 909)) (.and (.eq (.var 738) (.var 910)) (.and (.eq (.var 739) (.var 911)) (.and (.eq (.var 740) (.var 912)) (.and (.eq (.var 741) (.var 913)) (.and (.eq (.var 742) (.var 914)) (.and (.eq (.var 743) (.var 915)) (.and (.eq (.var 744) (.var 916)) (.and (.eq (.var 745) (.var 917)) (.and (.eq (.var 746) (.var 918)) (.and (.eq (.var 747) (.var 919)) (.and (.eq (.var 748) (.var 920)) (.and (.eq (.var 749) (.var 921)) (.and (.eq (.var 750) (.var 922)) (.and (.eq (.var 751) (.var 923)) (.and (.eq (.var 752) (.var 924)) (.and (.eq (.var 753) (.var 925)) (.and (.eq (.var 754) (.var 926)) (.and (.eq (.var 755) (.var 927)) (.and (.eq (.var 756) (.var 928)) (.and (.eq (.var 757) (.var 929)) (.and (.eq (.var 758) (.var 930)) (.and (.eq (.var 759) (.var 931)) (.and (.eq (.var 760) (.var 932)) (.and (.eq (.var 761) (.var 933)) (.and (.eq (.var 762) (.var 934)) (.and (.eq (.var 763) (.var 935)) (.and (.eq (.var 764) (.var 936)) (.and (.eq (.var 765) (.var 937)) (.and (.eq (.var 766) (.var 938)) (.and (.eq (.var 767) (.var 939)) (.and (.eq (.var 768) (.var 940)) (.and (.eq (.var 769) (.var 941)) (.and (.eq (.var 770) (.var 942)) (.and (.eq (.var 771) (.var 943)) (.and (.eq (.var 772) (.var 944)) (.and (.eq (.var 773) (.var 945)) (.and (.eq (.var 774) (.var 946)) (.and (.eq (.var 775) (.var 947)) (.and (.eq (.var 776) (.var 948)) (.and (.eq (.var 777) (.var 949)) (.and (.eq (.var 778) (.var 950)) (.and (.eq (.var 779) (.var 951)) (.and (.eq (.var 780) (.var 952)) (.and (.eq (.var 781) (.var 953)) (.and (.eq (.var 782) (.var 954)) (.and (.eq (.var 783) (.var 955)) (.and (.eq (.var 784) (.var 956)) (.and (.eq (.var 785) (.var 957)) (.and (.eq (.var 786) (.var 958)) (.and (.eq (.var 787) (.var 959)) (.and (.eq (.var 788) (.var 960)) (.and (.eq (.var 789) (.var 961)) (.and (.eq (.var 790) (.var 962)) (.and (.eq (.var 791) (.var 963)) (.and (.eq (.var 792) (.var 964)) (.and (.eq (.var 793) (.var 965)) (.and (.eq (.var 794) (.var 966)) (.and (.eq (.var 795) (.var 967)) (.and (.eq (.var 796) (.var 968)) (.and (.eq (.var 797) (.var 969)) (.and (.eq (.var 798) (.var 970)) (.and (.eq (.var 799) (.var 971)) (.and (.eq (.var 800) (.var 972)) (.and (.eq (.var 801) (.var 973)) (.and (.eq (.var 802) (.var 974)) (.and (.eq (.var 803) (.var 975)) (.and (.eq (.var 804) (.var 976)) (.and (.eq (.var 805) (.var 977)) (.and (.eq (.var 806) (.var 978)) (.and (.eq (.var 807) (.var 979)) (.and (.eq (.var 808) (.var 980)) (.and (.eq (.var 809) (.var 981)) (.and (.eq (.var 810) (.var 982)) (.and (.eq (.var 811) (.var 983)) (.and (.eq (.var 812) (.var 984)) (.and (.eq (.var 813) (.var 985)) (.and (.eq (.var 814) (.var 986)) (.and (.eq (.var 815) (.var 987)) (.and (.eq (.var 816) (.var 988)) (.and (.eq (.var 817) (.var 989)) (.and (.eq (.var 818) (.var 990)) (.and (.eq (.var 819) (.var 991)) (.and (.eq (.var 820) (.var 992)) (.and (.eq (.var 821) (.var 993)) (.and (.eq (.var 822) (.var 994)) (.and (.eq (.var 823) (.var 995)) (.and (.eq (.var 824) (.var 996)) (.and (.eq (.var 825) (.var 997)) (.and (.eq (.var 826) (.var 998)) (.and (.eq (.var 827) (.var 999)) (.and (.eq (.var 828) (.var 1000)) (.and (.eq (.var 829) (.var 1001)) (.and (.eq (.var 830) (.var 1002)) (.and (.eq (.var 831) (.var 1003)) (.and (.eq (.var 832) (.var 1004)) (.and (.eq (.var 833) (.var 1005)) (.and (.eq (.var 834) (.var 1006)) (.and (.eq (.var 835) (.var 1007)) (.and (.eq (.var 836) (.var 1008)) (.and (.eq (.var 837) (.var 1009)) (.and (.eq (.var 838) (.var 1010)) (.and (.eq (.var 839) (.var 1011)) (.and (.eq (.var 840) (.var 1012)) (.and (.eq (.var 841) (.var 1013)) (.and (.eq (.var 842) (.var 1014)) (.and (.eq (.var 843) (.var 1015)) (.and (.eq (.var 844) (.var 1016)) (.and (.eq (.var 845) (.var 1017)) (.and (.eq (.var 846) (.var 1018)) (.and (.eq (.var 847) (.var 1019)) (.and (.eq (.var 848) (.var 1020)) (.and (.eq (.var 849) (.var 1021)) (.and (.eq (.var 850) (.var 1022)) (.and (.eq (.var 851) (.var 1023)) (.and (.eq (.var 852) (.var 1024)) (.and (.eq (.var 853) (.var 1025)) (.and (.eq (.var 854) (.var 1026)) (.and (.eq (.var 855) (.var 1027)) (.and (.eq (.var 856) (.var 1028)) (.tt true)))))))))))))))))))))))))))))))))))))))))))))))))))))))))))))))))))))))))))))))))))))))))))))))))))))))))))))))))))))))))))))))))))))))))))))))))))))))))))))))))))))))))))) (.tt true))
(.br (.eq (.var 857) (.var 1029))
(.call 4 ([.bool]) (.vs 0 342 .nil) 1030
(.call 5 ([.bool]) (.vs 0 342 .nil) 1031
(.br (.beq (.bvar 1030) (.bvar 1031))
(.call 6 ([.bool]) .nil 1032
(.leaf (.consb (.bvar 1032) .nil)))
(.leaf (.consb (.tt false) .nil)))))
(.leaf (.consb (.tt false) .nil)))
(.leaf (.consb (.tt false) .nil)))
(.leaf (.consb (.tt false) .nil)))
(.leaf (.consb (.tt false) .nil)))))))
def sP_sjoins : Spec := ⟨fun k => match k with | 0 => sF_tsjoin | 1 => sF_yjoin | 2 => sF_tswid | 3 => sF_ywid | 4 => sF_tin | 5 => sF_yin | 6 => sF_twakes | _ => fun _ => [], fun k => match k with | _ => fun _ => True⟩
set_option maxRecDepth 100000 in
theorem sR_sjoins : treeIs tys_SdQ [sM_tsjoin 0, sM_yjoin 1, sM_tswid 2, sM_ywid 3, sM_tin 4, sM_yin 5, sM_twakes 6] [] [] [] 400 Try.f3 [.agg kSta, .agg kSta] [.one .bool] false (v_Sta ( v_Sta ([]))) sT_sjoins := ⟨by kernel_rfl, by kernel_rfl, by kernel_rfl⟩
set_option maxRecDepth 100000 in
set_option maxHeartbeats 8000000 in
theorem sX_sjoins (a : Sta) (ha : Sta.ok a) (b : Sta) (hb : Sta.ok b) (ρ : Env) (g : varsD ρ 0 (v_Sta ( v_Sta ([]))) = (d_Sta a ( d_Sta b ([])))) : sT_sjoins.asks sP_sjoins (fun ρ e => e.D ρ = sF_sjoins (d_Sta a ( d_Sta b ([])))) ρ fun _ _ => False := by
  simp only [sF_sjoins, rd_Sta_d, rd_Ty_d, rdZ, rdB]
  simp only [d_Sta, d_Ty, v_Sta, v_Ty, varsD, varD, List.cons.injEq, Dt.z.injEq, Dt.l.injEq, b2i_eq_iff, Nat.reduceAdd, and_true] at g
  simp (maxSteps := 10000000) only [sT_sjoins, sP_sjoins, d_Sta, d_Ty, kSta, rd_Sta, rd_Ty, sF_tsjoin, sF_yjoin, sF_tswid, sF_ywid, sF_tin, sF_yin, sF_twakes, sV_tsjoin, sV_yjoin, sV_tswid, sV_ywid, sV_tin, sV_yin, sF_sjoins, sV_sjoins, Tr.asks, upd_same, okDs, okD, eqs, E.I, E.B, E.L, E.R, E.D, E.vs, dI, dB, dL, varD, varsD, List.getElem?_cons_zero, List.getElem?_cons_succ, List.cons_append, List.nil_append, Nat.zero_add, Nat.add_zero, Nat.reduceAdd, and_true, true_and, b2i_one, -eq_self, etasX, g]
  intro e; (try simp only [e, etasX, -eq_self]); clear e
  intro e; (try simp only [e, etasX, -eq_self]); clear e
  intro e; (try simp only [e, etasX, -eq_self]); clear e
  intro e; (try simp only [e, etasX, -eq_self]); clear e
  refine ⟨fun c0 => ?_, fun c0 => ?_⟩
  refine ⟨fun c1 => ?_, fun c1 => ?_⟩
  refine ⟨fun c2 => ?_, fun c2 => ?_⟩
  refine ⟨fun c3 => ?_, fun c3 => ?_⟩
  intro e; (try simp only [e, etasX, -eq_self]); clear e
  intro e; (try simp only [e, etasX, -eq_self]); clear e
  refine ⟨fun c4 => ?_, fun c4 => ?_⟩
  intro e; (try simp only [e, etasX, -eq_self]); clear e
  · rfl
  · exact absurd c4 (by simp)
  · exact absurd c3 (by simp)
  · exact absurd c2 (by simp)
  · exact absurd c1 (by simp)
  · exact absurd c0 (by simp)
theorem sC_sjoins (xs : List Dt) (vals : List Value) (w : World) (hw : shRel w [.agg kSta, .agg kSta] xs vals) : Calls Try.prog 3 vals.toArray w fun e w' => ∃ v, e = .returned v ∧ RetOk [.one .bool] false w w' (sF_sjoins xs) v :=
  (fun_calls (by kernel_rfl) tysok_SdQ (smc (sK_tsjoin rfl) (smc (sK_yjoin rfl) (smc (sK_tswid rfl) (smc (sK_ywid rfl) (smc (sK_tin rfl) (smc (sK_yin rfl) (smc (sK_twakes rfl) sm0))))))) Try.func3 fn0 sR_sjoins (pre := fun _ => True) (for_Sta fun q0 gq0 => for_Sta fun q1 gq1 => fun  hp ρ g => sX_sjoins q0 gq0 q1 gq1 ρ g) xs vals w hw trivial).2
theorem rwU8 : Rw Try.prog 5 [some .u8] := Rw.int .u8 Try.underlying5 (by kernel_rfl)
theorem rwI8 : Rw Try.prog 22 [some .i8] := Rw.int .i8 Try.underlying22 (by kernel_rfl)
theorem rwN : Rw Try.prog 3 [some .i64] := Rw.int .i64 Try.underlying3 (by kernel_rfl)
theorem rwU : Rw Try.prog 23 [some .u64] := Rw.int .u64 Try.underlying23 (by kernel_rfl)
theorem rwI : Rw Try.prog 2 [some .i64] := Rw.int .i64 Try.underlying2 (by kernel_rfl)
theorem rwRg : Rw Try.prog 25 [some .u64, some .u64, some .i64, some .i64] := by
  refine Rw.struct (ks := [some .u64, some .u64, some .i64, some .i64]) ?_ Try.underlying25 (by kernel_rfl)
  exact (RwSeq.cons (ks := [some .u64]) rwU (by rfl) (RwSeq.cons (ks := [some .u64]) rwU (by rfl) (RwSeq.cons (ks := [some .i64]) rwI (by rfl) (RwSeq.cons (ks := [some .i64]) rwI (by rfl) (RwSeq.nil _ _)))))
theorem rwKn : Rw Try.prog 27 [some .u64, some .u64] := by
  refine Rw.struct (ks := [some .u64, some .u64]) ?_ Try.underlying27 (by kernel_rfl)
  exact (RwSeq.cons (ks := [some .u64]) rwU (by rfl) (RwSeq.cons (ks := [some .u64]) rwU (by rfl) (RwSeq.nil _ _)))
theorem rwSc : Rw Try.prog 29 [some .u64, some .u64, some .i64, some .i64, some .u64, some .u64] := by
  refine Rw.struct (ks := [some .u64, some .u64, some .i64, some .i64, some .u64, some .u64]) ?_ Try.underlying29 (by kernel_rfl)
  exact (RwSeq.cons (ks := [some .u64, some .u64, some .i64, some .i64]) rwRg (by rfl) (RwSeq.cons (ks := [some .u64, some .u64]) rwKn (by rfl) (RwSeq.nil _ _)))
theorem rwTy : Rw Try.prog 31 [some .i8, some .u64, some .u64, some .i64, some .i64, some .u64, some .u64, some .i64, some .i64] := by
  refine Rw.struct (ks := [some .i8, some .u64, some .u64, some .i64, some .i64, some .u64, some .u64, some .i64, some .i64]) ?_ Try.underlying31 (by kernel_rfl)
  exact (RwSeq.cons (ks := [some .i8]) rwI8 (by rfl) (RwSeq.cons (ks := [some .u64, some .u64, some .i64, some .i64, some .u64, some .u64]) rwSc (by rfl) (RwSeq.cons (ks := [some .i64]) rwN (by rfl) (RwSeq.cons (ks := [some .i64]) rwN (by rfl) (RwSeq.nil _ _)))))
set_option maxRecDepth 100000 in
theorem rwTs11 : Rw Try.prog 32 (repL [some .i8, some .u64, some .u64, some .i64, some .i64, some .u64, some .u64, some .i64, some .i64] 11) := Rw.array rwTy Try.underlying32 (by kernel_rfl)
set_option maxRecDepth 100000 in
theorem rwTs8 : Rw Try.prog 33 (repL [some .i8, some .u64, some .u64, some .i64, some .i64, some .u64, some .u64, some .i64, some .i64] 8) := Rw.array rwTy Try.underlying33 (by kernel_rfl)
set_option maxRecDepth 100000 in
theorem rwU11 : Rw Try.prog 41 (repL [some .u64] 11) := Rw.array rwU Try.underlying41 (by kernel_rfl)
set_option maxRecDepth 100000 in
theorem rwB64 : Rw Try.prog 42 (repL [some .u8] 64) := Rw.array rwU8 Try.underlying42 (by kernel_rfl)
set_option maxRecDepth 100000 in
theorem rwSta : Rw Try.prog 35 ((repL [some .i8, some .u64, some .u64, some .i64, some .i64, some .u64, some .u64, some .i64, some .i64] 11) ++ ((repL [some .i8, some .u64, some .u64, some .i64, some .i64, some .u64, some .u64, some .i64, some .i64] 8) ++ [])) := Rw.struct (ks := ((repL [some .i8, some .u64, some .u64, some .i64, some .i64, some .u64, some .u64, some .i64, some .i64] 11) ++ ((repL [some .i8, some .u64, some .u64, some .i64, some .i64, some .u64, some .u64, some .i64, some .i64] 8) ++ []))) (RwSeq.cons (ks := (repL [some .i8, some .u64, some .u64, some .i64, some .i64, some .u64, some .u64, some .i64, some .i64] 11)) rwTs11 (by rfl) (RwSeq.cons (ks := (repL [some .i8, some .u64, some .u64, some .i64, some .i64, some .u64, some .u64, some .i64, some .i64] 8)) rwTs8 (by rfl) (RwSeq.nil _ _))) Try.underlying35 (by kernel_rfl)
set_option maxRecDepth 100000 in
theorem rwSnap : Rw Try.prog 44 ((repL [some .u64] 11) ++ ([some .i64] ++ ((repL [some .u8] 64) ++ []))) := Rw.struct (ks := ((repL [some .u64] 11) ++ ([some .i64] ++ ((repL [some .u8] 64) ++ [])))) (RwSeq.cons (ks := (repL [some .u64] 11)) rwU11 (by rfl) (RwSeq.cons (ks := [some .i64]) rwN (by rfl) (RwSeq.cons (ks := (repL [some .u8] 64)) rwB64 (by rfl) (RwSeq.nil _ _)))) Try.underlying44 (by kernel_rfl)
def ec_Ty (t : List CE) : List CE := some .i8 :: some .u64 :: some .u64 :: some .i64 :: some .i64 :: some .u64 :: some .u64 :: some .i64 :: some .i64 :: t
def ck_Ty (t : List CK) : List CK := .int .i8 :: .int .u64 :: .int .u64 :: .int .i64 :: .int .i64 :: .int .u64 :: .int .u64 :: .int .i64 :: .int .i64 :: t
set_option maxRecDepth 100000 in
theorem row_Ty {ks : List CE} {q : List Int} (h : rowIn (ec_Ty ks) q = true) : ∃ (a : Ty) (q' : List Int), Ty.ok a ∧ rowIn ks q' = true ∧ ∀ (w : World) (cs : List CK) (xs r : List Dt), cksRel w cs xs (rowV ks q') r → cksRel w (ck_Ty cs) (d_Ty a xs) (rowV (ec_Ty ks) q) r := by
  obtain ⟨y0, q, rfl, e0, h⟩ := rowIn_cons h
  obtain ⟨y1, q, rfl, e1, h⟩ := rowIn_cons h
  obtain ⟨y2, q, rfl, e2, h⟩ := rowIn_cons h
  obtain ⟨y3, q, rfl, e3, h⟩ := rowIn_cons h
  obtain ⟨y4, q, rfl, e4, h⟩ := rowIn_cons h
  obtain ⟨y5, q, rfl, e5, h⟩ := rowIn_cons h
  obtain ⟨y6, q, rfl, e6, h⟩ := rowIn_cons h
  obtain ⟨y7, q, rfl, e7, h⟩ := rowIn_cons h
  obtain ⟨y8, q, rfl, e8, h⟩ := rowIn_cons h
  exact ⟨⟨y0, y1, y2, y3, y4, y5, y6, y7, y8⟩, q, ⟨e0, e1, e2, e3, e4, e5, e6, e7, e8⟩, h, fun w cs xs r hr => ⟨_, _, _, rfl, ⟨_, rfl, rfl, e0⟩, ⟨_, _, _, rfl, ⟨_, rfl, rfl, e1⟩, ⟨_, _, _, rfl, ⟨_, rfl, rfl, e2⟩, ⟨_, _, _, rfl, ⟨_, rfl, rfl, e3⟩, ⟨_, _, _, rfl, ⟨_, rfl, rfl, e4⟩, ⟨_, _, _, rfl, ⟨_, rfl, rfl, e5⟩, ⟨_, _, _, rfl, ⟨_, rfl, rfl, e6⟩, ⟨_, _, _, rfl, ⟨_, rfl, rfl, e7⟩, ⟨_, _, _, rfl, ⟨_, rfl, rfl, e8⟩, hr⟩⟩⟩⟩⟩⟩⟩⟩⟩⟩
set_option maxRecDepth 100000 in
theorem arg_Ty {q : List Int} (h : rowIn (ec_Ty []) q = true) : ∃ a : Ty, Ty.ok a ∧ ∀ (w : World) (r : List Dt), cksRel w kTy (d_Ty a r) (rowV (ec_Ty []) q) r := by
  obtain ⟨a, q', o, h, s⟩ := row_Ty h
  obtain rfl := rowIn_nil h
  exact ⟨a, o, fun w r => s w [] _ _ ⟨rfl, rfl⟩⟩
def ec_Sta (t : List CE) : List CE := ec_Ty (ec_Ty (ec_Ty (ec_Ty (ec_Ty (ec_Ty (ec_Ty (ec_Ty (ec_Ty (ec_Ty (ec_Ty (ec_Ty (ec_Ty (ec_Ty (ec_Ty (ec_Ty (ec_Ty (ec_Ty (ec_Ty (t)))))))))))))))))))
def ck_Sta (t : List CK) : List CK := ck_Ty (ck_Ty (ck_Ty (ck_Ty (ck_Ty (ck_Ty (ck_Ty (ck_Ty (ck_Ty (ck_Ty (ck_Ty (ck_Ty (ck_Ty (ck_Ty (ck_Ty (ck_Ty (ck_Ty (ck_Ty (ck_Ty (t)))))))))))))))))))
set_option maxRecDepth 100000 in
theorem row_Sta {ks : List CE} {q : List Int} (h : rowIn (ec_Sta ks) q = true) : ∃ (a : Sta) (q' : List Int), Sta.ok a ∧ rowIn ks q' = true ∧ ∀ (w : World) (cs : List CK) (xs r : List Dt), cksRel w cs xs (rowV ks q') r → cksRel w (ck_Sta cs) (d_Sta a xs) (rowV (ec_Sta ks) q) r := by
  obtain ⟨r0, q_r0, o_r0, h, s_r0⟩ := row_Ty h
  obtain ⟨r1, q_r1, o_r1, h, s_r1⟩ := row_Ty h
  obtain ⟨r2, q_r2, o_r2, h, s_r2⟩ := row_Ty h
  obtain ⟨r3, q_r3, o_r3, h, s_r3⟩ := row_Ty h
  obtain ⟨r4, q_r4, o_r4, h, s_r4⟩ := row_Ty h
  obtain ⟨r5, q_r5, o_r5, h, s_r5⟩ := row_Ty h
  obtain ⟨r6, q_r6, o_r6, h, s_r6⟩ := row_Ty h
  obtain ⟨r7, q_r7, o_r7, h, s_r7⟩ := row_Ty h
  obtain ⟨r8, q_r8, o_r8, h, s_r8⟩ := row_Ty h
  obtain ⟨r9, q_r9, o_r9, h, s_r9⟩ := row_Ty h
  obtain ⟨r10, q_r10, o_r10, h, s_r10⟩ := row_Ty h
  obtain ⟨s0, q_s0, o_s0, h, s_s0⟩ := row_Ty h
  obtain ⟨s1, q_s1, o_s1, h, s_s1⟩ := row_Ty h
  obtain ⟨s2, q_s2, o_s2, h, s_s2⟩ := row_Ty h
  obtain ⟨s3, q_s3, o_s3, h, s_s3⟩ := row_Ty h
  obtain ⟨s4, q_s4, o_s4, h, s_s4⟩ := row_Ty h
  obtain ⟨s5, q_s5, o_s5, h, s_s5⟩ := row_Ty h
  obtain ⟨s6, q_s6, o_s6, h, s_s6⟩ := row_Ty h
  obtain ⟨s7, q_s7, o_s7, h, s_s7⟩ := row_Ty h
  exact ⟨⟨r0, r1, r2, r3, r4, r5, r6, r7, r8, r9, r10, s0, s1, s2, s3, s4, s5, s6, s7⟩, _, ⟨o_r0, o_r1, o_r2, o_r3, o_r4, o_r5, o_r6, o_r7, o_r8, o_r9, o_r10, o_s0, o_s1, o_s2, o_s3, o_s4, o_s5, o_s6, o_s7⟩, h, fun w cs xs r hr => s_r0 w _ _ _ (s_r1 w _ _ _ (s_r2 w _ _ _ (s_r3 w _ _ _ (s_r4 w _ _ _ (s_r5 w _ _ _ (s_r6 w _ _ _ (s_r7 w _ _ _ (s_r8 w _ _ _ (s_r9 w _ _ _ (s_r10 w _ _ _ (s_s0 w _ _ _ (s_s1 w _ _ _ (s_s2 w _ _ _ (s_s3 w _ _ _ (s_s4 w _ _ _ (s_s5 w _ _ _ (s_s6 w _ _ _ (s_s7 w _ _ _ hr))))))))))))))))))⟩
set_option maxRecDepth 100000 in
theorem arg_Sta {q : List Int} (h : rowIn (ec_Sta []) q = true) : ∃ a : Sta, Sta.ok a ∧ ∀ (w : World) (r : List Dt), cksRel w kSta (d_Sta a r) (rowV (ec_Sta []) q) r := by
  obtain ⟨a, q', o, h, s⟩ := row_Sta h
  obtain rfl := rowIn_nil h
  exact ⟨a, o, fun w r => s w [] _ _ ⟨rfl, rfl⟩⟩
def ec_Snap (t : List CE) : List CE := some .u64 :: some .u64 :: some .u64 :: some .u64 :: some .u64 :: some .u64 :: some .u64 :: some .u64 :: some .u64 :: some .u64 :: some .u64 :: some .i64 :: some .u8 :: some .u8 :: some .u8 :: some .u8 :: some .u8 :: some .u8 :: some .u8 :: some .u8 :: some .u8 :: some .u8 :: some .u8 :: some .u8 :: some .u8 :: some .u8 :: some .u8 :: some .u8 :: some .u8 :: some .u8 :: some .u8 :: some .u8 :: some .u8 :: some .u8 :: some .u8 :: some .u8 :: some .u8 :: some .u8 :: some .u8 :: some .u8 :: some .u8 :: some .u8 :: some .u8 :: some .u8 :: some .u8 :: some .u8 :: some .u8 :: some .u8 :: some .u8 :: some .u8 :: some .u8 :: some .u8 :: some .u8 :: some .u8 :: some .u8 :: some .u8 :: some .u8 :: some .u8 :: some .u8 :: some .u8 :: some .u8 :: some .u8 :: some .u8 :: some .u8 :: some .u8 :: some .u8 :: some .u8 :: some .u8 :: some .u8 :: some .u8 :: some .u8 :: some .u8 :: some .u8 :: some .u8 :: some .u8 :: some .u8 :: t
def ck_Snap (t : List CK) : List CK := .int .u64 :: .int .u64 :: .int .u64 :: .int .u64 :: .int .u64 :: .int .u64 :: .int .u64 :: .int .u64 :: .int .u64 :: .int .u64 :: .int .u64 :: .int .i64 :: .int .u8 :: .int .u8 :: .int .u8 :: .int .u8 :: .int .u8 :: .int .u8 :: .int .u8 :: .int .u8 :: .int .u8 :: .int .u8 :: .int .u8 :: .int .u8 :: .int .u8 :: .int .u8 :: .int .u8 :: .int .u8 :: .int .u8 :: .int .u8 :: .int .u8 :: .int .u8 :: .int .u8 :: .int .u8 :: .int .u8 :: .int .u8 :: .int .u8 :: .int .u8 :: .int .u8 :: .int .u8 :: .int .u8 :: .int .u8 :: .int .u8 :: .int .u8 :: .int .u8 :: .int .u8 :: .int .u8 :: .int .u8 :: .int .u8 :: .int .u8 :: .int .u8 :: .int .u8 :: .int .u8 :: .int .u8 :: .int .u8 :: .int .u8 :: .int .u8 :: .int .u8 :: .int .u8 :: .int .u8 :: .int .u8 :: .int .u8 :: .int .u8 :: .int .u8 :: .int .u8 :: .int .u8 :: .int .u8 :: .int .u8 :: .int .u8 :: .int .u8 :: .int .u8 :: .int .u8 :: .int .u8 :: .int .u8 :: .int .u8 :: .int .u8 :: t
set_option maxRecDepth 100000 in
theorem row_Snap {ks : List CE} {q : List Int} (h : rowIn (ec_Snap ks) q = true) : ∃ (a : Snap) (q' : List Int), Snap.ok a ∧ rowIn ks q' = true ∧ ∀ (w : World) (cs : List CK) (xs r : List Dt), cksRel w cs xs (rowV ks q') r → cksRel w (ck_Snap cs) (d_Snap a xs) (rowV (ec_Snap ks) q) r := by
  obtain ⟨y0, q, rfl, e0, h⟩ := rowIn_cons h
  obtain ⟨y1, q, rfl, e1, h⟩ := rowIn_cons h
  obtain ⟨y2, q, rfl, e2, h⟩ := rowIn_cons h
  obtain ⟨y3, q, rfl, e3, h⟩ := rowIn_cons h
  obtain ⟨y4, q, rfl, e4, h⟩ := rowIn_cons h
  obtain ⟨y5, q, rfl, e5, h⟩ := rowIn_cons h
  obtain ⟨y6, q, rfl, e6, h⟩ := rowIn_cons h
  obtain ⟨y7, q, rfl, e7, h⟩ := rowIn_cons h
  obtain ⟨y8, q, rfl, e8, h⟩ := rowIn_cons h
  obtain ⟨y9, q, rfl, e9, h⟩ := rowIn_cons h
  obtain ⟨y10, q, rfl, e10, h⟩ := rowIn_cons h
  obtain ⟨y11, q, rfl, e11, h⟩ := rowIn_cons h
  obtain ⟨y12, q, rfl, e12, h⟩ := rowIn_cons h
  obtain ⟨y13, q, rfl, e13, h⟩ := rowIn_cons h
  obtain ⟨y14, q, rfl, e14, h⟩ := rowIn_cons h
  obtain ⟨y15, q, rfl, e15, h⟩ := rowIn_cons h
  obtain ⟨y16, q, rfl, e16, h⟩ := rowIn_cons h
  obtain ⟨y17, q, rfl, e17, h⟩ := rowIn_cons h
  obtain ⟨y18, q, rfl, e18, h⟩ := rowIn_cons h
  obtain ⟨y19, q, rfl, e19, h⟩ := rowIn_cons h
  obtain ⟨y20, q, rfl, e20, h⟩ := rowIn_cons h
  obtain ⟨y21, q, rfl, e21, h⟩ := rowIn_cons h
  obtain ⟨y22, q, rfl, e22, h⟩ := rowIn_cons h
  obtain ⟨y23, q, rfl, e23, h⟩ := rowIn_cons h
  obtain ⟨y24, q, rfl, e24, h⟩ := rowIn_cons h
  obtain ⟨y25, q, rfl, e25, h⟩ := rowIn_cons h
  obtain ⟨y26, q, rfl, e26, h⟩ := rowIn_cons h
  obtain ⟨y27, q, rfl, e27, h⟩ := rowIn_cons h
  obtain ⟨y28, q, rfl, e28, h⟩ := rowIn_cons h
  obtain ⟨y29, q, rfl, e29, h⟩ := rowIn_cons h
  obtain ⟨y30, q, rfl, e30, h⟩ := rowIn_cons h
  obtain ⟨y31, q, rfl, e31, h⟩ := rowIn_cons h
  obtain ⟨y32, q, rfl, e32, h⟩ := rowIn_cons h
  obtain ⟨y33, q, rfl, e33, h⟩ := rowIn_cons h
  obtain ⟨y34, q, rfl, e34, h⟩ := rowIn_cons h
  obtain ⟨y35, q, rfl, e35, h⟩ := rowIn_cons h
  obtain ⟨y36, q, rfl, e36, h⟩ := rowIn_cons h
  obtain ⟨y37, q, rfl, e37, h⟩ := rowIn_cons h
  obtain ⟨y38, q, rfl, e38, h⟩ := rowIn_cons h
  obtain ⟨y39, q, rfl, e39, h⟩ := rowIn_cons h
  obtain ⟨y40, q, rfl, e40, h⟩ := rowIn_cons h
  obtain ⟨y41, q, rfl, e41, h⟩ := rowIn_cons h
  obtain ⟨y42, q, rfl, e42, h⟩ := rowIn_cons h
  obtain ⟨y43, q, rfl, e43, h⟩ := rowIn_cons h
  obtain ⟨y44, q, rfl, e44, h⟩ := rowIn_cons h
  obtain ⟨y45, q, rfl, e45, h⟩ := rowIn_cons h
  obtain ⟨y46, q, rfl, e46, h⟩ := rowIn_cons h
  obtain ⟨y47, q, rfl, e47, h⟩ := rowIn_cons h
  obtain ⟨y48, q, rfl, e48, h⟩ := rowIn_cons h
  obtain ⟨y49, q, rfl, e49, h⟩ := rowIn_cons h
  obtain ⟨y50, q, rfl, e50, h⟩ := rowIn_cons h
  obtain ⟨y51, q, rfl, e51, h⟩ := rowIn_cons h
  obtain ⟨y52, q, rfl, e52, h⟩ := rowIn_cons h
  obtain ⟨y53, q, rfl, e53, h⟩ := rowIn_cons h
  obtain ⟨y54, q, rfl, e54, h⟩ := rowIn_cons h
  obtain ⟨y55, q, rfl, e55, h⟩ := rowIn_cons h
  obtain ⟨y56, q, rfl, e56, h⟩ := rowIn_cons h
  obtain ⟨y57, q, rfl, e57, h⟩ := rowIn_cons h
  obtain ⟨y58, q, rfl, e58, h⟩ := rowIn_cons h
  obtain ⟨y59, q, rfl, e59, h⟩ := rowIn_cons h
  obtain ⟨y60, q, rfl, e60, h⟩ := rowIn_cons h
  obtain ⟨y61, q, rfl, e61, h⟩ := rowIn_cons h
  obtain ⟨y62, q, rfl, e62, h⟩ := rowIn_cons h
  obtain ⟨y63, q, rfl, e63, h⟩ := rowIn_cons h
  obtain ⟨y64, q, rfl, e64, h⟩ := rowIn_cons h
  obtain ⟨y65, q, rfl, e65, h⟩ := rowIn_cons h
  obtain ⟨y66, q, rfl, e66, h⟩ := rowIn_cons h
  obtain ⟨y67, q, rfl, e67, h⟩ := rowIn_cons h
  obtain ⟨y68, q, rfl, e68, h⟩ := rowIn_cons h
  obtain ⟨y69, q, rfl, e69, h⟩ := rowIn_cons h
  obtain ⟨y70, q, rfl, e70, h⟩ := rowIn_cons h
  obtain ⟨y71, q, rfl, e71, h⟩ := rowIn_cons h
  obtain ⟨y72, q, rfl, e72, h⟩ := rowIn_cons h
  obtain ⟨y73, q, rfl, e73, h⟩ := rowIn_cons h
  obtain ⟨y74, q, rfl, e74, h⟩ := rowIn_cons h
  obtain ⟨y75, q, rfl, e75, h⟩ := rowIn_cons h
  exact ⟨⟨y0, y1, y2, y3, y4, y5, y6, y7, y8, y9, y10, y11, y12, y13, y14, y15, y16, y17, y18, y19, y20, y21, y22, y23, y24, y25, y26, y27, y28, y29, y30, y31, y32, y33, y34, y35, y36, y37, y38, y39, y40, y41, y42, y43, y44, y45, y46, y47, y48, y49, y50, y51, y52, y53, y54, y55, y56, y57, y58, y59, y60, y61, y62, y63, y64, y65, y66, y67, y68, y69, y70, y71, y72, y73, y74, y75⟩, q, ⟨e0, e1, e2, e3, e4, e5, e6, e7, e8, e9, e10, e11, e12, e13, e14, e15, e16, e17, e18, e19, e20, e21, e22, e23, e24, e25, e26, e27, e28, e29, e30, e31, e32, e33, e34, e35, e36, e37, e38, e39, e40, e41, e42, e43, e44, e45, e46, e47, e48, e49, e50, e51, e52, e53, e54, e55, e56, e57, e58, e59, e60, e61, e62, e63, e64, e65, e66, e67, e68, e69, e70, e71, e72, e73, e74, e75⟩, h, fun w cs xs r hr => ⟨_, _, _, rfl, ⟨_, rfl, rfl, e0⟩, ⟨_, _, _, rfl, ⟨_, rfl, rfl, e1⟩, ⟨_, _, _, rfl, ⟨_, rfl, rfl, e2⟩, ⟨_, _, _, rfl, ⟨_, rfl, rfl, e3⟩, ⟨_, _, _, rfl, ⟨_, rfl, rfl, e4⟩, ⟨_, _, _, rfl, ⟨_, rfl, rfl, e5⟩, ⟨_, _, _, rfl, ⟨_, rfl, rfl, e6⟩, ⟨_, _, _, rfl, ⟨_, rfl, rfl, e7⟩, ⟨_, _, _, rfl, ⟨_, rfl, rfl, e8⟩, ⟨_, _, _, rfl, ⟨_, rfl, rfl, e9⟩, ⟨_, _, _, rfl, ⟨_, rfl, rfl, e10⟩, ⟨_, _, _, rfl, ⟨_, rfl, rfl, e11⟩, ⟨_, _, _, rfl, ⟨_, rfl, rfl, e12⟩, ⟨_, _, _, rfl, ⟨_, rfl, rfl, e13⟩, ⟨_, _, _, rfl, ⟨_, rfl, rfl, e14⟩, ⟨_, _, _, rfl, ⟨_, rfl, rfl, e15⟩, ⟨_, _, _, rfl, ⟨_, rfl, rfl, e16⟩, ⟨_, _, _, rfl, ⟨_, rfl, rfl, e17⟩, ⟨_, _, _, rfl, ⟨_, rfl, rfl, e18⟩, ⟨_, _, _, rfl, ⟨_, rfl, rfl, e19⟩, ⟨_, _, _, rfl, ⟨_, rfl, rfl, e20⟩, ⟨_, _, _, rfl, ⟨_, rfl, rfl, e21⟩, ⟨_, _, _, rfl, ⟨_, rfl, rfl, e22⟩, ⟨_, _, _, rfl, ⟨_, rfl, rfl, e23⟩, ⟨_, _, _, rfl, ⟨_, rfl, rfl, e24⟩, ⟨_, _, _, rfl, ⟨_, rfl, rfl, e25⟩, ⟨_, _, _, rfl, ⟨_, rfl, rfl, e26⟩, ⟨_, _, _, rfl, ⟨_, rfl, rfl, e27⟩, ⟨_, _, _, rfl, ⟨_, rfl, rfl, e28⟩, ⟨_, _, _, rfl, ⟨_, rfl, rfl, e29⟩, ⟨_, _, _, rfl, ⟨_, rfl, rfl, e30⟩, ⟨_, _, _, rfl, ⟨_, rfl, rfl, e31⟩, ⟨_, _, _, rfl, ⟨_, rfl, rfl, e32⟩, ⟨_, _, _, rfl, ⟨_, rfl, rfl, e33⟩, ⟨_, _, _, rfl, ⟨_, rfl, rfl, e34⟩, ⟨_, _, _, rfl, ⟨_, rfl, rfl, e35⟩, ⟨_, _, _, rfl, ⟨_, rfl, rfl, e36⟩, ⟨_, _, _, rfl, ⟨_, rfl, rfl, e37⟩, ⟨_, _, _, rfl, ⟨_, rfl, rfl, e38⟩, ⟨_, _, _, rfl, ⟨_, rfl, rfl, e39⟩, ⟨_, _, _, rfl, ⟨_, rfl, rfl, e40⟩, ⟨_, _, _, rfl, ⟨_, rfl, rfl, e41⟩, ⟨_, _, _, rfl, ⟨_, rfl, rfl, e42⟩, ⟨_, _, _, rfl, ⟨_, rfl, rfl, e43⟩, ⟨_, _, _, rfl, ⟨_, rfl, rfl, e44⟩, ⟨_, _, _, rfl, ⟨_, rfl, rfl, e45⟩, ⟨_, _, _, rfl, ⟨_, rfl, rfl, e46⟩, ⟨_, _, _, rfl, ⟨_, rfl, rfl, e47⟩, ⟨_, _, _, rfl, ⟨_, rfl, rfl, e48⟩, ⟨_, _, _, rfl, ⟨_, rfl, rfl, e49⟩, ⟨_, _, _, rfl, ⟨_, rfl, rfl, e50⟩, ⟨_, _, _, rfl, ⟨_, rfl, rfl, e51⟩, ⟨_, _, _, rfl, ⟨_, rfl, rfl, e52⟩, ⟨_, _, _, rfl, ⟨_, rfl, rfl, e53⟩, ⟨_, _, _, rfl, ⟨_, rfl, rfl, e54⟩, ⟨_, _, _, rfl, ⟨_, rfl, rfl, e55⟩, ⟨_, _, _, rfl, ⟨_, rfl, rfl, e56⟩, ⟨_, _, _, rfl, ⟨_, rfl, rfl, e57⟩, ⟨_, _, _, rfl, ⟨_, rfl, rfl, e58⟩, ⟨_, _, _, rfl, ⟨_, rfl, rfl, e59⟩, ⟨_, _, _, rfl, ⟨_, rfl, rfl, e60⟩, ⟨_, _, _, rfl, ⟨_, rfl, rfl, e61⟩, ⟨_, _, _, rfl, ⟨_, rfl, rfl, e62⟩, ⟨_, _, _, rfl, ⟨_, rfl, rfl, e63⟩, ⟨_, _, _, rfl, ⟨_, rfl, rfl, e64⟩, ⟨_, _, _, rfl, ⟨_, rfl, rfl, e65⟩, ⟨_, _, _, rfl, ⟨_, rfl, rfl, e66⟩, ⟨_, _, _, rfl, ⟨_, rfl, rfl, e67⟩, ⟨_, _, _, rfl, ⟨_, rfl, rfl, e68⟩, ⟨_, _, _, rfl, ⟨_, rfl, rfl, e69⟩, ⟨_, _, _, rfl, ⟨_, rfl, rfl, e70⟩, ⟨_, _, _, rfl, ⟨_, rfl, rfl, e71⟩, ⟨_, _, _, rfl, ⟨_, rfl, rfl, e72⟩, ⟨_, _, _, rfl, ⟨_, rfl, rfl, e73⟩, ⟨_, _, _, rfl, ⟨_, rfl, rfl, e74⟩, ⟨_, _, _, rfl, ⟨_, rfl, rfl, e75⟩, hr⟩⟩⟩⟩⟩⟩⟩⟩⟩⟩⟩⟩⟩⟩⟩⟩⟩⟩⟩⟩⟩⟩⟩⟩⟩⟩⟩⟩⟩⟩⟩⟩⟩⟩⟩⟩⟩⟩⟩⟩⟩⟩⟩⟩⟩⟩⟩⟩⟩⟩⟩⟩⟩⟩⟩⟩⟩⟩⟩⟩⟩⟩⟩⟩⟩⟩⟩⟩⟩⟩⟩⟩⟩⟩⟩⟩⟩
set_option maxRecDepth 100000 in
theorem arg_Snap {q : List Int} (h : rowIn (ec_Snap []) q = true) : ∃ a : Snap, Snap.ok a ∧ ∀ (w : World) (r : List Dt), cksRel w kSnap (d_Snap a r) (rowV (ec_Snap []) q) r := by
  obtain ⟨a, q', o, h, s⟩ := row_Snap h
  obtain rfl := rowIn_nil h
  exact ⟨a, o, fun w r => s w [] _ _ ⟨rfl, rfl⟩⟩
set_option maxRecDepth 100000 in
set_option maxHeartbeats 8000000 in
theorem law_StateJoins {H : Type} {enc : TypeId × Value → H} {W : World} {r : Reach} {b0 : Nat} (v0 : Value) (k0 : Value.okWide Try.prog W r b0 35 v0) (d0 : DataW H) (p0 : List MemPlace) (h0 : DataW.Trod enc Try.prog W 0 (fun _ => true) true 35 v0 d0 p0) (_ : ∀ x ∈ p0, x.block < W.heap.size) (v1 : Value) (k1 : Value.okWide Try.prog W r b0 35 v1) (d1 : DataW H) (p1 : List MemPlace) (h1 : DataW.Trod enc Try.prog W 0 (fun _ => true) true 35 v1 d1 p1) (_ : ∀ x ∈ p1, x.block < W.heap.size) :
    Calls Try.prog 3 #[v0, v1] W fun e W' => e = .returned (.bool true) ∧ Below W.heap.size W W' := by
  obtain ⟨q0, rfl, g0⟩ := agg_of_arg rwSta Try.underlying35 k0 h0
  obtain ⟨a0, o0, s0⟩ := arg_Sta g0
  obtain ⟨q1, rfl, g1⟩ := agg_of_arg rwSta Try.underlying35 k1 h1
  obtain ⟨a1, o1, s1⟩ := arg_Sta g1
  refine (sC_sjoins (d_Sta a0 ( d_Sta a1 ([]))) _ W ⟨_, _, _, rfl, s0 W _, ⟨_, _, _, rfl, s1 W _, ⟨rfl, rfl⟩⟩⟩).mono fun e W' ⟨v, he, hr⟩ => ?_
  have hv : v = .bool true := RetOk.says hr
  rw [he, hv]
  exact ⟨rfl, hr.ext⟩
end Go.Proofs.Ytcfnglbcgkappaa

