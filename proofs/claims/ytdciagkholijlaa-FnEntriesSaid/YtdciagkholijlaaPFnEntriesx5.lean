-- Written by this session's changed copy of the kit's printer (wip/patch_print.py): not the kit's own print.
import Derived.Test.YtdciagkholijlaaPFnEntriesx0
import Derived.Test.YtdciagkholijlaaPFnEntriesx4
namespace Go.Proofs.Ytdciagkholijlaa.PFnEntries
open Go.RowKit Go.Proofs.YtdciagkholijlaaW.PrintWords Go.Proofs.YtdciagkholijlaaW.PrintLast Go.Proofs.YtdciagkholijlaaW.PrintMore
attribute [local go_sem] max2_int min2_int max_two min_two max_three min_three max_four min_four   -- for this text's walks alone
set_option linter.unusedVariables false
set_option linter.unusedSimpArgs false
set_option maxHeartbeats 8000000
set_option maxRecDepth 100000
theorem Z5x0 {p : Prop} (h : p := by repeat (first | (with_reducible first | exact HB.out | apply below_alloc | apply pw_below_drewN | apply below_drew1 | refine below_set ?_ dG.out) | exact HB.out)) : p := h
theorem Z5x1 {p : Prop} (h : p := by (try simp only [List.map_toArray,List.map_cons,List.map_nil]);first | done | rfl | (simp only [List.length_drop,List.length_take];rfl)) : p := h
theorem Z5x2 {p : Prop} (h : p := by (with_reducible repeat (first | refine blk_drewN ?_ _ | refine blk_drew ?_ | refine blk_alloc ?_ _));exact ab.out) : p := h
theorem Z5x3 {p : Prop} (h : p := by repeat (first | exact (Kd.C_below dH.out HB.out) | (with_reducible refine Kd.C_alloc ?_ _) | (with_reducible refine Kd.C_drewN ?_ _) | (with_reducible refine Kd.C_drew ?_))) : p := h
theorem Z5x4 {p : Prop} (h : p := by first | rfl | (simp [errW_none,errW_some] <;> rfl) | (simp [*,errW_none,errW_some] <;> rfl)) : p := h
theorem Z5x5 {p : Prop} (h : p := by repeat (first | exact (Kd.C_below dI.out Z5x0) | (with_reducible refine Kd.C_alloc ?_ _) | (with_reducible refine Kd.C_drewN ?_ _) | (with_reducible refine Kd.C_drew ?_))) : p := h
theorem Z5x6 {p : Prop} (h : p := by first | rfl | (simp;done) | (simp [*];done)) : p := h
theorem Z5x7 {p : Prop} (h : p := by repeat (first | (with_reducible first | exact HB.out | apply below_alloc | apply pw_below_drewN | apply below_drew1) | exact HB.out)) : p := h

mutual
def spec_SketchOk.j0 : Nat → Bool → Int → Int → Int → Int → List Int → List Int → List (List Int) → Option (Bool)
 | 0,_,_,_,_,_,_,_,_ => none
 | k + 1,ft,al,aq,ay,ar,au,av,an => if ft = true then (some false) else (if al = 0 then (if aq = 0 then (spec_SketchOk.j1 k (al == 0) (ar != 0) al aq ay ar au av an) else (spec_SketchOk.j1 k (al == 0) true al aq ay ar au av an)) else (spec_SketchOk.j1 k (al == 0) false al aq ay ar au av an))
def spec_SketchOk.j1 : Nat → Bool → Bool → Int → Int → Int → Int → List Int → List Int → List (List Int) → Option (Bool)
 | 0,_,_,_,_,_,_,_,_,_ => none
 | k + 1,x3,fu,al,aq,ay,ar,au,av,an => if fu = true then (some false) else ((spec_l3List.f k au 8 1000000000 x3).bind fun t159 => (if t159 = true then ((spec_l3List.f k av 8 17 x3).bind fun t160 => (if t160 = true then (if 0 < (an.length : Int) then ((spec_l3List.f k (rd_L3 an 0) 4 1000000000 x3).bind fun t162 => (if t162 = true then (if 1 < (an.length : Int) then ((spec_l3List.f k (rd_L3 an 1) 4 1000000000 x3).bind fun t164 => (some t164)) else (none)) else (some false))) else (none)) else (some false))) else (some false)))
end
def spec_SketchOk.f (k : Nat) (aa : Int) (ae : Int) (ai : Int) (af : Int) (aj : List Int) (ao : List Int) (ad : List (List Int)) : Option (Bool) := (spec_l1In.f aa 0 1000000000).bind fun t155 => (if t155 = true then ((spec_l1In.f ae 0 1000000000).bind fun t156 => (if t156 = true then ((spec_l1In.f ai 0 1000000).bind fun t157 => (if t157 = true then ((spec_l1In.f af 0 1000000).bind fun t158 => (if t158 = true then (if ai > af then (spec_SketchOk.j0 k true aa ae ai af aj ao ad) else (spec_SketchOk.j0 k ((ad.length : Int) != 2) aa ae ai af aj ao ad)) else (spec_SketchOk.j0 k true aa ae ai af aj ao ad))) else (spec_SketchOk.j0 k true aa ae ai af aj ao ad))) else (spec_SketchOk.j0 k true aa ae ai af aj ao ad))) else (spec_SketchOk.j0 k true aa ae ai af aj ao ad))
theorem spec_SketchOk.calls (k : Nat) (aa : Int) (ae : Int) (ai : Int) (af : Int) (a6 : Option Addr) (a7 : Nat) (aj : List Int) (cn : Option Addr) (cq : Nat) (ao : List Int) (cr : Option Addr) (ct : Nat) (ad : List (List Int)) (r : Bool) (w : World) (dn : Kd.C (Kd.int .i64) w a6 aj.length aj) (dp : aj.length ≤ a7) (dq : Kd.C (Kd.int .i64) w cn ao.length ao) (dr : ao.length ≤ cq) (dt : Kd.C (Kd.slice 3 (Kd.int .i64)) w cr ad.length ad) (du : ad.length ≤ ct) (h : spec_SketchOk.f k aa ae ai af aj ao ad = some r) :
  Calls Try.prog 73 #[.agg #[vi aa,vi ae,vi ai,vi af,.slice a6 aj.length a7,.slice cn ao.length cq,.slice cr ad.length ct]] w fun e w' => e = .returned (.bool r) ∧ Below w.heap.size w w' := by
 have fv := Try.underlying27
 have dH := mkA dn
 have aE := mkA dp
 clear dn dp
 have dI := mkA dq
 have cu := mkA dr
 clear dq dr
 have cv := mkA dt
 have fg := mkA du
 clear dt du
 have HB := mkA (Below.refl w.heap.size w)
 have H := h
 unfold spec_SketchOk.f at H
 clear h
 have eZ := mkA H
 clear H
 go_enter Try.func73,Try.ntmps73
 go_upto_region 1 with (first | ((with_reducible refine gate_dst (N := 1) rfl ?_);(try (refine gate_guard (by rfl) ?_;dsimp only));refine box_event ?hg (N := 1) ?hd (cs := #[vi aa,vi ae,vi ai,vi af,.slice a6 aj.length a7,.slice cn ao.length cq,.slice cr ad.length ct]) (t := 27) ?hr ?_;(case hd => rfl);(case hg => rfl);(case hr => first | (go_simp;done) | (go_simp;rfl));intro aF hg w3 hbox hb;have fh := mkA (below_step Z5x7 hb);have fi := mkA (hbox);have fj := mkA ((by rw [hg];exact (below_size Z5x7) : w.heap.size ≤ aF));have fk := mkA ((by rw [hg];exact (below_size Z5x7) : w.heap.size ≤ aF));clear HB;have HB := fh;have ab := fi;have fl := fj;have dG := fk;clear fh fi fj fk;clear hb hbox hg))
 (try simp only [Act.put,List.setIfInBounds_toArray,List.set_cons_zero,List.set_cons_succ])
 go_cut [38] (fun v38 wc => ∃ (kq : Nat) (aG : Bool),v38 = .bool aG ∧ Aside0 (spec_SketchOk.j0 kq aG aa ae ai af aj ao ad = some r) ∧ Aside0 (kq ≤ k) ∧ Aside0 (wc.heap[aF]? = some (.cells #[vi aa,vi ae,vi ai,vi af,(.slice a6 aj.length a7),(.slice cn ao.length cq),(.slice cr ad.length ct)] 27 (0,0))) ∧ Aside0 (Below w.heap.size w wc))
 case first =>
  have H := eZ.out
  clear eZ
  replace H := Option.bind_eq_some_iff.mp H
  obtain ⟨t155,fm,H⟩ := H
  try dsimp only at H
  have A4 := mkA fm
  clear fm
  by_cases c5 : t155 = true
  ·subst c5
   rw [if_pos rfl] at H
   replace H := Option.bind_eq_some_iff.mp H
   obtain ⟨t156,fo,H⟩ := H
   try dsimp only at H
   have A6 := mkA fo
   clear fo
   by_cases c7 : t156 = true
   ·subst c7
    rw [if_pos rfl] at H;replace H := Option.bind_eq_some_iff.mp H;obtain ⟨t157,fp,H⟩ := H
    try dsimp only at H
    have A8 := mkA fp;clear fp
    by_cases c9 : t157 = true
    ·subst c9
     rw [if_pos rfl] at H;replace H := Option.bind_eq_some_iff.mp H;obtain ⟨t158,dJ,H⟩ := H
     try dsimp only at H
     have e_ := mkA dJ;clear dJ
     by_cases dF : t158 = true
     ·subst dF
      rw [if_pos rfl] at H
      by_cases dv : ai > af
      ·rw [if_pos dv] at H
       have c12b0 : decide (af < ai) = true := decide_eq_true dv;clear dv
       (first | rw [c12b0] | (simp only [i64_w,i32_w];rw [c12b0]) | rw [c12b1] | rw [c12b2] | rw [c12b3] | skip)
       have H' := mkA H;clear H;obtain ⟨aH,aI,aJ,aK,aL,aM,aN⟩ := cz7 ab.out;obtain ⟨aO,aP,aQ,aR,aS,aT,aU⟩ := fz7 ab.out
       go_wp2_with (first | ((with_reducible refine gate_callee (f := 42) rfl ?_);refine goesL_ (some 6) rfl rfl Try.func42 (by kernel_rfl) rfl #[vi aa,vi 0,vi 1000000000] rfl Z5x1 ?_;(with_reducible refine (spec_l1In.calls aa 0 1000000000 true _ A4.out).mono ?_);rintro e w' ⟨rfl,⟨nd,rfl⟩⟩;refine ⟨_,rfl,?_⟩) | (go_at_call 42;(with_reducible refine (spec_l1In.calls ae 0 1000000000 true _ A6.out).mono ?_);rintro e w' ⟨rfl,⟨nd,rfl⟩⟩) | (go_at_call 42;(with_reducible refine (spec_l1In.calls ai 0 1000000 true _ A8.out).mono ?_);rintro e w' ⟨rfl,⟨nd,rfl⟩⟩) | (go_at_call 42;(with_reducible refine (spec_l1In.calls af 0 1000000 true _ e_.out).mono ?_);rintro e w' ⟨rfl,⟨nd,rfl⟩⟩))
       (first | go_meet | (refine Met.intro ?_;go_step;(repeat apply Exists.intro);refine ⟨?rel,?eqs⟩;case eqs => ((try rw [show (!true) = true from by assumption]);(try rw [show (!true) = false from by assumption]);(try rw [show (decide (ai > af)) = true from by assumption]);(try rw [show (decide (ai > af)) = false from by assumption]);(try rfl))))
       case rel => exact ⟨_,(true),Z5x6,H',⟨by first | omega | exact Nat.le_refl _⟩,⟨Z5x2⟩,⟨Z5x0⟩⟩
      ·rw [if_neg dv] at H
       have c12b0 : decide (af < ai) = false := decide_eq_false dv;clear dv
       (first | rw [c12b0] | (simp only [i64_w,i32_w];rw [c12b0]) | rw [c12b1] | rw [c12b2] | rw [c12b3] | skip)
       have H' := mkA H;clear H;obtain ⟨aV,aW,aX,aY,aZ,a_,ba⟩ := cz7 ab.out;obtain ⟨bb,bc,bd,bf,bg,bh,bj⟩ := fz7 ab.out
       go_wp2_with (first | ((with_reducible refine gate_callee (f := 42) rfl ?_);refine goesL_ (some 6) rfl rfl Try.func42 (by kernel_rfl) rfl #[vi aa,vi 0,vi 1000000000] rfl Z5x1 ?_;(with_reducible refine (spec_l1In.calls aa 0 1000000000 true _ A4.out).mono ?_);rintro e w' ⟨rfl,⟨nd,rfl⟩⟩;refine ⟨_,rfl,?_⟩) | (go_at_call 42;(with_reducible refine (spec_l1In.calls ae 0 1000000000 true _ A6.out).mono ?_);rintro e w' ⟨rfl,⟨nd,rfl⟩⟩) | (go_at_call 42;(with_reducible refine (spec_l1In.calls ai 0 1000000 true _ A8.out).mono ?_);rintro e w' ⟨rfl,⟨nd,rfl⟩⟩) | (go_at_call 42;(with_reducible refine (spec_l1In.calls af 0 1000000 true _ e_.out).mono ?_);rintro e w' ⟨rfl,⟨nd,rfl⟩⟩))
       (first | go_meet | (refine Met.intro ?_;go_step;(repeat apply Exists.intro);refine ⟨?rel,?eqs⟩;case eqs => ((try rw [show (!true) = true from by assumption]);(try rw [show (!true) = false from by assumption]);(try rw [show (decide (ai > af)) = true from by assumption]);(try rw [show (decide (ai > af)) = false from by assumption]);(try rw [show ((ad.length : Int) != 2) = true from by assumption]);(try rw [show ((ad.length : Int) != 2) = false from by assumption]);(try rfl))))
       case rel => exact ⟨_,(((ad.length : Int) != 2)),Z5x6,H',⟨by first | omega | exact Nat.le_refl _⟩,⟨Z5x2⟩,⟨Z5x0⟩⟩
     ·replace dF := Bool.eq_false_iff.mpr dF
      subst dF;rw [if_neg (show ¬ (false = true) by decide)] at H;have H' := mkA H;clear H;obtain ⟨bk,bm,bn,bo,bp,bq,br⟩ := cz7 ab.out;obtain ⟨bs,bu,bw,bz,b0,b1,b2⟩ := fz7 ab.out
      go_wp2_with (first | ((with_reducible refine gate_callee (f := 42) rfl ?_);refine goesL_ (some 6) rfl rfl Try.func42 (by kernel_rfl) rfl #[vi aa,vi 0,vi 1000000000] rfl Z5x1 ?_;(with_reducible refine (spec_l1In.calls aa 0 1000000000 true _ A4.out).mono ?_);rintro e w' ⟨rfl,⟨nd,rfl⟩⟩;refine ⟨_,rfl,?_⟩) | (go_at_call 42;(with_reducible refine (spec_l1In.calls ae 0 1000000000 true _ A6.out).mono ?_);rintro e w' ⟨rfl,⟨nd,rfl⟩⟩) | (go_at_call 42;(with_reducible refine (spec_l1In.calls ai 0 1000000 true _ A8.out).mono ?_);rintro e w' ⟨rfl,⟨nd,rfl⟩⟩) | (go_at_call 42;(with_reducible refine (spec_l1In.calls af 0 1000000 false _ e_.out).mono ?_);rintro e w' ⟨rfl,⟨nd,rfl⟩⟩))
      (first | go_meet | (refine Met.intro ?_;go_step;(repeat apply Exists.intro);refine ⟨?rel,?eqs⟩;case eqs => ((try rw [show (!true) = true from by assumption]);(try rw [show (!true) = false from by assumption]);(try rw [show (!false) = true from by assumption]);(try rw [show (!false) = false from by assumption]);(try rfl))))
      case rel => exact ⟨_,(true),Z5x6,H',⟨by first | omega | exact Nat.le_refl _⟩,⟨Z5x2⟩,⟨Z5x0⟩⟩
    ·replace c9 := Bool.eq_false_iff.mpr c9
     subst c9;rw [if_neg (show ¬ (false = true) by decide)] at H;have H' := mkA H;clear H;obtain ⟨b3,b4,b5,b6,b7,b8,b9⟩ := cz7 ab.out;obtain ⟨bA,bB,bC,bD,bE,bF,bG⟩ := fz7 ab.out
     go_wp2_with (first | ((with_reducible refine gate_callee (f := 42) rfl ?_);refine goesL_ (some 6) rfl rfl Try.func42 (by kernel_rfl) rfl #[vi aa,vi 0,vi 1000000000] rfl Z5x1 ?_;(with_reducible refine (spec_l1In.calls aa 0 1000000000 true _ A4.out).mono ?_);rintro e w' ⟨rfl,⟨nd,rfl⟩⟩;refine ⟨_,rfl,?_⟩) | (go_at_call 42;(with_reducible refine (spec_l1In.calls ae 0 1000000000 true _ A6.out).mono ?_);rintro e w' ⟨rfl,⟨nd,rfl⟩⟩) | (go_at_call 42;(with_reducible refine (spec_l1In.calls ai 0 1000000 false _ A8.out).mono ?_);rintro e w' ⟨rfl,⟨nd,rfl⟩⟩))
     (first | go_meet | (refine Met.intro ?_;go_step;(repeat apply Exists.intro);refine ⟨?rel,?eqs⟩;case eqs => ((try rw [show (!true) = true from by assumption]);(try rw [show (!true) = false from by assumption]);(try rw [show (!false) = true from by assumption]);(try rw [show (!false) = false from by assumption]);(try rfl))))
     case rel => exact ⟨_,(true),Z5x6,H',⟨by first | omega | exact Nat.le_refl _⟩,⟨Z5x2⟩,⟨Z5x0⟩⟩
   ·replace c7 := Bool.eq_false_iff.mpr c7
    subst c7;rw [if_neg (show ¬ (false = true) by decide)] at H;have H' := mkA H;clear H;obtain ⟨bH,bI,bJ,bK,bL,bM,bN⟩ := cz7 ab.out;obtain ⟨bO,bP,bQ,bR,bS,bT,bU⟩ := fz7 ab.out
    go_wp2_with (first | ((with_reducible refine gate_callee (f := 42) rfl ?_);refine goesL_ (some 6) rfl rfl Try.func42 (by kernel_rfl) rfl #[vi aa,vi 0,vi 1000000000] rfl Z5x1 ?_;(with_reducible refine (spec_l1In.calls aa 0 1000000000 true _ A4.out).mono ?_);rintro e w' ⟨rfl,⟨nd,rfl⟩⟩;refine ⟨_,rfl,?_⟩) | (go_at_call 42;(with_reducible refine (spec_l1In.calls ae 0 1000000000 false _ A6.out).mono ?_);rintro e w' ⟨rfl,⟨nd,rfl⟩⟩))
    (first | go_meet | (refine Met.intro ?_;go_step;(repeat apply Exists.intro);refine ⟨?rel,?eqs⟩;case eqs => ((try rw [show (!true) = true from by assumption]);(try rw [show (!true) = false from by assumption]);(try rw [show (!false) = true from by assumption]);(try rw [show (!false) = false from by assumption]);(try rfl))))
    case rel => exact ⟨_,(true),Z5x6,H',⟨by first | omega | exact Nat.le_refl _⟩,⟨Z5x2⟩,⟨Z5x0⟩⟩
  ·replace c5 := Bool.eq_false_iff.mpr c5
   subst c5
   rw [if_neg (show ¬ (false = true) by decide)] at H
   have H' := mkA H
   clear H
   obtain ⟨bV,bW,bX,bY,bZ,b_,ca⟩ := cz7 ab.out
   obtain ⟨cb,cc,cd,cf,cg,ch,cj⟩ := fz7 ab.out
   go_wp2_with (first | ((with_reducible refine gate_callee (f := 42) rfl ?_);refine goesL_ (some 6) rfl rfl Try.func42 (by kernel_rfl) rfl #[vi aa,vi 0,vi 1000000000] rfl Z5x1 ?_;(with_reducible refine (spec_l1In.calls aa 0 1000000000 false _ A4.out).mono ?_);rintro e w' ⟨rfl,⟨nd,rfl⟩⟩;refine ⟨_,rfl,?_⟩))
   (first | go_meet | (refine Met.intro ?_;go_step;(repeat apply Exists.intro);refine ⟨?rel,?eqs⟩;case eqs => ((try rw [show (!false) = true from by assumption]);(try rw [show (!false) = false from by assumption]);(try rfl))))
   case rel => exact ⟨_,(true),Z5x6,H',⟨by first | omega | exact Nat.le_refl _⟩,⟨Z5x2⟩,⟨Z5x0⟩⟩
 case rest =>
  clear eZ
  try clear c1
  try clear p2
  try clear c4
  try clear c5
  try clear c7
  try clear c9
  try clear dF
  try clear dv
  try clear c12b0
  try clear c12b1
  try clear c12b2
  try clear aH aI aJ aK aL aM aN
  try clear aV aW aX aY aZ a_ ba
  try clear bk bm bn bo bp bq br
  try clear b3 b4 b5 b6 b7 b8 b9
  try clear bH bI bJ bK bL bM bN
  try clear bV bW bX bY bZ b_ ca
  try clear aO aP aQ aR aS aT aU
  try clear bb bc bd bf bg bh bj
  try clear bs bu bw bz b0 b1 b2
  try clear bA bB bC bD bE bF bG
  try clear bO bP bQ bR bS bT bU
  try clear cb cc cd cf cg ch cj
  obtain ⟨kq,aG,rfl,HA,fa,ab,HB⟩ := hcut
  cases kq with
  | zero => exact absurd HA.out (by simp [spec_SketchOk.j0])
  | succ fw =>
   have H := HA.out
   clear HA
   simp only [spec_SketchOk.j0] at H
   by_cases dK : aG = true
   ·subst dK
    rw [if_pos rfl] at H;obtain rfl := Option.some.inj H;simp only [Option.some.injEq,Prod.mk.injEq] at H;obtain ⟨rfl⟩ := H
    go_wp2
    go_ret
    exact ⟨Z5x4,Z5x0⟩
   ·replace dK := Bool.eq_false_iff.mpr dK
    subst dK;rw [if_neg (show ¬ (false = true) by decide)] at H;have dz := mkA H;clear H;obtain ⟨cw,cx,cy,cz,c0,cA,cB⟩ := cz7 ab.out;obtain ⟨cC,cD,cE,cF,cG,cH,cI⟩ := fz7 ab.out
    go_upto_region 4 with (fail)
    go_cut [52] (fun fx wc => ∃ (kq : Nat) (a8 : Bool),fx = .bool a8 ∧ Aside0 (spec_SketchOk.j1 kq (aa == 0) a8 aa ae ai af aj ao ad = some r) ∧ Aside0 (kq ≤ fw) ∧ Aside0 (wc.heap[aF]? = some (.cells #[vi aa,vi ae,vi ai,vi af,(.slice a6 aj.length a7),(.slice cn ao.length cq),(.slice cr ad.length ct)] 27 (0,0))) ∧ Aside0 (Below w.heap.size w wc))
    case first =>
     have H := dz.out;clear dz
     by_cases dw : aa = 0
     ·rw [if_pos dw] at H
      have c22b0 : (aa == 0) = true := beq_iff_eq.mpr dw;have c22b1 : (aa != 0) = false := bne_eq_false_iff_eq.mpr dw;clear dw
      (first | rw [c22b0] | (simp only [i64_w,i32_w];rw [c22b0]) | rw [c22b1] | rw [c22b2] | rw [c22b3] | skip)
      by_cases dx : ae = 0
      ·rw [if_pos dx] at H
       have c23b0 : (ae == 0) = true := beq_iff_eq.mpr dx;have c23b1 : (ae != 0) = false := bne_eq_false_iff_eq.mpr dx;clear dx;have H' := mkA H;clear H;obtain ⟨cJ,cK,cL,cM,cN,cO,cP⟩ := cz7 ab.out;obtain ⟨cQ,cR,cS,cT,cU,cV,cW⟩ := fz7 ab.out
       go_wp2
       (first | go_meet | (refine Met.intro ?_;go_step;(repeat apply Exists.intro);refine ⟨?rel,?eqs⟩;case eqs => ((try rw [show (aa == 0) = true from by assumption]);(try rw [show (aa == 0) = false from by assumption]);(try rw [show (ae != 0) = true from by assumption]);(try rw [show (ae != 0) = false from by assumption]);(try rw [show (af != 0) = true from by assumption]);(try rw [show (af != 0) = false from by assumption]);(try rfl))))
       case rel => exact ⟨_,((af != 0)),Z5x6,H',⟨by have := fa.out;first | omega | exact Nat.le_refl _⟩,⟨Z5x2⟩,⟨Z5x0⟩⟩
      ·rw [if_neg dx] at H
       have c23b0 : (ae == 0) = false := beq_eq_false_iff_ne.mpr dx;have c23b1 : (ae != 0) = true := bne_iff_ne.mpr dx;have H' := mkA H;clear H;obtain ⟨cX,cY,cZ,c_,da,db,dc⟩ := cz7 ab.out;obtain ⟨dd,de,df,dg,dh,di,dj⟩ := fz7 ab.out
       go_wp2
       (first | go_meet | (refine Met.intro ?_;go_step;(repeat apply Exists.intro);refine ⟨?rel,?eqs⟩;case eqs => ((try rw [show (aa == 0) = true from by assumption]);(try rw [show (aa == 0) = false from by assumption]);(try rw [show (ae != 0) = true from by assumption]);(try rw [show (ae != 0) = false from by assumption]);(try rfl))))
       case rel => exact ⟨_,(true),Z5x6,H',⟨by have := fa.out;first | omega | exact Nat.le_refl _⟩,⟨Z5x2⟩,⟨Z5x0⟩⟩
     ·rw [if_neg dw] at H
      have c22b0 : (aa == 0) = false := beq_eq_false_iff_ne.mpr dw;have c22b1 : (aa != 0) = true := bne_iff_ne.mpr dw
      (first | rw [c22b0] | (simp only [i64_w,i32_w];rw [c22b0]) | rw [c22b1] | rw [c22b2] | rw [c22b3] | skip)
      have H' := mkA H;clear H
      go_wp2
      (first | go_meet | (refine Met.intro ?_;go_step;(repeat apply Exists.intro);refine ⟨?rel,?eqs⟩;case eqs => ((try rw [show (aa == 0) = true from by assumption]);(try rw [show (aa == 0) = false from by assumption]);(try rfl))))
      case rel => exact ⟨_,(false),Z5x6,H',⟨by have := fa.out;first | omega | exact Nat.le_refl _⟩,⟨Z5x2⟩,⟨Z5x0⟩⟩
    case rest =>
     clear dz
     try clear c1
     try clear c2
     try clear p2
     try clear c4
     try clear c5
     try clear c7
     try clear c9
     try clear dF
     try clear dv
     try clear c12b0
     try clear c12b1
     try clear c12b2
     try clear dK
     try clear dw
     try clear c22b0
     try clear c22b1
     try clear c22b2
     try clear dx
     try clear c23b0
     try clear c23b1
     try clear aH aI aJ aK aL aM aN
     try clear aV aW aX aY aZ a_ ba
     try clear bk bm bn bo bp bq br
     try clear b3 b4 b5 b6 b7 b8 b9
     try clear bH bI bJ bK bL bM bN
     try clear bV bW bX bY bZ b_ ca
     try clear cw cx cy cz c0 cA cB
     try clear cJ cK cL cM cN cO cP
     try clear cX cY cZ c_ da db dc
     try clear aO aP aQ aR aS aT aU
     try clear bb bc bd bf bg bh bj
     try clear bs bu bw bz b0 b1 b2
     try clear bA bB bC bD bE bF bG
     try clear bO bP bQ bR bS bT bU
     try clear cb cc cd cf cg ch cj
     try clear cC cD cE cF cG cH cI
     try clear cQ cR cS cT cU cV cW
     try clear dd de df dg dh di dj
     try clear p2
     obtain ⟨kq,a8,rfl,HA,fy,ab,HB⟩ := hcut
     cases kq with
     | zero => exact absurd HA.out (by simp [spec_SketchOk.j1])
     | succ a1 =>
      have H := HA.out;clear HA;simp only [spec_SketchOk.j1] at H
      by_cases dR : a8 = true
      ·subst dR
       rw [if_pos rfl] at H;obtain rfl := Option.some.inj H;simp only [Option.some.injEq,Prod.mk.injEq] at H;obtain ⟨rfl⟩ := H
       go_wp2
       go_ret
       exact ⟨Z5x4,Z5x0⟩
      ·replace dR := Bool.eq_false_iff.mpr dR
       subst dR;rw [if_neg (show ¬ (false = true) by decide)] at H;replace H := Option.bind_eq_some_iff.mp H;obtain ⟨t159,dL,H⟩ := H
       try dsimp only at H
       have dS := mkA dL;clear dL
       by_cases dT : t159 = true
       ·subst dT
        rw [if_pos rfl] at H;replace H := Option.bind_eq_some_iff.mp H;obtain ⟨t160,dM,H⟩ := H
        try dsimp only at H
        have fb := mkA dM;clear dM
        by_cases dU : t160 = true
        ·subst dU
         rw [if_pos rfl] at H
         by_cases dV : 0 < (ad.length : Int)
         ·rw [if_pos dV] at H
          have c31b0 : decide (0 < (ad.length : Int)) = true := decide_eq_true dV
          (try (have c31b1 : decide (0 < ad.length) = true := decide_eq_true (by omega)))
          (try (have c31b2 : (0 < ad.length) = True := eq_true (by omega)))
          have c31b3 : decide (0 < ad.length) = true := decide_eq_true (by omega);clear dV;replace H := Option.bind_eq_some_iff.mp H;obtain ⟨t162,dN,H⟩ := H
          try dsimp only at H
          have fq := mkA dN;clear dN
          by_cases dW : t162 = true
          ·subst dW
           rw [if_pos rfl] at H
           by_cases dX : 1 < (ad.length : Int)
           ·rw [if_pos dX] at H
            have c34b0 : decide (1 < (ad.length : Int)) = true := decide_eq_true dX
            (try (have c34b1 : decide (1 < ad.length) = true := decide_eq_true (by omega)))
            (try (have c34b2 : (1 < ad.length) = True := eq_true (by omega)))
            have c34b3 : decide (1 < ad.length) = true := decide_eq_true (by omega);clear dX;replace H := Option.bind_eq_some_iff.mp H;obtain ⟨t164,dO,H⟩ := H
            try dsimp only at H
            have fA := mkA dO;clear dO;obtain rfl := Option.some.inj H;simp only [Option.some.injEq,Prod.mk.injEq] at H;obtain ⟨rfl⟩ := H;obtain ⟨dY,dZ,d_,ea,eb,ec,ed⟩ := cz7 ab.out;obtain ⟨ee,ef,eg,eh,ei,ej,ek⟩ := fz7 ab.out
            go_wp2_with (first | ((with_reducible refine gate_callee (f := 99) rfl ?_);refine goesL_ (some 56) rfl rfl Try.func99 (by kernel_rfl) rfl #[.slice a6 aj.length a7,vi 8,vi 1000000000,.bool (aa == 0)] rfl Z5x1 ?_;(with_reducible refine (spec_l3List.calls a1 _ _ aj 8 1000000000 (aa == 0) true _ ?ag ?ah dS.out).mono ?_);(case ag => exact Z5x3);(case ah => exact aE.out);rintro e w' ⟨rfl,⟨nd,rfl⟩⟩;refine ⟨_,rfl,?_⟩) | (go_at_call 99;(with_reducible refine (spec_l3List.calls a1 _ _ ao 8 17 (aa == 0) true _ ?ag ?ah fb.out).mono ?_);(case ag => exact Z5x5);(case ah => exact cu.out);rintro e w' ⟨rfl,⟨nd,rfl⟩⟩;have aC : 0 ≤ (0 : Int) := (by omega);have aD : 0 < (ad.length : Int) := of_decide_eq_true (by first | (with_reducible assumption) | assumption);obtain ⟨dy,dA,dB,dC,ak,aw,ax⟩ := at_L3 cv.out 0 aC aD;cases dC;have dP : (0 < ad.length) = True := eq_true (by omega);(try rw [show ((0 : Int)).toNat = 0 from rfl] at ak);(try rw [Addr.add_zero'] at ak);replace ak := czB HB.out ak;have aA := mkA ax;have aB := mkA aw;clear ax aw;replace aC := eq_true aC;replace aD := eq_true aD) | (go_at_call 99;(with_reducible refine (spec_l3List.calls a1 _ _ (rd_L3 ad 0) 4 1000000000 (aa == 0) true _ ?ag ?ah fq.out).mono ?_);(case ag => repeat (first | exact (Kd.C_below aA.out Z5x0) | (with_reducible refine Kd.C_alloc ?_ _) | (with_reducible refine Kd.C_drewN ?_ _) | (with_reducible refine Kd.C_drew ?_)));(case ah => exact aB.out);rintro e w' ⟨rfl,⟨nd,rfl⟩⟩;have dD : 0 ≤ (1 : Int) := (by omega);have dE : 1 < (ad.length : Int) := of_decide_eq_true (by first | (with_reducible assumption) | assumption);obtain ⟨dQ,fc,fe,ff,az,ck,cm⟩ := at_L3 cv.out 1 dD dE;obtain rfl : dy = dQ := (by injection ff);(try simp only [show (1 : Int).toNat = 1 from rfl,Nat.reduceMul,Nat.reduceEqDiff,Go.Addr.add,↓reduceIte] at az);have fs : (1 < ad.length) = True := eq_true (by omega);(try rw [show ((1 : Int)).toNat = 1 from rfl] at az);replace az := czB HB.out az;have dk := mkA cm;have dm := mkA ck;clear cm ck;replace dD := eq_true dD;replace dE := eq_true dE) | (go_at_call 99;(with_reducible refine (spec_l3List.calls a1 _ _ (rd_L3 ad 1) 4 1000000000 (aa == 0) t164 _ ?ag ?ah fA.out).mono ?_);(case ag => repeat (first | exact (Kd.C_below dk.out Z5x0) | (with_reducible refine Kd.C_alloc ?_ _) | (with_reducible refine Kd.C_drewN ?_ _) | (with_reducible refine Kd.C_drew ?_)));(case ah => exact dm.out);rintro e w' ⟨rfl,⟨nd,rfl⟩⟩))
            go_ret
            exact ⟨Z5x4,Z5x0⟩
           ·rw [if_neg dX] at H
            exact absurd H (by simp)
          ·replace dW := Bool.eq_false_iff.mpr dW
           subst dW;rw [if_neg (show ¬ (false = true) by decide)] at H;obtain rfl := Option.some.inj H;simp only [Option.some.injEq,Prod.mk.injEq] at H;obtain ⟨rfl⟩ := H;obtain ⟨en,eo,ep,er,et,eu,ev⟩ := cz7 ab.out;obtain ⟨ew,ey,ez,e0,e1,e2,e3⟩ := fz7 ab.out
           go_wp2_with (first | ((with_reducible refine gate_callee (f := 99) rfl ?_);refine goesL_ (some 56) rfl rfl Try.func99 (by kernel_rfl) rfl #[.slice a6 aj.length a7,vi 8,vi 1000000000,.bool (aa == 0)] rfl Z5x1 ?_;(with_reducible refine (spec_l3List.calls a1 _ _ aj 8 1000000000 (aa == 0) true _ ?ag ?ah dS.out).mono ?_);(case ag => exact Z5x3);(case ah => exact aE.out);rintro e w' ⟨rfl,⟨nd,rfl⟩⟩;refine ⟨_,rfl,?_⟩) | (go_at_call 99;(with_reducible refine (spec_l3List.calls a1 _ _ ao 8 17 (aa == 0) true _ ?ag ?ah fb.out).mono ?_);(case ag => exact Z5x5);(case ah => exact cu.out);rintro e w' ⟨rfl,⟨nd,rfl⟩⟩;have aC : 0 ≤ (0 : Int) := (by omega);have aD : 0 < (ad.length : Int) := of_decide_eq_true (by first | (with_reducible assumption) | assumption);obtain ⟨dy,dA,dB,dC,ak,aw,ax⟩ := at_L3 cv.out 0 aC aD;cases dC;have dP : (0 < ad.length) = True := eq_true (by omega);(try rw [show ((0 : Int)).toNat = 0 from rfl] at ak);(try rw [Addr.add_zero'] at ak);replace ak := czB HB.out ak;have aA := mkA ax;have aB := mkA aw;clear ax aw;replace aC := eq_true aC;replace aD := eq_true aD) | (go_at_call 99;(with_reducible refine (spec_l3List.calls a1 _ _ (rd_L3 ad 0) 4 1000000000 (aa == 0) false _ ?ag ?ah fq.out).mono ?_);(case ag => repeat (first | exact (Kd.C_below aA.out Z5x0) | (with_reducible refine Kd.C_alloc ?_ _) | (with_reducible refine Kd.C_drewN ?_ _) | (with_reducible refine Kd.C_drew ?_)));(case ah => exact aB.out);rintro e w' ⟨rfl,⟨nd,rfl⟩⟩))
           go_ret
           exact ⟨Z5x4,Z5x0⟩
         ·rw [if_neg dV] at H
          exact absurd H (by simp)
        ·replace dU := Bool.eq_false_iff.mpr dU
         subst dU;rw [if_neg (show ¬ (false = true) by decide)] at H;obtain rfl := Option.some.inj H;simp only [Option.some.injEq,Prod.mk.injEq] at H;obtain ⟨rfl⟩ := H;obtain ⟨e7,e8,e9,eA,eB,eC,eD⟩ := cz7 ab.out;obtain ⟨eE,eF,eG,eH,eI,eJ,eK⟩ := fz7 ab.out
         go_wp2_with (first | ((with_reducible refine gate_callee (f := 99) rfl ?_);refine goesL_ (some 56) rfl rfl Try.func99 (by kernel_rfl) rfl #[.slice a6 aj.length a7,vi 8,vi 1000000000,.bool (aa == 0)] rfl Z5x1 ?_;(with_reducible refine (spec_l3List.calls a1 _ _ aj 8 1000000000 (aa == 0) true _ ?ag ?ah dS.out).mono ?_);(case ag => exact Z5x3);(case ah => exact aE.out);rintro e w' ⟨rfl,⟨nd,rfl⟩⟩;refine ⟨_,rfl,?_⟩) | (go_at_call 99;(with_reducible refine (spec_l3List.calls a1 _ _ ao 8 17 (aa == 0) false _ ?ag ?ah fb.out).mono ?_);(case ag => exact Z5x5);(case ah => exact cu.out);rintro e w' ⟨rfl,⟨nd,rfl⟩⟩))
         go_ret
         exact ⟨Z5x4,Z5x0⟩
       ·replace dT := Bool.eq_false_iff.mpr dT
        subst dT;rw [if_neg (show ¬ (false = true) by decide)] at H;obtain rfl := Option.some.inj H;simp only [Option.some.injEq,Prod.mk.injEq] at H;obtain ⟨rfl⟩ := H;obtain ⟨eL,eM,eN,eO,eP,eQ,eR⟩ := cz7 ab.out;obtain ⟨eS,eT,eU,eV,eW,eX,eY⟩ := fz7 ab.out
        go_wp2_with (first | ((with_reducible refine gate_callee (f := 99) rfl ?_);refine goesL_ (some 56) rfl rfl Try.func99 (by kernel_rfl) rfl #[.slice a6 aj.length a7,vi 8,vi 1000000000,.bool (aa == 0)] rfl Z5x1 ?_;(with_reducible refine (spec_l3List.calls a1 _ _ aj 8 1000000000 (aa == 0) false _ ?ag ?ah dS.out).mono ?_);(case ag => exact Z5x3);(case ah => exact aE.out);rintro e w' ⟨rfl,⟨nd,rfl⟩⟩;refine ⟨_,rfl,?_⟩))
        go_ret
        exact ⟨Z5x4,Z5x0⟩

end Go.Proofs.Ytdciagkholijlaa.PFnEntries
