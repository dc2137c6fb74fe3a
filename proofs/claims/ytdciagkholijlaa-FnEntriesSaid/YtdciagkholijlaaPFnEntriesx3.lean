-- Written by this session's changed copy of the kit's printer (wip/patch_print.py): not the kit's own print.
import Derived.Test.YtdciagkholijlaaPFnEntriesx0
import Derived.Test.YtdciagkholijlaaPFnEntriesx2
namespace Go.Proofs.Ytdciagkholijlaa.PFnEntries
open Go.RowKit Go.Proofs.YtdciagkholijlaaW.PrintWords Go.Proofs.YtdciagkholijlaaW.PrintLast Go.Proofs.YtdciagkholijlaaW.PrintMore
attribute [local go_sem] max2_int min2_int max_two min_two max_three min_three max_four min_four   -- for this text's walks alone
set_option linter.unusedVariables false
set_option linter.unusedSimpArgs false
set_option maxHeartbeats 8000000
set_option maxRecDepth 100000
theorem Z3x0 {p : Prop} (h : p := by repeat (first | (with_reducible first | exact HB.out | apply below_alloc | apply pw_below_drewN | apply below_drew1 | refine below_set ?_ dF.out) | exact HB.out)) : p := h
theorem Z3x1 {p : Prop} (h : p := by (with_reducible repeat (first | refine blk_drewN ?_ _ | refine blk_drew ?_ | refine blk_alloc ?_ _));exact aa.out) : p := h
theorem Z3x2 {p : Prop} (h : p := by first | rfl | (simp [errW_none,errW_some] <;> rfl) | (simp [*,errW_none,errW_some] <;> rfl)) : p := h
theorem Z3x3 {p : Prop} (h : p := by first | (with_reducible assumption) | assumption) : p := h
theorem Z3x4 {p : Prop} (h : p := by first | rfl | (simp;done) | (simp [*];done)) : p := h
theorem Z3x5 {p : Prop} (h : p := by (try simp only [List.map_toArray,List.map_cons,List.map_nil]);first | done | rfl | (simp only [List.length_drop,List.length_take];rfl)) : p := h
theorem Z3x6 {p : Prop} (h : p := by repeat (first | (with_reducible first | exact HB.out | apply below_alloc | apply pw_below_drewN | apply below_drew1) | exact HB.out)) : p := h

mutual
def impl_SketchOk.j0 : Nat → Bool → Int → Int → Int → Int → List Int → List Int → List (List Int) → Option (Bool)
 | 0,_,_,_,_,_,_,_,_ => none
 | k + 1,fw,aq,aw,ar,ao,ay,au,az => if fw = true then (some false) else ((impl_counts.f k aq aw ar ao ay au az).bind fun t123 => ((some (([aq,aw,ar,ao] : List Int) : List Int)).bind fun aJ => (if t123.length + aJ.length < 17592186044416 then ((some (t123 ++ aJ : List Int)).bind fun av => (impl_SketchOk.l0 k 0 av (av.length : Int) 0 aq aw ar ao ay au az)) else (none))))
def impl_SketchOk.l0 : Nat → Int → List Int → Int → Int → Int → Int → Int → Int → List Int → List Int → List (List Int) → Option (Bool)
 | 0,_,_,_,_,_,_,_,_,_,_,_ => none
 | k + 1,x3,dY,fg,dx,aq,aw,ar,ao,ay,au,az => if dx < fg then (if 0 ≤ dx then (if dx < (dY.length : Int) then ((impl_within.f (rd dY dx) 0 1000000000).bind fun t133 => (if t133 = true then (impl_SketchOk.l0 k (wrap64 (x3 + (rd dY dx))) dY fg (wrap64 (dx + 1)) aq aw ar ao ay au az) else (some false))) else (none)) else (none)) else (impl_SketchOk.l1 k x3 au (au.length : Int) 0 aq aw ar ao ay au az)
def impl_SketchOk.l1 : Nat → Int → List Int → Int → Int → Int → Int → Int → Int → List Int → List Int → List (List Int) → Option (Bool)
 | 0,_,_,_,_,_,_,_,_,_,_,_ => none
 | k + 1,x3,eU,fh,dG,aq,aw,ar,ao,ay,au,az => if dG < fh then (if 0 ≤ dG then (if dG < (eU.length : Int) then (if (rd eU dG) > 17 then (some false) else (impl_SketchOk.l1 k x3 eU fh (wrap64 (dG + 1)) aq aw ar ao ay au az)) else (none)) else (none)) else (if aq = 0 then (some (x3 == 0)) else (if ar ≤ ao then (some (decide (ao ≤ 1000000))) else (some false)))
end
def impl_SketchOk.f (k : Nat) (ag : Int) (aj : Int) (ah : Int) (ai : Int) (ae : List Int) (ad : List Int) (ab : List (List Int)) : Option (Bool) := if (ae.length : Int) = 8 then (if (ad.length : Int) = 8 then (if (ab.length : Int) = 2 then (if 0 < (ab.length : Int) then (if ((rd_L3 ab 0).length : Int) = 4 then (if 1 < (ab.length : Int) then (impl_SketchOk.j0 k (((rd_L3 ab 1).length : Int) != 4) ag aj ah ai ae ad ab) else (none)) else (impl_SketchOk.j0 k true ag aj ah ai ae ad ab)) else (none)) else (impl_SketchOk.j0 k true ag aj ah ai ae ad ab)) else (impl_SketchOk.j0 k true ag aj ah ai ae ad ab)) else (impl_SketchOk.j0 k true ag aj ah ai ae ad ab)
def impl_SketchOk.T4 : Bool × List (List Nat × List Nat) := (true,[([],[]),([0],[0]),([],[]),([2],[2]),([],[]),([4],[4]),([],[]),([6],[6]),([],[]),([8],[8]),([3,5,7,9],[3,5,7,9]),([1,10,1],[1,10]),([11],[11]),([],[])])
def impl_SketchOk.B4 : List Nat := [0,1,0,4,0,16,0,64,0,256,1020,2047,4095,0]
theorem impl_SketchOk.tab4 : rtab .any (opsOf Try.f44 4) = impl_SketchOk.T4 := by kernel_rfl
theorem impl_SketchOk.bits4 : waitsOk impl_SketchOk.T4.2 impl_SketchOk.B4 = true := by kernel_rfl
theorem impl_SketchOk.calls (k : Nat) (ag : Int) (aj : Int) (ah : Int) (ai : Int) (a6 : Option Addr) (a7 : Nat) (ae : List Int) (a8 : Option Addr) (aA : Nat) (ad : List Int) (aC : Option Addr) (aD : Nat) (ab : List (List Int)) (r : Bool) (w : World) (da : Kd.C (Kd.int .i64) w a6 ae.length ae) (db : ae.length ≤ a7) (dc : Kd.C (Kd.int .i64) w a8 ad.length ad) (dd : ad.length ≤ aA) (de : Kd.C (Kd.slice 3 (Kd.int .i64)) w aC ab.length ab) (df : ab.length ≤ aD) (h : impl_SketchOk.f k ag aj ah ai ae ad ab = some r) :
  Calls Try.prog 44 #[.agg #[vi ag,vi aj,vi ah,vi ai,.slice a6 ae.length a7,.slice a8 ad.length aA,.slice aC ab.length aD]] w fun e w' => e = .returned (.bool r) ∧ Below w.heap.size w w' := by
 have fx := Try.underlying27
 have dg := mkA da
 have dh := mkA db
 clear da db
 have ct := mkA dc
 have di := mkA dd
 clear dc dd
 have ch := mkA de
 have dj := mkA df
 clear de df
 have HB := mkA (Below.refl w.heap.size w)
 have H := h
 unfold impl_SketchOk.f at H
 clear h
 have eV := mkA H
 clear H
 go_enter Try.func44,Try.ntmps44
 go_upto_region 1 with (first | ((with_reducible refine gate_dst (N := 1) rfl ?_);(try (refine gate_guard (by rfl) ?_;dsimp only));refine box_event ?hg (N := 1) ?hd (cs := #[vi ag,vi aj,vi ah,vi ai,.slice a6 ae.length a7,.slice a8 ad.length aA,.slice aC ab.length aD]) (t := 27) ?hr ?_;(case hd => rfl);(case hg => rfl);(case hr => first | (go_simp;done) | (go_simp;rfl));intro af hg w3 hbox hb;have aK := mkA (below_step Z3x6 hb);have aM := mkA (hbox);have aQ := mkA ((by rw [hg];exact (below_size Z3x6) : w.heap.size ≤ af));have cu := mkA ((by rw [hg];exact (below_size Z3x6) : w.heap.size ≤ af));clear HB;have HB := aK;have aa := aM;have fi := aQ;have dF := cu;clear aK aM aQ cu;clear hb hbox hg))
 (try simp only [Act.put,List.setIfInBounds_toArray,List.set_cons_zero,List.set_cons_succ])
 go_cut [39] (fun v39 wc => ∃ (kq : Nat) (cv : Bool),v39 = .bool cv ∧ Aside0 (impl_SketchOk.j0 kq cv ag aj ah ai ae ad ab = some r) ∧ Aside0 (kq ≤ k) ∧ Aside0 (wc.heap[af]? = some (.cells #[vi ag,vi aj,vi ah,vi ai,(.slice a6 ae.length a7),(.slice a8 ad.length aA),(.slice aC ab.length aD)] 27 (0,0))) ∧ Aside0 (Below w.heap.size w wc))
 case first =>
  have H := eV.out
  clear eV
  by_cases c4 : (ae.length : Int) = 8
  ·rw [if_pos c4] at H
   have c4b0 : ((ae.length : Int) == 8) = true := beq_iff_eq.mpr c4
   have c4b1 : ((ae.length : Int) != 8) = false := bne_eq_false_iff_eq.mpr c4
   clear c4
   (first | rw [c4b0] | (simp only [i64_w,i32_w];rw [c4b0]) | rw [c4b1] | rw [c4b2] | rw [c4b3] | skip)
   by_cases c5 : (ad.length : Int) = 8
   ·rw [if_pos c5] at H
    have c5b0 : ((ad.length : Int) == 8) = true := beq_iff_eq.mpr c5;have c5b1 : ((ad.length : Int) != 8) = false := bne_eq_false_iff_eq.mpr c5;clear c5
    by_cases c6 : (ab.length : Int) = 2
    ·rw [if_pos c6] at H
     have c6b0 : ((ab.length : Int) == 2) = true := beq_iff_eq.mpr c6;have c6b1 : ((ab.length : Int) != 2) = false := bne_eq_false_iff_eq.mpr c6;clear c6
     by_cases c7 : 0 < (ab.length : Int)
     ·rw [if_pos c7] at H
      have c7b0 : decide (0 < (ab.length : Int)) = true := decide_eq_true c7
      (try (have c7b1 : decide (0 < ab.length) = true := decide_eq_true (by omega)))
      (try (have c7b2 : (0 < ab.length) = True := eq_true (by omega)))
      have c7b3 : decide (0 < ab.length) = true := decide_eq_true (by omega);clear c7
      by_cases c8 : ((rd_L3 ab 0).length : Int) = 4
      ·rw [if_pos c8] at H
       have c8b0 : (((rd_L3 ab 0).length : Int) == 4) = true := beq_iff_eq.mpr c8;have c8b1 : (((rd_L3 ab 0).length : Int) != 4) = false := bne_eq_false_iff_eq.mpr c8;clear c8
       by_cases c9 : 1 < (ab.length : Int)
       ·rw [if_pos c9] at H
        have c9b0 : decide (1 < (ab.length : Int)) = true := decide_eq_true c9
        (try (have c9b1 : decide (1 < ab.length) = true := decide_eq_true (by omega)))
        (try (have c9b2 : (1 < ab.length) = True := eq_true (by omega)))
        have c9b3 : decide (1 < ab.length) = true := decide_eq_true (by omega);clear c9;have H' := mkA H;clear H;obtain ⟨aT,aU,aV,aW,aX,aY,aZ⟩ := cz7 aa.out;obtain ⟨a_,ba,bb,bc,bd,bf,bg⟩ := fz7 aa.out;have aN : 0 ≤ (0 : Int) := (by omega);have aP : 0 < (ab.length : Int) := of_decide_eq_true Z3x3;obtain ⟨dk,dn,dp,dq,al,aG,aH⟩ := at_L3 ch.out 0 aN aP
        cases dq
        have dH : (0 < ab.length) = True := eq_true (by omega)
        (try rw [show ((0 : Int)).toNat = 0 from rfl] at al)
        (try rw [Addr.add_zero'] at al)
        replace al := czB HB.out al;have cL := mkA aH;have cM := mkA aG;clear aH aG;replace aN := eq_true aN;replace aP := eq_true aP;have c0 : 0 ≤ (1 : Int) := (by omega);have cA : 1 < (ab.length : Int) := of_decide_eq_true Z3x3;obtain ⟨dI,eW,eX,eY,a1,cw,cx⟩ := at_L3 ch.out 1 c0 cA;obtain rfl : dk = dI := (by injection eY)
        (try simp only [show (1 : Int).toNat = 1 from rfl,Nat.reduceMul,Nat.reduceEqDiff,Go.Addr.add,↓reduceIte] at a1)
        have fj : (1 < ab.length) = True := eq_true (by omega)
        (try rw [show ((1 : Int)).toNat = 1 from rfl] at a1)
        replace a1 := czB HB.out a1;have dZ := mkA cx;have d_ := mkA cw;clear cx cw;replace c0 := eq_true c0;replace cA := eq_true cA
        go_wp2
        (first | go_meet | (refine Met.intro ?_;go_step;(repeat apply Exists.intro);refine ⟨?rel,?eqs⟩;case eqs => ((try rw [show ((ae.length : Int) != 8) = true from by assumption]);(try rw [show ((ae.length : Int) != 8) = false from by assumption]);(try rw [show ((ad.length : Int) != 8) = true from by assumption]);(try rw [show ((ad.length : Int) != 8) = false from by assumption]);(try rw [show ((ab.length : Int) != 2) = true from by assumption]);(try rw [show ((ab.length : Int) != 2) = false from by assumption]);(try rw [show (((rd_L3 ab 0).length : Int) != 4) = true from by assumption]);(try rw [show (((rd_L3 ab 0).length : Int) != 4) = false from by assumption]);(try rw [show (((rd_L3 ab 1).length : Int) != 4) = true from by assumption]);(try rw [show (((rd_L3 ab 1).length : Int) != 4) = false from by assumption]);(try rfl))))
        case rel => exact ⟨_,((((rd_L3 ab 1).length : Int) != 4)),Z3x4,H',⟨by first | omega | exact Nat.le_refl _⟩,⟨Z3x1⟩,⟨Z3x0⟩⟩
       ·rw [if_neg c9] at H
        exact absurd H (by simp)
      ·rw [if_neg c8] at H
       have c8b0 : (((rd_L3 ab 0).length : Int) == 4) = false := beq_eq_false_iff_ne.mpr c8;have c8b1 : (((rd_L3 ab 0).length : Int) != 4) = true := bne_iff_ne.mpr c8;have H' := mkA H;clear H;obtain ⟨bh,bj,bk,bm,bn,bo,bp⟩ := cz7 aa.out;obtain ⟨bq,br,bs,bu,bw,bz,b0⟩ := fz7 aa.out;have aN : 0 ≤ (0 : Int) := (by omega);have aP : 0 < (ab.length : Int) := of_decide_eq_true Z3x3;obtain ⟨dk,dn,dp,dq,al,aG,aH⟩ := at_L3 ch.out 0 aN aP
       cases dq
       have dH : (0 < ab.length) = True := eq_true (by omega)
       (try rw [show ((0 : Int)).toNat = 0 from rfl] at al)
       (try rw [Addr.add_zero'] at al)
       replace al := czB HB.out al;have cL := mkA aH;have cM := mkA aG;clear aH aG;replace aN := eq_true aN;replace aP := eq_true aP
       go_wp2
       (first | go_meet | (refine Met.intro ?_;go_step;(repeat apply Exists.intro);refine ⟨?rel,?eqs⟩;case eqs => ((try rw [show ((ae.length : Int) != 8) = true from by assumption]);(try rw [show ((ae.length : Int) != 8) = false from by assumption]);(try rw [show ((ad.length : Int) != 8) = true from by assumption]);(try rw [show ((ad.length : Int) != 8) = false from by assumption]);(try rw [show ((ab.length : Int) != 2) = true from by assumption]);(try rw [show ((ab.length : Int) != 2) = false from by assumption]);(try rw [show (((rd_L3 ab 0).length : Int) != 4) = true from by assumption]);(try rw [show (((rd_L3 ab 0).length : Int) != 4) = false from by assumption]);(try rfl))))
       case rel => exact ⟨_,(true),Z3x4,H',⟨by first | omega | exact Nat.le_refl _⟩,⟨Z3x1⟩,⟨Z3x0⟩⟩
     ·rw [if_neg c7] at H
      exact absurd H (by simp)
    ·rw [if_neg c6] at H
     have c6b0 : ((ab.length : Int) == 2) = false := beq_eq_false_iff_ne.mpr c6;have c6b1 : ((ab.length : Int) != 2) = true := bne_iff_ne.mpr c6;have H' := mkA H;clear H;obtain ⟨b1,b2,b3,b4,b5,b6,b7⟩ := cz7 aa.out;obtain ⟨b8,b9,bA,bB,bC,bD,bE⟩ := fz7 aa.out
     go_wp2
     (first | go_meet | (refine Met.intro ?_;go_step;(repeat apply Exists.intro);refine ⟨?rel,?eqs⟩;case eqs => ((try rw [show ((ae.length : Int) != 8) = true from by assumption]);(try rw [show ((ae.length : Int) != 8) = false from by assumption]);(try rw [show ((ad.length : Int) != 8) = true from by assumption]);(try rw [show ((ad.length : Int) != 8) = false from by assumption]);(try rw [show ((ab.length : Int) != 2) = true from by assumption]);(try rw [show ((ab.length : Int) != 2) = false from by assumption]);(try rfl))))
     case rel => exact ⟨_,(true),Z3x4,H',⟨by first | omega | exact Nat.le_refl _⟩,⟨Z3x1⟩,⟨Z3x0⟩⟩
   ·rw [if_neg c5] at H
    have c5b0 : ((ad.length : Int) == 8) = false := beq_eq_false_iff_ne.mpr c5;have c5b1 : ((ad.length : Int) != 8) = true := bne_iff_ne.mpr c5;have H' := mkA H;clear H;obtain ⟨bF,bG,bH,bI,bJ,bK,bL⟩ := cz7 aa.out;obtain ⟨bM,bN,bO,bP,bQ,bR,bS⟩ := fz7 aa.out
    go_wp2
    (first | go_meet | (refine Met.intro ?_;go_step;(repeat apply Exists.intro);refine ⟨?rel,?eqs⟩;case eqs => ((try rw [show ((ae.length : Int) != 8) = true from by assumption]);(try rw [show ((ae.length : Int) != 8) = false from by assumption]);(try rw [show ((ad.length : Int) != 8) = true from by assumption]);(try rw [show ((ad.length : Int) != 8) = false from by assumption]);(try rfl))))
    case rel => exact ⟨_,(true),Z3x4,H',⟨by first | omega | exact Nat.le_refl _⟩,⟨Z3x1⟩,⟨Z3x0⟩⟩
  ·rw [if_neg c4] at H
   have c4b0 : ((ae.length : Int) == 8) = false := beq_eq_false_iff_ne.mpr c4
   have c4b1 : ((ae.length : Int) != 8) = true := bne_iff_ne.mpr c4
   (first | rw [c4b0] | (simp only [i64_w,i32_w];rw [c4b0]) | rw [c4b1] | rw [c4b2] | rw [c4b3] | skip)
   have H' := mkA H
   clear H
   obtain ⟨bT,bU,bV,bW,bX,bY,bZ⟩ := cz7 aa.out
   obtain ⟨b_,ca,cb,cc,cd,cf,cg⟩ := fz7 aa.out
   go_wp2
   (first | go_meet | (refine Met.intro ?_;go_step;(repeat apply Exists.intro);refine ⟨?rel,?eqs⟩;case eqs => ((try rw [show ((ae.length : Int) != 8) = true from by assumption]);(try rw [show ((ae.length : Int) != 8) = false from by assumption]);(try rfl))))
   case rel => exact ⟨_,(true),Z3x4,H',⟨by first | omega | exact Nat.le_refl _⟩,⟨Z3x1⟩,⟨Z3x0⟩⟩
 case rest =>
  clear eV
  try clear c1
  try clear p1
  try clear q1
  try clear fk
  try clear fl
  try clear p2
  try clear c4
  try clear c4b0
  try clear c4b1
  try clear c4b2
  try clear c5
  try clear c5b0
  try clear c5b1
  try clear c6
  try clear c6b0
  try clear c6b1
  try clear c7
  try clear c7b0
  try clear c7b1
  try clear c7b2
  try clear c8
  try clear c8b0
  try clear c8b1
  try clear c9
  try clear c9b0
  try clear c9b1
  try clear c9b2
  try clear fm
  try clear ea
  try clear eb
  try clear dJ
  try clear dK
  try clear aT aU aV aW aX aY aZ
  try clear bh bj bk bm bn bo bp
  try clear b1 b2 b3 b4 b5 b6 b7
  try clear bF bG bH bI bJ bK bL
  try clear bT bU bV bW bX bY bZ
  try clear a_ ba bb bc bd bf bg
  try clear bq br bs bu bw bz b0
  try clear b8 b9 bA bB bC bD bE
  try clear bM bN bO bP bQ bR bS
  try clear b_ ca cb cc cd cf cg
  try clear al
  try clear a1
  try clear aN
  try clear c0
  try clear aP
  try clear cA
  obtain ⟨kq,cv,rfl,HA,ec,aa,HB⟩ := hcut
  cases kq with
  | zero => exact absurd HA.out (by simp [impl_SketchOk.j0])
  | succ dy =>
   have H := HA.out
   clear HA
   simp only [impl_SketchOk.j0] at H
   by_cases dz : cv = true
   ·subst dz
    rw [if_pos rfl] at H;obtain rfl := Option.some.inj H;simp only [Option.some.injEq,Prod.mk.injEq] at H;obtain ⟨rfl⟩ := H
    go_wp2
    go_ret
    exact ⟨Z3x2,Z3x0⟩
   ·replace dz := Bool.eq_false_iff.mpr dz
    subst dz;rw [if_neg (show ¬ (false = true) by decide)] at H;replace H := Option.bind_eq_some_iff.mp H;obtain ⟨t123,dL,H⟩ := H
    try dsimp only at H
    have fo := mkA dL;clear dL;obtain ⟨aJ,cj⟩ : ∃ y_ : List Int,y_ = (([ag,aj,ah,ai] : List Int)) := ⟨_,rfl⟩
    replace H : (if t123.length + aJ.length < 17592186044416 then ((some (t123 ++ aJ : List Int)).bind fun av => (impl_SketchOk.l0 dy 0 av (av.length : Int) 0 ag aj ah ai ae ad ab)) else (none)) = some r := by first | (rw [cj];with_reducible exact H) | (have dr := (Option.bind_some _ _).symm.trans H;rw [cj];with_reducible exact dr) | (have dr := (Option.bind_some _ _).symm.trans H;with_reducible exact dr) | with_reducible exact H | (rw [cj];exact H) | exact H
    have cy := mkA cj;clear cj
    by_cases dA : t123.length + aJ.length < 17592186044416
    ·rw [if_pos dA] at H
     have dM := mkA dA;clear dA;obtain ⟨av,ck⟩ : ∃ y_ : List Int,y_ = (t123 ++ aJ) := ⟨_,rfl⟩
     replace H : (impl_SketchOk.l0 dy 0 av (av.length : Int) 0 ag aj ah ai ae ad ab) = some r := by first | (rw [ck];with_reducible exact H) | (have dr := (Option.bind_some _ _).symm.trans H;rw [ck];with_reducible exact dr) | (have dr := (Option.bind_some _ _).symm.trans H;with_reducible exact dr) | with_reducible exact H | (rw [ck];exact H) | exact H
     have dN := mkA ck;clear ck;have H' := mkA H;clear H
     try go_wp2
     have aK := mkA (blk_drew aa.out);have aM := mkA (below_drew1 HB.out);clear aa;clear HB;have aa := aK;have HB := aM;clear aK aM;refine start_ (n := 14) (S := fun w' => w'.cell? ⟨af,0,none⟩ = some (vi ag) ∧ w'.cell? ⟨af,1,none⟩ = some (vi aj) ∧ w'.cell? ⟨af,2,none⟩ = some (vi ah) ∧ w'.cell? ⟨af,3,none⟩ = some (vi ai) ∧ w'.cell? ⟨af,4,none⟩ = some (.slice a6 ae.length a7) ∧ w'.cell? ⟨af,5,none⟩ = some (.slice a8 ad.length aA) ∧ w'.cell? ⟨af,6,none⟩ = some (.slice aC ab.length aD)) (ds := []) #[false,false,false,false,false,false,false,false,false,false,false,false,false,false] (by kernel_rfl) rfl rfl ⟨(blk_cell aa.out 0).trans rfl,(blk_cell aa.out 1).trans rfl,(blk_cell aa.out 2).trans rfl,(blk_cell aa.out 3).trans rfl,(blk_cell aa.out 4).trans rfl,(blk_cell aa.out 5).trans rfl,(blk_cell aa.out 6).trans rfl⟩ (fun hHeld => ?_);refine with_tabW impl_SketchOk.tab4 impl_SketchOk.bits4 (fun HT_ HW_ => ?_);generalize wc.drew = fC at aa HB hHeld ⊢;refine pure_ (i := 2) (N := some 42) (v := ?_) (a' := ?_) #[false,false,true,false,false,false,false,false,false,false,false,false,false,false] rfl rfl (any_of HT_.out (by kernel_rfl)) (fun _ _ _ h => h) (Or.inl ⟨by rfl,?_⟩) ?_ ?_
     rotate_left
     ·intro w'
      go_simp
      with_reducible rfl
     rotate_left
     ·simp only [czP]
      rfl
     refine pure_ (i := 4) (N := some 44) (v := ?_) (a' := ?_) #[false,false,true,false,true,false,false,false,false,false,false,false,false,false] rfl rfl (any_of HT_.out (by kernel_rfl)) (fun _ _ _ h => h) (Or.inl ⟨by rfl,?_⟩) ?_ ?_
     rotate_left
     ·intro w'
      go_simp
      with_reducible rfl
     rotate_left
     ·simp only [czP]
      rfl
     refine pure_ (i := 6) (N := some 46) (v := ?_) (a' := ?_) #[false,false,true,false,true,false,true,false,false,false,false,false,false,false] rfl rfl (any_of HT_.out (by kernel_rfl)) (fun _ _ _ h => h) (Or.inl ⟨by rfl,?_⟩) ?_ ?_
     rotate_left
     ·intro w'
      go_simp
      with_reducible rfl
     rotate_left
     ·simp only [czP]
      rfl
     refine pure_ (i := 8) (N := some 48) (v := ?_) (a' := ?_) #[false,false,true,false,true,false,true,false,true,false,false,false,false,false] rfl rfl (any_of HT_.out (by kernel_rfl)) (fun _ _ _ h => h) (Or.inl ⟨by rfl,?_⟩) ?_ ?_
     rotate_left
     ·intro w'
      go_simp
      with_reducible rfl
     rotate_left
     ·simp only [czP]
      rfl
     refine pure_ (i := 13) (N := some 53) (v := ?_) (a' := ?_) #[false,false,true,false,true,false,true,false,true,false,false,false,false,true] rfl rfl (any_of HT_.out (by kernel_rfl)) (fun _ _ _ h => h) (Or.inl ⟨by rfl,?_⟩) ?_ ?_
     rotate_left
     ·intro w'
      go_simp
      with_reducible rfl
     rotate_left
     ·simp only [czP]
      rfl
     refine take_ (i := 0) (N := some 40) (v := ?_) (a' := ?_) #[true,false,true,false,true,false,true,false,true,false,false,false,false,true] rfl rfl (take_ofW HT_.out HW_.out (by kernel_rfl)) (fun _ _ _ h => h) (Or.inl ⟨by rfl,?_⟩) hHeld ?_ ?_
     rotate_left
     ·rintro w' ⟨s0,s1,s2,s3,s4,s5,s6⟩
      go_simp
      with_reducible rfl
     rotate_left
     ·simp only [czP]
      rfl
     refine take_ (i := 3) (N := some 43) (v := ?_) (a' := ?_) #[true,false,true,true,true,false,true,false,true,false,false,false,false,true] rfl rfl (take_ofW HT_.out HW_.out (by kernel_rfl)) (fun _ _ _ h => h) (Or.inl ⟨by rfl,?_⟩) hHeld ?_ ?_
     rotate_left
     ·rintro w' ⟨s0,s1,s2,s3,s4,s5,s6⟩
      go_simp
      with_reducible rfl
     rotate_left
     ·simp only [czP]
      rfl
     refine take_ (i := 5) (N := some 45) (v := ?_) (a' := ?_) #[true,false,true,true,true,true,true,false,true,false,false,false,false,true] rfl rfl (take_ofW HT_.out HW_.out (by kernel_rfl)) (fun _ _ _ h => h) (Or.inl ⟨by rfl,?_⟩) hHeld ?_ ?_
     rotate_left
     ·rintro w' ⟨s0,s1,s2,s3,s4,s5,s6⟩
      go_simp
      with_reducible rfl
     rotate_left
     ·simp only [czP]
      rfl
     refine take_ (i := 7) (N := some 47) (v := ?_) (a' := ?_) #[true,false,true,true,true,true,true,true,true,false,false,false,false,true] rfl rfl (take_ofW HT_.out HW_.out (by kernel_rfl)) (fun _ _ _ h => h) (Or.inl ⟨by rfl,?_⟩) hHeld ?_ ?_
     rotate_left
     ·rintro w' ⟨s0,s1,s2,s3,s4,s5,s6⟩
      go_simp
      with_reducible rfl
     rotate_left
     ·simp only [czP]
      rfl
     refine take_ (i := 9) (N := some 49) (v := ?_) (a' := ?_) #[true,false,true,true,true,true,true,true,true,true,false,false,false,true] rfl rfl (take_ofW HT_.out HW_.out (by kernel_rfl)) (fun _ _ _ h => h) (Or.inl ⟨by rfl,?_⟩) hHeld ?_ ?_
     rotate_left
     ·rintro w' ⟨s0,s1,s2,s3,s4,s5,s6⟩
      go_simp
      with_reducible rfl
     rotate_left
     ·simp only [czP]
      rfl
     refine join_ (σ := Value × Value) 2 #[true,true,true,true,true,true,true,true,true,true,true,false,false,true] (fun s_ => [(41,s_.1),(50,s_.2)]) (fun s_ w' => (w'.cell? ⟨af,0,none⟩ = some (vi ag) ∧ w'.cell? ⟨af,1,none⟩ = some (vi aj) ∧ w'.cell? ⟨af,2,none⟩ = some (vi ah) ∧ w'.cell? ⟨af,3,none⟩ = some (vi ai) ∧ w'.cell? ⟨af,4,none⟩ = some (.slice a6 ae.length a7) ∧ w'.cell? ⟨af,5,none⟩ = some (.slice a8 ad.length aA) ∧ w'.cell? ⟨af,6,none⟩ = some (.slice aC ab.length aD)) ∧ (Kd.R (Kd.int .i64) 3 w' w.heap.size (fun k_ => some k_ ≠ (s_.2 : Value).ownBlock) s_.1 t123) ∧ (Kd.R (Kd.int .i64) 3 w' w.heap.size (fun k_ => some k_ ≠ (s_.1 : Value).ownBlock) s_.2 aJ) ∧ (w'.heap[af]? = some (.cells #[vi ag,vi aj,vi ah,vi ai,.slice a6 ae.length a7,.slice a8 ad.length aA,.slice aC ab.length aD] 27 (0,0))) ∧ (Below w.heap.size w w')) ?_ ?_
     rotate_left
     ·intro hCont
      refine two_ (i := 1) (j := 10) (Ni := some 41) (Nj := some 50) #[true,true,true,true,true,true,true,true,true,true,false,false,false,true] #[true,false,true,true,true,true,true,true,true,true,true,false,false,true] rfl rfl rfl rfl (two_of HT_.out (by kernel_rfl)) (by decide) (by decide) (fun K hK => ?_) (fun K hK => ?_)
      ·skip
       refine goes_ Try.func65 (by kernel_rfl) rfl #[.agg #[vi ag,vi aj,vi ah,vi ai,.slice a6 ae.length a7,.slice a8 ad.length aA,.slice aC ab.length aD]] (by rfl) rfl rfl Z3x5 ?_
       with_reducible refine (impl_counts.calls dy ag aj ah ai _ _ ae _ _ ad _ _ ab t123 _ ?cC ?cD ?cE ?cF ?cG ?cH fo.out).mono ?_
       (case cC => repeat (first | exact (Kd.C_below dg.out HB.out) | (with_reducible refine Kd.C_alloc ?_ _) | (with_reducible refine Kd.C_drewN ?_ _) | (with_reducible refine Kd.C_drew ?_)))
       (case cD => exact dh.out)
       (case cE => repeat (first | exact (Kd.C_below ct.out HB.out) | (with_reducible refine Kd.C_alloc ?_ _) | (with_reducible refine Kd.C_drewN ?_ _) | (with_reducible refine Kd.C_drew ?_)))
       (case cF => exact di.out)
       (case cG => repeat (first | exact (Kd.C_below ch.out HB.out) | (with_reducible refine Kd.C_alloc ?_ _) | (with_reducible refine Kd.C_drewN ?_ _) | (with_reducible refine Kd.C_drew ?_)))
       (case cH => exact dj.out)
       rintro e fy ⟨v124,rfl,dB,hb⟩
       refine ⟨_,rfl,?_⟩;have aK := mkA (Kd.R_lower dB (below_size Z3x0));have aM := mkA (blk_below (g := af) (o := .cells #[vi ag,vi aj,vi ah,vi ai,.slice a6 ae.length a7,.slice a8 ad.length aA,.slice aC ab.length aD] 27 (0,0)) Z3x1 hb);have aQ := mkA (below_step Z3x0 hb);clear aa;clear HB;have aE := aK;have aa := aM;have HB := aQ;clear aK aM aQ
       (try clear hb)
       (try clear fA)
       (try clear hk)
       (try clear hi)
       (try clear dB)
       refine hK.out _ _ ⟨(blk_cell aa.out 0).trans rfl,(blk_cell aa.out 1).trans rfl,(blk_cell aa.out 2).trans rfl,(blk_cell aa.out 3).trans rfl,(blk_cell aa.out 4).trans rfl,(blk_cell aa.out 5).trans rfl,(blk_cell aa.out 6).trans rfl⟩ (fun hHeld => ?_);clear hK K;refine norm_ (a' := ?_) ?_ ?_
       rotate_left
       ·show Act.put _ (some 41) _ = _
        simp only [czP]
        rfl
       refine one_ (i := 10) (N := some 50) #[true,true,true,true,true,true,true,true,true,true,true,false,false,true] rfl rfl (one_of HT_.out (by kernel_rfl)) (by decide) (fun K hK => ?_);refine Kd.R_lit_step (Kd.int .i64) _ 3 ?hg (N := 50) ?hd (xs := ([ag,aj,ah,ai] : List Int)) (inner := [vi ag,vi aj,vi ah,vi ai]) (ok := fun _ => True) (okp := fun _ => True) ?hr ?hp (fun _ hk => hk) trivial (Below.refl _ _) (Nat.le_refl _) (by simp) ?_;(case hd => rfl);(case hg => rfl);(case hr => first | (go_simp;done) | (go_simp;rfl));(case hp => exact (Reps.one (show Kd.M (Kd.int .i64) _ _ _ ag [vi ag] from rfl) (Reps.one (show Kd.M (Kd.int .i64) _ _ _ aj [vi aj] from rfl) (Reps.one (show Kd.M (Kd.int .i64) _ _ _ ah [vi ah] from rfl) (Reps.one (show Kd.M (Kd.int .i64) _ _ _ ai [vi ai] from rfl) (Reps.none _ _))))));intro v127 fD cB hb hg_ hnew_;clear hg_ hnew_
       (first | rw [← cy.out] at cB | (simp only [Int.reduceToNat] at cB;rw [← cy.out] at cB))
       have aK := mkA (Kd.R_elder' (by (with_reducible repeat (first | apply Kd.R_alloc | apply Kd.R_drewN | apply Kd.R_drew));exact aE.out) (Kd.R_base cB) hb);have aM := mkA (Kd.R_lower (Kd.R_new' cB (Kd.R_lt (by (with_reducible repeat (first | apply Kd.R_alloc | apply Kd.R_drewN | apply Kd.R_drew));exact aE.out))) (below_size Z3x0));have aQ := mkA (blk_below (g := af) (o := .cells #[vi ag,vi aj,vi ah,vi ai,.slice a6 ae.length a7,.slice a8 ad.length aA,.slice aC ab.length aD] 27 (0,0)) Z3x1 hb);have cu := mkA (below_step Z3x0 hb);clear aE;clear aa;clear HB;have aE := aK;have ax := aM;have aa := aQ;have HB := cu;clear aK aM aQ cu;clear hb cB;refine hK.out _ _ ⟨(blk_cell aa.out 0).trans rfl,(blk_cell aa.out 1).trans rfl,(blk_cell aa.out 2).trans rfl,(blk_cell aa.out 3).trans rfl,(blk_cell aa.out 4).trans rfl,(blk_cell aa.out 5).trans rfl,(blk_cell aa.out 6).trans rfl⟩ (fun hHeld => ?_);clear hK K;refine norm_ (a' := ?_) ?_ ?_
       rotate_left
       ·show Act.put _ (some 50) _ = _
        simp only [czP]
        rfl
       exact norm_ (by simp only [putAll,Act.put,List.setIfInBounds_toArray,List.set_cons_zero,List.set_cons_succ]) (hCont (v124,v127) _ ⟨hHeld,(by (with_reducible repeat (first | apply Kd.R_alloc | apply Kd.R_drewN | apply Kd.R_drew));exact Kd.R_mono aE.out (fun _ hk => hk.2)),(by (with_reducible repeat (first | apply Kd.R_alloc | apply Kd.R_drewN | apply Kd.R_drew));exact Kd.R_mono ax.out (fun _ hk => hk.2)),Z3x1,Z3x0⟩)
      ·skip
       refine Kd.R_lit_step (Kd.int .i64) _ 3 ?hg (N := 50) ?hd (xs := ([ag,aj,ah,ai] : List Int)) (inner := [vi ag,vi aj,vi ah,vi ai]) (ok := fun _ => True) (okp := fun _ => True) ?hr ?hp (fun _ hk => hk) trivial (Below.refl _ _) (Nat.le_refl _) (by simp) ?_;(case hd => rfl);(case hg => rfl);(case hr => first | (go_simp;done) | (go_simp;rfl));(case hp => exact (Reps.one (show Kd.M (Kd.int .i64) _ _ _ ag [vi ag] from rfl) (Reps.one (show Kd.M (Kd.int .i64) _ _ _ aj [vi aj] from rfl) (Reps.one (show Kd.M (Kd.int .i64) _ _ _ ah [vi ah] from rfl) (Reps.one (show Kd.M (Kd.int .i64) _ _ _ ai [vi ai] from rfl) (Reps.none _ _))))));intro v127 fy cI hb hg_ hnew_;clear hg_ hnew_
       (first | rw [← cy.out] at cI | (simp only [Int.reduceToNat] at cI;rw [← cy.out] at cI))
       have aK := mkA (Kd.R_lower cI (below_size Z3x0));have aM := mkA (blk_below (g := af) (o := .cells #[vi ag,vi aj,vi ah,vi ai,.slice a6 ae.length a7,.slice a8 ad.length aA,.slice aC ab.length aD] 27 (0,0)) Z3x1 hb);have aQ := mkA (below_step Z3x0 hb);clear aa;clear HB;have ax := aK;have aa := aM;have HB := aQ;clear aK aM aQ;clear hb cI;refine hK.out _ _ ⟨(blk_cell aa.out 0).trans rfl,(blk_cell aa.out 1).trans rfl,(blk_cell aa.out 2).trans rfl,(blk_cell aa.out 3).trans rfl,(blk_cell aa.out 4).trans rfl,(blk_cell aa.out 5).trans rfl,(blk_cell aa.out 6).trans rfl⟩ (fun hHeld => ?_);clear hK K;refine norm_ (a' := ?_) ?_ ?_
       rotate_left
       ·show Act.put _ (some 50) _ = _
        simp only [czP]
        rfl
       refine one_ (i := 1) (N := some 41) #[true,true,true,true,true,true,true,true,true,true,true,false,false,true] rfl rfl (one_of HT_.out (by kernel_rfl)) (by decide) (fun K hK => ?_);refine goes_ Try.func65 (by kernel_rfl) rfl #[.agg #[vi ag,vi aj,vi ah,vi ai,.slice a6 ae.length a7,.slice a8 ad.length aA,.slice aC ab.length aD]] (by rfl) rfl rfl Z3x5 ?_
       with_reducible refine (impl_counts.calls dy ag aj ah ai _ _ ae _ _ ad _ _ ab t123 _ ?cC ?cD ?cE ?cF ?cG ?cH fo.out).mono ?_
       (case cC => repeat (first | exact (Kd.C_below dg.out HB.out) | (with_reducible refine Kd.C_alloc ?_ _) | (with_reducible refine Kd.C_drewN ?_ _) | (with_reducible refine Kd.C_drew ?_)))
       (case cD => exact dh.out)
       (case cE => repeat (first | exact (Kd.C_below ct.out HB.out) | (with_reducible refine Kd.C_alloc ?_ _) | (with_reducible refine Kd.C_drewN ?_ _) | (with_reducible refine Kd.C_drew ?_)))
       (case cF => exact di.out)
       (case cG => repeat (first | exact (Kd.C_below ch.out HB.out) | (with_reducible refine Kd.C_alloc ?_ _) | (with_reducible refine Kd.C_drewN ?_ _) | (with_reducible refine Kd.C_drew ?_)))
       (case cH => exact dj.out)
       rintro e fE ⟨v124,rfl,dB,hb⟩
       refine ⟨_,rfl,?_⟩;have aK := mkA (Kd.R_elder' (by (with_reducible repeat (first | apply Kd.R_alloc | apply Kd.R_drewN | apply Kd.R_drew));exact ax.out) (Kd.R_base dB) hb);have aM := mkA (Kd.R_lower (Kd.R_new' dB (Kd.R_lt (by (with_reducible repeat (first | apply Kd.R_alloc | apply Kd.R_drewN | apply Kd.R_drew));exact ax.out))) (below_size Z3x0));have aQ := mkA (blk_below (g := af) (o := .cells #[vi ag,vi aj,vi ah,vi ai,.slice a6 ae.length a7,.slice a8 ad.length aA,.slice aC ab.length aD] 27 (0,0)) Z3x1 hb);have cu := mkA (below_step Z3x0 hb);clear ax;clear aa;clear HB;have ax := aK;have aE := aM;have aa := aQ;have HB := cu;clear aK aM aQ cu
       (try clear hb)
       (try clear fA)
       (try clear hk)
       (try clear hi)
       (try clear dB)
       refine hK.out _ _ ⟨(blk_cell aa.out 0).trans rfl,(blk_cell aa.out 1).trans rfl,(blk_cell aa.out 2).trans rfl,(blk_cell aa.out 3).trans rfl,(blk_cell aa.out 4).trans rfl,(blk_cell aa.out 5).trans rfl,(blk_cell aa.out 6).trans rfl⟩ (fun hHeld => ?_);clear hK K;refine norm_ (a' := ?_) ?_ ?_
       rotate_left
       ·show Act.put _ (some 41) _ = _
        simp only [czP]
        rfl
       exact norm_ (by simp only [putAll,Act.put,List.setIfInBounds_toArray,List.set_cons_zero,List.set_cons_succ]) (hCont (v124,v127) _ ⟨hHeld,(by (with_reducible repeat (first | apply Kd.R_alloc | apply Kd.R_drewN | apply Kd.R_drew));exact Kd.R_mono aE.out (fun _ hk => hk.2)),(by (with_reducible repeat (first | apply Kd.R_alloc | apply Kd.R_drewN | apply Kd.R_drew));exact Kd.R_mono ax.out (fun _ hk => hk.2)),Z3x1,Z3x0⟩)
     rintro ⟨v124,v127⟩ cJ ⟨hS_,fp,fq,fs,ft⟩
     have aK : Aside0 (Kd.R (Kd.int .i64) 3 cJ w.heap.size (fun k_ => some k_ ≠ (v127 : Value).ownBlock) v124 t123) := ⟨fp⟩;have aM : Aside0 (Kd.R (Kd.int .i64) 3 cJ w.heap.size (fun k_ => some k_ ≠ (v124 : Value).ownBlock) v127 aJ) := ⟨fq⟩;have aQ : Aside0 (cJ.heap[af]? = some (.cells #[vi ag,vi aj,vi ah,vi ai,.slice a6 ae.length a7,.slice a8 ad.length aA,.slice aC ab.length aD] 27 (0,0))) := ⟨fs⟩;have cu : Aside0 (Below w.heap.size w cJ) := ⟨ft⟩;clear aa;clear HB;clear fp fq fs ft;have aE := aK;have ax := aM;have aa := aQ;have HB := cu;clear aK aM aQ cu;have hHeld : cJ.cell? ⟨af,0,none⟩ = some (vi ag) ∧ cJ.cell? ⟨af,1,none⟩ = some (vi aj) ∧ cJ.cell? ⟨af,2,none⟩ = some (vi ah) ∧ cJ.cell? ⟨af,3,none⟩ = some (vi ai) ∧ cJ.cell? ⟨af,4,none⟩ = some (.slice a6 ae.length a7) ∧ cJ.cell? ⟨af,5,none⟩ = some (.slice a8 ad.length aA) ∧ cJ.cell? ⟨af,6,none⟩ = some (.slice aC ab.length aD) := hS_;obtain ⟨eZ,e_,dO⟩ := Kd.R_slice ax.out
     (first | subst dO | (injection dO with dP fa dQ;have fb := dP.symm;have fc := dQ.symm;clear dP fa dQ;subst fb;subst fc))
     refine norm_ (a' := ?_) ?_ ?_
     rotate_left
     ·simp only [putAll,Act.put,List.setIfInBounds_toArray,List.set_cons_zero,List.set_cons_succ]
      rfl
     refine one_ (i := 11) (N := some 51) #[true,true,true,true,true,true,true,true,true,true,true,true,false,true] rfl rfl (one_of HT_.out (by kernel_rfl)) (by decide) (fun K hK => ?_);refine Kd.R_append_rows_step (Kd.int .i64) (w0 := w) w.heap.size (by rfl) (.tmp 41) (.tmp 50) 24 3 (vi 0) 8 rfl Try.underlying24 info3 rfl (by decide) (by omega) v124 t123 aJ _ _ _ (fun k_ => some k_ ≠ (.slice eZ aJ.length e_ : Value).ownBlock) (fun _ => False) rfl rfl ?aO ?aR (fun _ _ h => h) (fun _ h => h.elim) ?aF ?aB ?aS ?aL ?_
     (case aR => repeat (first | exact (Kd.R_reads' ax.out).2.2 | (with_reducible refine Kd.C_alloc ?_ _) | (with_reducible refine Kd.C_drewN ?_ _) | (with_reducible refine Kd.C_drew ?_)))
     (case aB => exact Z3x0)
     (case aF => exact (fun k_ hk => Kd.fresh' (Kd.R_lt (by (with_reducible repeat (first | apply Kd.R_alloc | apply Kd.R_drewN | apply Kd.R_drew));exact ax.out)) k_ hk))
     (case aO => exact (by (with_reducible repeat (first | apply Kd.R_alloc | apply Kd.R_drewN | apply Kd.R_drew));exact aE.out))
     (case aS => exact (below_size Z3x0))
     (case aL => have := dM.out;omega)
     intro v130 fF ho hb hg hat;rw [← dN.out] at ho;have aK := mkA (blk_grown (g := af) (o := .cells #[vi ag,vi aj,vi ah,vi ai,.slice a6 ae.length a7,.slice a8 ad.length aA,.slice aC ab.length aD] 27 (0,0)) Z3x1 hg (Kd.R_ne aE.out aa.out (by decide)));have aM := mkA (Kd.R_after (ok := (fun _ => True)) (by (with_reducible repeat (first | apply Kd.R_alloc | apply Kd.R_drewN | apply Kd.R_drew));exact Kd.R_mono ax.out (fun _ hk => ⟨trivial,hk⟩)) hg hat);have aQ := mkA (hb);have cu := mkA (ho);clear aa;clear ax;clear HB;clear aE;have aa := aK;have ax := aM;have HB := aQ;have dm := cu;clear aK aM aQ cu;clear ho hb hg hat;obtain ⟨fe,ff,dR⟩ := Kd.R_slice dm.out
     (first | subst dR | (injection dR with dP fa dQ;have fb := dP.symm;have fc := dQ.symm;clear dP fa dQ;subst fb;subst fc))
     refine hK.out _ _ ⟨(blk_cell aa.out 0).trans rfl,(blk_cell aa.out 1).trans rfl,(blk_cell aa.out 2).trans rfl,(blk_cell aa.out 3).trans rfl,(blk_cell aa.out 4).trans rfl,(blk_cell aa.out 5).trans rfl,(blk_cell aa.out 6).trans rfl⟩ (fun hHeld => ?_);clear hK K;refine norm_ (a' := ?_) ?_ ?_
     rotate_left
     ·show Act.put _ (some 51) _ = _
      simp only [czP]
      rfl
     refine pure_ (i := 12) (N := some 52) (v := ?_) (a' := ?_) #[true,true,true,true,true,true,true,true,true,true,true,true,true,true] rfl rfl (any_of HT_.out (by kernel_rfl)) (fun _ _ _ h => h) (Or.inl ⟨by rfl,?_⟩) ?_ ?_
     rotate_left
     ·intro w'
      go_simp
      with_reducible rfl
     rotate_left
     ·simp only [czP]
      rfl
     refine done_ (done_of HT_.out (by kernel_rfl)) ?_
     try go_wp2
     go_loopg [3,53] dy (fun kq v3 v53 w' => ∃ (cK : Int) (ak : Int),v3 = vi cK ∧ v53 = vi ak ∧ Aside0 (impl_SketchOk.l0 kq cK av (av.length : Int) ak ag aj ah ai ae ad ab = some r) ∧ Aside0 (kq ≤ dy) ∧ Aside0 (Kd.R (Kd.int .i64) 3 w' w.heap.size (fun _ => True) (.slice fe av.length ff) av) ∧ Aside0 (w'.heap[af]? = some (.cells #[vi ag,vi aj,vi ah,vi ai,(.slice a6 ae.length a7),(.slice a8 ad.length aA),(.slice aC ab.length aD)] 27 (0,0))) ∧ Aside0 (Below w.heap.size w w'))
     case atStart => exact ⟨(0),(0),Z3x4,Z3x4,H',⟨Nat.le_refl _⟩,⟨by (with_reducible repeat (first | apply Kd.R_alloc | apply Kd.R_drewN | apply Kd.R_drew));exact Kd.R_mono dm.out (fun _ hk => trivial)⟩,⟨Z3x1⟩,⟨Z3x0⟩⟩
     case round =>
      clear H'
      try clear c1
      try clear p1
      try clear q1
      try clear fk
      try clear fl
      try clear p2
      try clear c4
      try clear c4b0
      try clear c4b1
      try clear c4b2
      try clear c5
      try clear c5b0
      try clear c5b1
      try clear c6
      try clear c6b0
      try clear c6b1
      try clear c7
      try clear c7b0
      try clear c7b1
      try clear c7b2
      try clear c8
      try clear c8b0
      try clear c8b1
      try clear c9
      try clear c9b0
      try clear c9b1
      try clear c9b2
      try clear fm
      try clear ea
      try clear eb
      try clear dJ
      try clear dK
      try clear dz
      try clear dA
      try clear aT aU aV aW aX aY aZ
      try clear bh bj bk bm bn bo bp
      try clear b1 b2 b3 b4 b5 b6 b7
      try clear bF bG bH bI bJ bK bL
      try clear bT bU bV bW bX bY bZ
      try clear a_ ba bb bc bd bf bg
      try clear bq br bs bu bw bz b0
      try clear b8 b9 bA bB bC bD bE
      try clear bM bN bO bP bQ bR bS
      try clear b_ ca cb cc cd cf cg
      try clear al
      try clear a1
      try clear p1
      try clear ea
      try clear aN
      try clear c0
      try clear p2
      try clear q1
      try clear eb
      try clear aP
      try clear cA
      (try clear aa)
      obtain ⟨cK,ak,rfl,rfl,HA,ed,HO_51,aa,HB⟩ := hrel
      cases gk with
      | zero => exact absurd HA.out (by simp [impl_SketchOk.l0])
      | succ k2 =>
       have H := HA.out;clear HA;simp only [impl_SketchOk.l0] at H
       by_cases dt : ak < (av.length : Int)
       ·rw [if_pos dt] at H
        have c26b0 : decide (ak < (av.length : Int)) = true := decide_eq_true dt;clear dt
        by_cases dS : 0 ≤ ak
        ·rw [if_pos dS] at H
         have c27b0 : decide (0 ≤ ak) = true := decide_eq_true dS;clear dS
         by_cases dT : ak < (av.length : Int)
         ·rw [if_pos dT] at H
          have c28b0 : decide (ak < (av.length : Int)) = true := decide_eq_true dT;clear dT;replace H := Option.bind_eq_some_iff.mp H;obtain ⟨t133,dU,H⟩ := H
          try dsimp only at H
          have fu := mkA dU;clear dU
          by_cases dV : t133 = true
          ·subst dV
           rw [if_pos rfl] at H;have H' := mkA H;clear H;have cm : 0 ≤ (ak : Int) := of_decide_eq_true Z3x3;have cn : ak < (av.length : Int) := of_decide_eq_true Z3x3;obtain ⟨dW,du,cz⟩ := Kd.at_int (Kd.R_reads' HO_51.out).2.2 ak cm cn
           cases du
           replace cm := eq_true cm;replace cn := eq_true cn
           go_wp2_with (first | ((with_reducible refine gate_callee (f := 40) rfl ?_);refine goesL_ (some 58) rfl rfl Try.func40 (by kernel_rfl) rfl #[vi (rd av ak),vi 0,vi 1000000000] rfl Z3x5 ?_;(with_reducible refine (impl_within.calls (rd av ak) 0 1000000000 true _ fu.out).mono ?_);rintro e w' ⟨rfl,⟨nd,rfl⟩⟩;refine ⟨_,rfl,?_⟩))
           go_roundg k2
           case measure => have := ec.out;have := ed.out;omega
           case rel => exact ⟨(wrap64 (cK + (rd av ak))),(wrap64 (ak + 1)),Z3x4,Z3x4,H',⟨by have := ec.out;have := ed.out;omega⟩,⟨by (with_reducible repeat (first | apply Kd.R_alloc | apply Kd.R_drewN | apply Kd.R_drew));exact HO_51.out⟩,⟨Z3x1⟩,⟨Z3x0⟩⟩
          ·replace dV := Bool.eq_false_iff.mpr dV
           subst dV;rw [if_neg (show ¬ (false = true) by decide)] at H;obtain rfl := Option.some.inj H;simp only [Option.some.injEq,Prod.mk.injEq] at H;obtain ⟨rfl⟩ := H;have cm : 0 ≤ (ak : Int) := of_decide_eq_true Z3x3;have cn : ak < (av.length : Int) := of_decide_eq_true Z3x3;obtain ⟨dW,du,cz⟩ := Kd.at_int (Kd.R_reads' HO_51.out).2.2 ak cm cn
           cases du
           replace cm := eq_true cm;replace cn := eq_true cn
           go_wp2_with (first | ((with_reducible refine gate_callee (f := 40) rfl ?_);refine goesL_ (some 58) rfl rfl Try.func40 (by kernel_rfl) rfl #[vi (rd av ak),vi 0,vi 1000000000] rfl Z3x5 ?_;(with_reducible refine (impl_within.calls (rd av ak) 0 1000000000 false _ fu.out).mono ?_);rintro e w' ⟨rfl,⟨nd,rfl⟩⟩;refine ⟨_,rfl,?_⟩))
           go_ret
           exact ⟨Z3x2,Z3x0⟩
         ·rw [if_neg dT] at H
          exact absurd H (by simp)
        ·rw [if_neg dS] at H
         exact absurd H (by simp)
       ·rw [if_neg dt] at H
        have c26b0 : decide (ak < (av.length : Int)) = false := decide_eq_false dt;clear dt;have H' := mkA H;clear H;obtain ⟨cN,cO,cP,cQ,cR,cS,cT⟩ := cz7 aa.out;obtain ⟨cU,cV,cW,cX,cY,cZ,c_⟩ := fz7 aa.out
        go_wp2
        go_loopg [67] k2 (fun kq v67 w' => ∃ (an : Int),v67 = vi an ∧ Aside0 (impl_SketchOk.l1 kq cK ad (ad.length : Int) an ag aj ah ai ae ad ab = some r) ∧ Aside0 (kq ≤ k2) ∧ Aside0 (w'.heap[af]? = some (.cells #[vi ag,vi aj,vi ah,vi ai,(.slice a6 ae.length a7),(.slice a8 ad.length aA),(.slice aC ab.length aD)] 27 (0,0))) ∧ Aside0 (Below w.heap.size w w'))
        case atStart => exact ⟨(0),Z3x4,H',⟨Nat.le_refl _⟩,⟨Z3x1⟩,⟨Z3x0⟩⟩
        case round =>
         clear H'
         try clear c1
         try clear p1
         try clear q1
         try clear fk
         try clear fl
         try clear c2
         try clear p2
         try clear c3
         try clear c4
         try clear c4b0
         try clear c4b1
         try clear c4b2
         try clear c5
         try clear c5b0
         try clear c5b1
         try clear c6
         try clear c6b0
         try clear c6b1
         try clear p6
         try clear c7
         try clear c7b0
         try clear c7b1
         try clear c7b2
         try clear c8
         try clear c8b0
         try clear c8b1
         try clear c9
         try clear c9b0
         try clear c9b1
         try clear c9b2
         try clear fm
         try clear ea
         try clear eb
         try clear dJ
         try clear dK
         try clear fG
         try clear fH
         try clear fB
         try clear dz
         try clear dA
         try clear dt
         try clear c26b0
         try clear dS
         try clear c27b0
         try clear dT
         try clear c28b0
         try clear dV
         try clear aT aU aV aW aX aY aZ
         try clear bh bj bk bm bn bo bp
         try clear b1 b2 b3 b4 b5 b6 b7
         try clear bF bG bH bI bJ bK bL
         try clear bT bU bV bW bX bY bZ
         try clear cN cO cP cQ cR cS cT
         try clear a_ ba bb bc bd bf bg
         try clear bq br bs bu bw bz b0
         try clear b8 b9 bA bB bC bD bE
         try clear bM bN bO bP bQ bR bS
         try clear b_ ca cb cc cd cf cg
         try clear cU cV cW cX cY cZ c_
         try clear al
         try clear a1
         try clear cz
         try clear p1
         try clear ea
         try clear aN
         try clear c0
         try clear cm
         try clear p2
         try clear q1
         try clear eb
         try clear aP
         try clear cA
         try clear cn
         (try clear aa)
         obtain ⟨an,rfl,HA,fv,aa,HB⟩ := hrel
         cases gk with
         | zero => exact absurd HA.out (by simp [impl_SketchOk.l1])
         | succ k3 =>
          have H := HA.out;clear HA;simp only [impl_SketchOk.l1] at H
          by_cases dC : an < (ad.length : Int)
          ·rw [if_pos dC] at H
           have c32b0 : decide (an < (ad.length : Int)) = true := decide_eq_true dC;clear dC
           by_cases ee : 0 ≤ an
           ·rw [if_pos ee] at H
            have c33b0 : decide (0 ≤ an) = true := decide_eq_true ee;clear ee
            by_cases ef : an < (ad.length : Int)
            ·rw [if_pos ef] at H
             have c34b0 : decide (an < (ad.length : Int)) = true := decide_eq_true ef;clear ef
             by_cases dD : (rd ad an) > 17
             ·rw [if_pos dD] at H
              have c35b0 : decide (17 < (rd ad an)) = true := decide_eq_true dD;clear dD;obtain rfl := Option.some.inj H;simp only [Option.some.injEq,Prod.mk.injEq] at H;obtain ⟨rfl⟩ := H;have cq : 0 ≤ (an : Int) := of_decide_eq_true Z3x3;have cr : an < (ad.length : Int) := of_decide_eq_true Z3x3;obtain ⟨dX,dv,aI⟩ := Kd.at_int ct.out an cq cr
              cases dv
              replace aI := czB HB.out aI;replace cq := eq_true cq;replace cr := eq_true cr
              go_wp2
              go_ret
              exact ⟨Z3x2,Z3x0⟩
             ·rw [if_neg dD] at H
              have c35b0 : decide (17 < (rd ad an)) = false := decide_eq_false dD;clear dD;have H' := mkA H;clear H;have cq : 0 ≤ (an : Int) := of_decide_eq_true Z3x3;have cr : an < (ad.length : Int) := of_decide_eq_true Z3x3;obtain ⟨dX,dv,aI⟩ := Kd.at_int ct.out an cq cr
              cases dv
              replace aI := czB HB.out aI;replace cq := eq_true cq;replace cr := eq_true cr
              go_wp2
              go_roundg k3
              case measure => have := ec.out;have := ed.out;have := fv.out;omega
              case rel => exact ⟨(wrap64 (an + 1)),Z3x4,H',⟨by have := ec.out;have := ed.out;have := fv.out;omega⟩,⟨Z3x1⟩,⟨Z3x0⟩⟩
            ·rw [if_neg ef] at H
             exact absurd H (by simp)
           ·rw [if_neg ee] at H
            exact absurd H (by simp)
          ·rw [if_neg dC] at H
           have c32b0 : decide (an < (ad.length : Int)) = false := decide_eq_false dC;clear dC
           by_cases dw : ag = 0
           ·rw [if_pos dw] at H
            have c36b0 : (ag == 0) = true := beq_iff_eq.mpr dw;have c36b1 : (ag != 0) = false := bne_eq_false_iff_eq.mpr dw;clear dw;obtain rfl := Option.some.inj H;simp only [Option.some.injEq,Prod.mk.injEq] at H;obtain ⟨rfl⟩ := H;obtain ⟨eg,eh,ei,ej,ek,en,eo⟩ := cz7 aa.out;obtain ⟨ep,er,et,eu,ev,ew,ey⟩ := fz7 aa.out
            go_wp2
            go_ret
            exact ⟨Z3x2,Z3x0⟩
           ·rw [if_neg dw] at H
            have c36b0 : (ag == 0) = false := beq_eq_false_iff_ne.mpr dw;have c36b1 : (ag != 0) = true := bne_iff_ne.mpr dw
            by_cases dE : ah ≤ ai
            ·rw [if_pos dE] at H
             have c38b0 : decide (ah ≤ ai) = true := decide_eq_true dE;clear dE;obtain rfl := Option.some.inj H;simp only [Option.some.injEq,Prod.mk.injEq] at H;obtain ⟨rfl⟩ := H;obtain ⟨ez,e0,e1,e2,e3,e7,e8⟩ := cz7 aa.out;obtain ⟨e9,eA,eB,eC,eD,eE,eF⟩ := fz7 aa.out
             go_wp2
             go_ret
             exact ⟨Z3x2,Z3x0⟩
            ·rw [if_neg dE] at H
             have c38b0 : decide (ah ≤ ai) = false := decide_eq_false dE;clear dE;obtain rfl := Option.some.inj H;simp only [Option.some.injEq,Prod.mk.injEq] at H;obtain ⟨rfl⟩ := H;obtain ⟨eG,eH,eI,eJ,eK,eL,eM⟩ := cz7 aa.out;obtain ⟨eN,eO,eP,eQ,eR,eS,eT⟩ := fz7 aa.out
             go_wp2
             go_ret
             exact ⟨Z3x2,Z3x0⟩
    ·rw [if_neg dA] at H
     exact absurd H (by simp)

end Go.Proofs.Ytdciagkholijlaa.PFnEntries
