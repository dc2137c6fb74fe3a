-- Written by this session's changed copy of the kit's printer (wip/patch_print.py): not the kit's own print.
import Derived.Test.YtdciagkholijlaaPFnEntriesx0
import Derived.Test.YtdciagkholijlaaPFnEntriesx2
import Derived.Test.YtdciagkholijlaaPFnEntriesx3
namespace Go.Proofs.Ytdciagkholijlaa.PFnEntries
open Go.RowKit Go.Proofs.YtdciagkholijlaaW.PrintWords Go.Proofs.YtdciagkholijlaaW.PrintLast Go.Proofs.YtdciagkholijlaaW.PrintMore
attribute [local go_sem] max2_int min2_int max_two min_two max_three min_three max_four min_four   -- for this text's walks alone
set_option linter.unusedVariables false
set_option linter.unusedSimpArgs false
set_option maxHeartbeats 8000000
set_option maxRecDepth 100000
theorem Z4x0 {p : Prop} (h : p := by repeat (first | (with_reducible first | exact HB.out | apply below_alloc | apply pw_below_drewN | apply below_drew1) | exact HB.out)) : p := h
theorem Z4x1 {p : Prop} (h : p := by (try simp only [List.map_toArray,List.map_cons,List.map_nil]);first | done | rfl | (simp only [List.length_drop,List.length_take];rfl)) : p := h
theorem Z4x2 {p : Prop} (h : p := by repeat (first | (with_reducible first | exact HB.out | apply below_alloc | apply pw_below_drewN | apply below_drew1 | refine below_set ?_ aK.out) | exact HB.out)) : p := h
theorem Z4x3 {p : Prop} (h : p := by first | rfl | (simp;done) | (simp [*];done)) : p := h
theorem Z4x4 {p : Prop} (h : p := by repeat (first | exact Drawn0.refl _ | apply Drawn0.step)) : p := h
theorem Z4x5 {p : Prop} (h : p := by first | (with_reducible assumption) | assumption) : p := h
theorem Z4x6 {p : Prop} (h : p := by repeat (first | (with_reducible first | exact HBW.out | apply below_alloc | apply pw_below_drewN | apply below_drew1) | exact HBW.out)) : p := h
theorem Z4x7 {p : Prop} (h : p := by first | rfl | (simp [errW_none,errW_some] <;> rfl) | (simp [*,errW_none,errW_some] <;> rfl)) : p := h
theorem Z4x8 {p : Prop} (h : p := by (with_reducible repeat (first | refine blk_drewN ?_ _ | refine blk_drew ?_ | refine blk_alloc ?_ _));exact ab.out) : p := h
theorem Z4x9 {p : Prop} (h : p := by repeat (first | exact (Kd.C_below b1.out Z4x2) | (with_reducible refine Kd.C_alloc ?_ _) | (with_reducible refine Kd.C_drewN ?_ _) | (with_reducible refine Kd.C_drew ?_))) : p := h
theorem Z4x10 {p : Prop} (h : p := by rw [hg];exact (below_size Z4x0)) : p := h

def impl_EntryOk.f (k : Nat) (ag : Int) (ai : Int) (ad : List (S70)) (aw : Int) (ax : Int) (ay : Int) (az : Int) (aj : List Int) (ak : List Int) (al : List (List Int)) : Option (Bool) := (impl_within.f ag 0 4).bind fun t136 => (if t136 = true then ((impl_within.f ai 0 20).bind fun t137 => (if t137 = true then ((impl_SetOk.f k ad).bind fun t138 => (if t138 = true then (if (ad.length : Int) > 0 then ((impl_SketchOk.f k aw ax ay az aj ak al).bind fun t139 => (some t139)) else (some false)) else (some false))) else (some false))) else (some false))
theorem impl_EntryOk.calls (k : Nat) (ag : Int) (ai : Int) (a7 : Option Addr) (a8 : Nat) (ad : List (S70)) (aw : Int) (ax : Int) (ay : Int) (az : Int) (aA : Option Addr) (aB : Nat) (aj : List Int) (aC : Option Addr) (aD : Nat) (ak : List Int) (aE : Option Addr) (aF : Nat) (al : List (List Int)) (r : Bool) (w : World) (bb : Kd.C k70 w a7 ad.length ad) (bc : ad.length ≤ a8) (bd : Kd.C (Kd.int .i64) w aA aj.length aj) (bf : aj.length ≤ aB) (bg : Kd.C (Kd.int .i64) w aC ak.length ak) (bh : ak.length ≤ aD) (bj : Kd.C (Kd.slice 3 (Kd.int .i64)) w aE al.length al) (bk : al.length ≤ aF) (h : impl_EntryOk.f k ag ai ad aw ax ay az aj ak al = some r) :
  Calls Try.prog 14 #[.agg #[vi ag,vi ai,.slice a7 ad.length a8,vi aw,vi ax,vi ay,vi az,.slice aA aj.length aB,.slice aC ak.length aD,.slice aE al.length aF]] w fun e w' => e = .returned (.bool r) ∧ Below w.heap.size w w' := by
 have eP := Try.underlying34
 have eQ := Try.underlying27
 have b1 := mkA bb
 have aY := mkA bc
 clear bb bc
 have b2 := mkA bd
 have b3 := mkA bf
 clear bd bf
 have b4 := mkA bg
 have b5 := mkA bh
 clear bg bh
 have b6 := mkA bj
 have b7 := mkA bk
 clear bj bk
 have HB := mkA (Below.refl w.heap.size w)
 have H := h
 unfold impl_EntryOk.f at H
 clear h
 replace H := Option.bind_eq_some_iff.mp H
 obtain ⟨t136,bm,H⟩ := H
 try dsimp only at H
 have A2 := mkA bm
 clear bm
 by_cases c3 : t136 = true
 ·subst c3
  rw [if_pos rfl] at H
  replace H := Option.bind_eq_some_iff.mp H
  obtain ⟨t137,eI,H⟩ := H
  try dsimp only at H
  have A4 := mkA eI
  clear eI
  by_cases c5 : t137 = true
  ·subst c5
   rw [if_pos rfl] at H
   replace H := Option.bind_eq_some_iff.mp H
   obtain ⟨t138,eJ,H⟩ := H
   try dsimp only at H
   have A6 := mkA eJ
   clear eJ
   by_cases c7 : t138 = true
   ·subst c7
    rw [if_pos rfl] at H
    by_cases c8 : (ad.length : Int) > 0
    ·rw [if_pos c8] at H
     have c8b0 : decide (0 < (ad.length : Int)) = true := decide_eq_true c8
     (try (have c8b1 : decide (0 < ad.length) = true := decide_eq_true (by omega)))
     (try (have c8b2 : (0 < ad.length) = True := eq_true (by omega)))
     have c8b3 : decide (0 < ad.length) = true := decide_eq_true (by omega);clear c8;replace H := Option.bind_eq_some_iff.mp H;obtain ⟨t139,b8,H⟩ := H
     try dsimp only at H
     have A9 := mkA b8;clear b8;obtain rfl := Option.some.inj H;simp only [Option.some.injEq,Prod.mk.injEq] at H;obtain ⟨rfl⟩ := H
     go_enter Try.func14,Try.ntmps14
     go_wp2_with (first | ((with_reducible refine gate_dst (N := 1) rfl ?_);(try (refine gate_guard (by rfl) ?_;dsimp only));refine box_event ?hg (N := 1) ?hd (cs := #[vi ag,vi ai,.slice a7 ad.length a8,vi aw,vi ax,vi ay,vi az,.slice aA aj.length aB,.slice aC ak.length aD,.slice aE al.length aF]) (t := 34) ?hr ?_;(case hd => rfl);(case hg => rfl);(case hr => first | (go_simp;done) | (go_simp;rfl));intro ae hg eR hbox hb;have ah := mkA (below_step Z4x0 hb);have an := mkA (hbox);have aG := mkA ((Z4x10 : w.heap.size ≤ ae));have aH := mkA ((Z4x10 : w.heap.size ≤ ae));clear HB;have HB := ah;have ab := an;have aP := aG;have aK := aH;clear ah an aG aH;clear hb hbox hg;obtain ⟨bM,bN,bO,bP,bQ,bR,bS,bT,bU,bV⟩ := cz10 ab.out;obtain ⟨bW,bX,bY,bZ,b_,ca,cb,cc,cd,cf⟩ := fz10 ab.out) | ((with_reducible refine gate_callee (f := 40) rfl ?_);refine goesL_ (some 5) rfl rfl Try.func40 (by kernel_rfl) rfl #[vi ag,vi 0,vi 4] rfl Z4x1 ?_;(with_reducible refine (impl_within.calls ag 0 4 true _ A2.out).mono ?_);rintro e w' ⟨rfl,⟨nd,rfl⟩⟩;refine ⟨_,rfl,?_⟩) | (go_at_call 40;(with_reducible refine (impl_within.calls ai 0 20 true _ A4.out).mono ?_);rintro e w' ⟨rfl,⟨nd,rfl⟩⟩) | (go_at_call 43;(with_reducible refine (impl_SetOk.calls k _ _ ad true _ ?ao ?aq A6.out).mono ?_);(case ao => exact Z4x9);(case aq => exact aY.out);rintro e eU ⟨rfl,hb⟩;have ah := mkA (blk_below (g := ae) (o := .cells #[vi ag,vi ai,.slice a7 ad.length a8,vi aw,vi ax,vi ay,vi az,.slice aA aj.length aB,.slice aC ak.length aD,.slice aE al.length aF] 34 (0,0)) Z4x8 hb);have an := mkA (below_step Z4x2 hb);clear ab;clear HB;have ab := ah;have HB := an;clear ah an;(try clear hb);(try clear b9);(try clear hk);(try clear hi);obtain ⟨cg,ch,cj,ck,cm,cn,cq,cr,ct,cu⟩ := cz10 ab.out;obtain ⟨cv,cw,cx,cy,cz,cA,cB,cC,cD,cE⟩ := fz10 ab.out) | (go_at_call 44;(with_reducible refine (impl_SketchOk.calls k aw ax ay az _ _ aj _ _ ak _ _ al t139 _ ?ao ?aq ?bA ?bB ?bC ?bD A9.out).mono ?_);(case ao => repeat (first | exact (Kd.C_below b2.out HB.out) | (with_reducible refine Kd.C_alloc ?_ _) | (with_reducible refine Kd.C_drewN ?_ _) | (with_reducible refine Kd.C_drew ?_)));(case aq => exact b3.out);(case bA => repeat (first | exact (Kd.C_below b4.out HB.out) | (with_reducible refine Kd.C_alloc ?_ _) | (with_reducible refine Kd.C_drewN ?_ _) | (with_reducible refine Kd.C_drew ?_)));(case bB => exact b5.out);(case bC => repeat (first | exact (Kd.C_below b6.out HB.out) | (with_reducible refine Kd.C_alloc ?_ _) | (with_reducible refine Kd.C_drewN ?_ _) | (with_reducible refine Kd.C_drew ?_)));(case bD => exact b7.out);rintro e eV ⟨rfl,hb⟩;have ah := mkA (blk_below (g := ae) (o := .cells #[vi ag,vi ai,.slice a7 ad.length a8,vi aw,vi ax,vi ay,vi az,.slice aA aj.length aB,.slice aC ak.length aD,.slice aE al.length aF] 34 (0,0)) Z4x8 hb);have an := mkA (below_step Z4x2 hb);clear ab;clear HB;have ab := ah;have HB := an;clear ah an;(try clear hb);(try clear b9);(try clear hk);(try clear hi)))
     go_ret
     exact ⟨Z4x7,Z4x2⟩
    ·rw [if_neg c8] at H
     have c8b0 : decide (0 < (ad.length : Int)) = false := decide_eq_false c8
     (try (have c8b1 : decide (0 < ad.length) = false := decide_eq_false (by omega)))
     (try (have c8b2 : (0 < ad.length) = False := eq_false (by omega)))
     have c8b3 : decide (0 < ad.length) = false := decide_eq_false (by omega);clear c8;obtain rfl := Option.some.inj H;simp only [Option.some.injEq,Prod.mk.injEq] at H;obtain ⟨rfl⟩ := H
     go_enter Try.func14,Try.ntmps14
     go_wp2_with (first | ((with_reducible refine gate_dst (N := 1) rfl ?_);(try (refine gate_guard (by rfl) ?_;dsimp only));refine box_event ?hg (N := 1) ?hd (cs := #[vi ag,vi ai,.slice a7 ad.length a8,vi aw,vi ax,vi ay,vi az,.slice aA aj.length aB,.slice aC ak.length aD,.slice aE al.length aF]) (t := 34) ?hr ?_;(case hd => rfl);(case hg => rfl);(case hr => first | (go_simp;done) | (go_simp;rfl));intro ae hg eW hbox hb;have ah := mkA (below_step Z4x0 hb);have an := mkA (hbox);have aG := mkA ((Z4x10 : w.heap.size ≤ ae));have aH := mkA ((Z4x10 : w.heap.size ≤ ae));clear HB;have HB := ah;have ab := an;have aP := aG;have aK := aH;clear ah an aG aH;clear hb hbox hg;obtain ⟨cF,cG,cH,cI,cJ,cK,cL,cM,cN,cO⟩ := cz10 ab.out;obtain ⟨cP,cQ,cR,cS,cT,cU,cV,cW,cX,cY⟩ := fz10 ab.out) | ((with_reducible refine gate_callee (f := 40) rfl ?_);refine goesL_ (some 5) rfl rfl Try.func40 (by kernel_rfl) rfl #[vi ag,vi 0,vi 4] rfl Z4x1 ?_;(with_reducible refine (impl_within.calls ag 0 4 true _ A2.out).mono ?_);rintro e w' ⟨rfl,⟨nd,rfl⟩⟩;refine ⟨_,rfl,?_⟩) | (go_at_call 40;(with_reducible refine (impl_within.calls ai 0 20 true _ A4.out).mono ?_);rintro e w' ⟨rfl,⟨nd,rfl⟩⟩) | (go_at_call 43;(with_reducible refine (impl_SetOk.calls k _ _ ad true _ ?ao ?aq A6.out).mono ?_);(case ao => exact Z4x9);(case aq => exact aY.out);rintro e eX ⟨rfl,hb⟩;have ah := mkA (blk_below (g := ae) (o := .cells #[vi ag,vi ai,.slice a7 ad.length a8,vi aw,vi ax,vi ay,vi az,.slice aA aj.length aB,.slice aC ak.length aD,.slice aE al.length aF] 34 (0,0)) Z4x8 hb);have an := mkA (below_step Z4x2 hb);clear ab;clear HB;have ab := ah;have HB := an;clear ah an;(try clear hb);(try clear b9);(try clear hk);(try clear hi);obtain ⟨cZ,c_,da,db,dc,dd,de,df,dg,dh⟩ := cz10 ab.out;obtain ⟨di,dj,dk,dm,dn,dp,dq,dr,dt,du⟩ := fz10 ab.out))
     go_ret
     exact ⟨Z4x7,Z4x2⟩
   ·replace c7 := Bool.eq_false_iff.mpr c7
    subst c7;rw [if_neg (show ¬ (false = true) by decide)] at H;obtain rfl := Option.some.inj H;simp only [Option.some.injEq,Prod.mk.injEq] at H;obtain ⟨rfl⟩ := H
    go_enter Try.func14,Try.ntmps14
    go_wp2_with (first | ((with_reducible refine gate_dst (N := 1) rfl ?_);(try (refine gate_guard (by rfl) ?_;dsimp only));refine box_event ?hg (N := 1) ?hd (cs := #[vi ag,vi ai,.slice a7 ad.length a8,vi aw,vi ax,vi ay,vi az,.slice aA aj.length aB,.slice aC ak.length aD,.slice aE al.length aF]) (t := 34) ?hr ?_;(case hd => rfl);(case hg => rfl);(case hr => first | (go_simp;done) | (go_simp;rfl));intro ae hg eY hbox hb;have ah := mkA (below_step Z4x0 hb);have an := mkA (hbox);have aG := mkA ((Z4x10 : w.heap.size ≤ ae));have aH := mkA ((Z4x10 : w.heap.size ≤ ae));clear HB;have HB := ah;have ab := an;have aP := aG;have aK := aH;clear ah an aG aH;clear hb hbox hg;obtain ⟨dv,dw,dx,dy,dz,dA,dB,dC,dD,dE⟩ := cz10 ab.out;obtain ⟨dF,dG,dH,dI,dJ,dK,dL,dM,dN,dO⟩ := fz10 ab.out) | ((with_reducible refine gate_callee (f := 40) rfl ?_);refine goesL_ (some 5) rfl rfl Try.func40 (by kernel_rfl) rfl #[vi ag,vi 0,vi 4] rfl Z4x1 ?_;(with_reducible refine (impl_within.calls ag 0 4 true _ A2.out).mono ?_);rintro e w' ⟨rfl,⟨nd,rfl⟩⟩;refine ⟨_,rfl,?_⟩) | (go_at_call 40;(with_reducible refine (impl_within.calls ai 0 20 true _ A4.out).mono ?_);rintro e w' ⟨rfl,⟨nd,rfl⟩⟩) | (go_at_call 43;(with_reducible refine (impl_SetOk.calls k _ _ ad false _ ?ao ?aq A6.out).mono ?_);(case ao => exact Z4x9);(case aq => exact aY.out);rintro e eZ ⟨rfl,hb⟩;have ah := mkA (blk_below (g := ae) (o := .cells #[vi ag,vi ai,.slice a7 ad.length a8,vi aw,vi ax,vi ay,vi az,.slice aA aj.length aB,.slice aC ak.length aD,.slice aE al.length aF] 34 (0,0)) Z4x8 hb);have an := mkA (below_step Z4x2 hb);clear ab;clear HB;have ab := ah;have HB := an;clear ah an;(try clear hb);(try clear b9);(try clear hk);(try clear hi)))
    go_ret
    exact ⟨Z4x7,Z4x2⟩
  ·replace c5 := Bool.eq_false_iff.mpr c5
   subst c5
   rw [if_neg (show ¬ (false = true) by decide)] at H
   obtain rfl := Option.some.inj H
   simp only [Option.some.injEq,Prod.mk.injEq] at H
   obtain ⟨rfl⟩ := H
   go_enter Try.func14,Try.ntmps14
   go_wp2_with (first | ((with_reducible refine gate_dst (N := 1) rfl ?_);(try (refine gate_guard (by rfl) ?_;dsimp only));refine box_event ?hg (N := 1) ?hd (cs := #[vi ag,vi ai,.slice a7 ad.length a8,vi aw,vi ax,vi ay,vi az,.slice aA aj.length aB,.slice aC ak.length aD,.slice aE al.length aF]) (t := 34) ?hr ?_;(case hd => rfl);(case hg => rfl);(case hr => first | (go_simp;done) | (go_simp;rfl));intro ae hg e_ hbox hb;have ah := mkA (below_step Z4x0 hb);have an := mkA (hbox);have aG := mkA ((Z4x10 : w.heap.size ≤ ae));have aH := mkA ((Z4x10 : w.heap.size ≤ ae));clear HB;have HB := ah;have ab := an;have aP := aG;have aK := aH;clear ah an aG aH;clear hb hbox hg;obtain ⟨dP,dQ,dR,dS,dT,dU,dV,dW,dX,dY⟩ := cz10 ab.out;obtain ⟨dZ,d_,ea,eb,ec,ed,ee,ef,eg,eh⟩ := fz10 ab.out) | ((with_reducible refine gate_callee (f := 40) rfl ?_);refine goesL_ (some 5) rfl rfl Try.func40 (by kernel_rfl) rfl #[vi ag,vi 0,vi 4] rfl Z4x1 ?_;(with_reducible refine (impl_within.calls ag 0 4 true _ A2.out).mono ?_);rintro e w' ⟨rfl,⟨nd,rfl⟩⟩;refine ⟨_,rfl,?_⟩) | (go_at_call 40;(with_reducible refine (impl_within.calls ai 0 20 false _ A4.out).mono ?_);rintro e w' ⟨rfl,⟨nd,rfl⟩⟩))
   go_ret
   exact ⟨Z4x7,Z4x2⟩
 ·replace c3 := Bool.eq_false_iff.mpr c3
  subst c3
  rw [if_neg (show ¬ (false = true) by decide)] at H
  obtain rfl := Option.some.inj H
  simp only [Option.some.injEq,Prod.mk.injEq] at H
  obtain ⟨rfl⟩ := H
  go_enter Try.func14,Try.ntmps14
  go_wp2_with (first | ((with_reducible refine gate_dst (N := 1) rfl ?_);(try (refine gate_guard (by rfl) ?_;dsimp only));refine box_event ?hg (N := 1) ?hd (cs := #[vi ag,vi ai,.slice a7 ad.length a8,vi aw,vi ax,vi ay,vi az,.slice aA aj.length aB,.slice aC ak.length aD,.slice aE al.length aF]) (t := 34) ?hr ?_;(case hd => rfl);(case hg => rfl);(case hr => first | (go_simp;done) | (go_simp;rfl));intro ae hg fa hbox hb;have ah := mkA (below_step Z4x0 hb);have an := mkA (hbox);have aG := mkA ((Z4x10 : w.heap.size ≤ ae));have aH := mkA ((Z4x10 : w.heap.size ≤ ae));clear HB;have HB := ah;have ab := an;have aP := aG;have aK := aH;clear ah an aG aH;clear hb hbox hg;obtain ⟨ei,ej,ek,en,eo,ep,er,et,eu,ev⟩ := cz10 ab.out;obtain ⟨ew,ey,ez,e0,e1,e2,e3,e7,e8,e9⟩ := fz10 ab.out) | ((with_reducible refine gate_callee (f := 40) rfl ?_);refine goesL_ (some 5) rfl rfl Try.func40 (by kernel_rfl) rfl #[vi ag,vi 0,vi 4] rfl Z4x1 ?_;(with_reducible refine (impl_within.calls ag 0 4 false _ A2.out).mono ?_);rintro e w' ⟨rfl,⟨nd,rfl⟩⟩;refine ⟨_,rfl,?_⟩))
  go_ret
  exact ⟨Z4x7,Z4x2⟩

def impl_SetSize.l0 : Nat → Int → List (S70) → Int → Int → Option (Int)
 | 0,_,_,_,_ => none
 | k + 1,x3,x9,eK,b0 => if b0 < eK then (if 0 ≤ b0 then (if b0 < (x9.length : Int) then (impl_SetSize.l0 k (wrap64 (x3 + (wrap64 ((wrap64 (((rd_T70 x9 b0).f1) - ((rd_T70 x9 b0).f0))) + 1)))) x9 eK (wrap64 (b0 + 1))) else (none)) else (none)) else (some x3)
def impl_SetSize.f (k : Nat) (l0 : List (S70)) : Option (Int) := (impl_SetOk.f k l0).bind fun t140 => (if t140 = true then (impl_SetSize.l0 k 0 l0 (l0.length : Int) 0) else (some 0))
theorem impl_SetSize.calls (k : Nat) (A0 : Option Addr) (c0 : Nat) (l0 : List (S70)) (r : Int) (w : World) (aI : Kd.C k70 w A0 l0.length l0) (bn : l0.length ≤ c0) (h : impl_SetSize.f k l0 = some r) :
  Calls Try.prog 16 #[.slice A0 l0.length c0] w fun e w' => e = .returned (vi r) ∧ Below w.heap.size w w' := by
 have eS := Try.underlying70
 have aQ := mkA aI
 have eA := mkA bn
 clear aI bn
 have HB := mkA (Below.refl w.heap.size w)
 have H := h
 unfold impl_SetSize.f at H
 clear h
 replace H := Option.bind_eq_some_iff.mp H
 obtain ⟨t140,bm,H⟩ := H
 try dsimp only at H
 have A2 := mkA bm
 clear bm
 by_cases c3 : t140 = true
 ·subst c3
  rw [if_pos rfl] at H
  have H' := mkA H
  clear H
  go_enter Try.func16,Try.ntmps16
  go_wp2_with (first | ((with_reducible refine gate_callee (f := 43) rfl ?_);refine goesL_ (some 7) rfl rfl Try.func43 (by kernel_rfl) rfl #[.slice A0 l0.length c0] rfl Z4x1 ?_;(with_reducible refine (impl_SetOk.calls k _ _ l0 true _ ?ao ?aq A2.out).mono ?_);(case ao => repeat (first | exact aQ.out | (with_reducible refine Kd.C_alloc ?_ _) | (with_reducible refine Kd.C_drewN ?_ _) | (with_reducible refine Kd.C_drew ?_)));(case aq => exact eA.out);rintro e w4 ⟨rfl,hb⟩;refine ⟨_,rfl,?_⟩;have ah := mkA (below_step Z4x0 hb);clear HB;have HB := ah;clear ah;(try clear hb);(try clear b9);(try clear hk);(try clear hi)))
  go_loopg [3,11] k (fun kq v3 v11 w' => ∃ (a6 : Int) (af : Int),v3 = vi a6 ∧ v11 = vi af ∧ Aside0 (impl_SetSize.l0 kq a6 l0 (l0.length : Int) af = some r) ∧ Aside0 (kq ≤ k) ∧ Aside0 (Below w.heap.size w w'))
  case atStart => exact ⟨(0),(0),Z4x3,Z4x3,H',⟨Nat.le_refl _⟩,⟨Z4x0⟩⟩
  case round =>
   clear H'
   try clear c1
   try clear p2
   try clear c3
   try clear c4
   obtain ⟨a6,af,rfl,rfl,HA,a_,HB⟩ := hrel
   cases gk with
   | zero => exact absurd HA.out (by simp [impl_SetSize.l0])
   | succ k1 =>
    have H := HA.out;clear HA;simp only [impl_SetSize.l0] at H
    by_cases c5 : af < (l0.length : Int)
    ·rw [if_pos c5] at H
     have c5b0 : decide (af < (l0.length : Int)) = true := decide_eq_true c5;clear c5
     by_cases c6 : 0 ≤ af
     ·rw [if_pos c6] at H
      have c6b0 : decide (0 ≤ af) = true := decide_eq_true c6;clear c6
      by_cases c7 : af < (l0.length : Int)
      ·rw [if_pos c7] at H
       have c7b0 : decide (af < (l0.length : Int)) = true := decide_eq_true c7;clear c7;have H' := mkA H;clear H;have bq : 0 ≤ (af : Int) := of_decide_eq_true Z4x5;have br : af < (l0.length : Int) := of_decide_eq_true Z4x5;obtain ⟨eL,eC,aR,aS⟩ := at_T70 aQ.out af bq br
       cases eC
       replace aR := czB HB.out aR;replace aS := czB HB.out aS;replace bq := eq_true bq;replace br := eq_true br
       go_wp2_with (first | ((with_reducible refine gate_dst (N := 5) rfl ?_);refine box_event ?hg (N := 5) ?hd (cs := #[vi 0,vi 0]) (t := 70) ?hr ?_;(case hd => rfl);(case hg => rfl);(case hr => first | (go_simp;done) | (go_simp;rfl));intro aT hg w8 hbox hb;have ah := mkA (below_step Z4x0 hb);have an := mkA (hbox);have aG := mkA ((Z4x10 : w.heap.size ≤ aT));have aH := mkA ((Z4x10 : w.heap.size ≤ aT));clear HB;have HB := ah;have aU := an;have eM := aG;have bE := aH;clear ah an aG aH;clear hb hbox hg;have eD : w8.cell? ⟨aT,0,none⟩ = some (vi 0) := (blk_cell aU.out 0).trans rfl;have eE : w8.cell? ⟨aT,1,none⟩ = some (vi 0) := (blk_cell aU.out 1).trans rfl;have eF := blk_frozen aU.out 0;have eG := blk_frozen aU.out 1))
       go_roundg k1
       case measure => have := a_.out;omega
       case rel => exact ⟨(wrap64 (a6 + (wrap64 ((wrap64 (((rd_T70 l0 af).f1) - ((rd_T70 l0 af).f0))) + 1)))),(wrap64 (af + 1)),Z4x3,Z4x3,H',⟨by have := a_.out;omega⟩,⟨by repeat (first | (with_reducible first | exact HB.out | apply below_alloc | apply pw_below_drewN | apply below_drew1 | refine below_set ?_ bE.out) | exact HB.out)⟩⟩
      ·rw [if_neg c7] at H
       exact absurd H (by simp)
     ·rw [if_neg c6] at H
      exact absurd H (by simp)
    ·rw [if_neg c5] at H
     have c5b0 : decide (af < (l0.length : Int)) = false := decide_eq_false c5;clear c5;obtain rfl := Option.some.inj H;simp only [Option.some.injEq,Prod.mk.injEq] at H;obtain ⟨rfl⟩ := H
     go_wp2
     go_ret
     exact ⟨Z4x7,Z4x0⟩
 ·replace c3 := Bool.eq_false_iff.mpr c3
  subst c3
  rw [if_neg (show ¬ (false = true) by decide)] at H
  obtain rfl := Option.some.inj H
  simp only [Option.some.injEq,Prod.mk.injEq] at H
  obtain ⟨rfl⟩ := H
  go_enter Try.func16,Try.ntmps16
  go_wp2_with (first | ((with_reducible refine gate_callee (f := 43) rfl ?_);refine goesL_ (some 7) rfl rfl Try.func43 (by kernel_rfl) rfl #[.slice A0 l0.length c0] rfl Z4x1 ?_;(with_reducible refine (impl_SetOk.calls k _ _ l0 false _ ?ao ?aq A2.out).mono ?_);(case ao => repeat (first | exact aQ.out | (with_reducible refine Kd.C_alloc ?_ _) | (with_reducible refine Kd.C_drewN ?_ _) | (with_reducible refine Kd.C_drew ?_)));(case aq => exact eA.out);rintro e eR ⟨rfl,hb⟩;refine ⟨_,rfl,?_⟩;have ah := mkA (below_step Z4x0 hb);clear HB;have HB := ah;clear ah;(try clear hb);(try clear b9);(try clear hk);(try clear hi)))
  go_ret
  exact ⟨Z4x7,Z4x0⟩

def IsS95 (w0 W : World) (g : Nat) (f0 : List Int) (f1 : Int) (f2 : Int) : Prop := ∃ A0 c0,W.heap[g]? = some (.cells #[.slice A0 f0.length c0,vi f1,vi f2] 95 (0,0)) ∧ w0.heap.size ≤ g ∧ Kd.C (Kd.int .u8) w0 A0 f0.length f0
theorem IsS95.grown {w0 W : World} {g : Nat} {f0 : List Int} {f1 : Int} {f2 : Int} {W1 : World} {row : Option Nat} (h : IsS95 w0 W g f0 f1 f2) (hw : W.grownBy W1 row) (hne : some g ≠ row) : IsS95 w0 W1 g f0 f1 f2 := by
 obtain ⟨A0,c0,hb,hg,aI⟩ := h
 exact ⟨A0,c0,blk_grown hb hw hne,hg,aI⟩
theorem IsS95.kept {w0 W : World} {g : Nat} {f0 : List Int} {f1 : Int} {f2 : Int} {W1 : World} {S : Nat → Prop} (h : IsS95 w0 W g f0 f1 f2) (hk : Kept W W1 S) (hne : ¬ S g) : IsS95 w0 W1 g f0 f1 f2 := by
 obtain ⟨A0,c0,hb,hg,aI⟩ := h
 exact ⟨A0,c0,blk_kept hb hk hne,hg,aI⟩
theorem IsS95.below {w0 W : World} {g : Nat} {f0 : List Int} {f1 : Int} {f2 : Int} {W1 : World} (h : IsS95 w0 W g f0 f1 f2) (hw : Below W.heap.size W W1) : IsS95 w0 W1 g f0 f1 f2 := h.grown (grown_of_below hw none) (by simp)
theorem IsS95.alloc {w0 W : World} {g : Nat} {f0 : List Int} {f1 : Int} {f2 : Int} (h : IsS95 w0 W g f0 f1 f2) (o : Obj) : IsS95 w0 (W.alloc o) g f0 f1 f2 := h.below (below_alloc (Below.refl _ _) o)
theorem IsS95.drewN {w0 W : World} {g : Nat} {f0 : List Int} {f1 : Int} {f2 : Int} (h : IsS95 w0 W g f0 f1 f2) (m : Nat) : IsS95 w0 (W.drewN m) g f0 f1 f2 := h
theorem IsS95.apart {w0 W : World} {g : Nat} {f0 : List Int} {f1 : Int} {f2 : Int} {α : Type} {d : Kd α} {e : Nat} {base : Nat} {ok : Nat → Prop} {v : Value} {xs : List α} (h : IsS95 w0 W g f0 f1 f2) (ho : d.R e W base ok v xs) (ht : ∀ q,q ∈ e :: d.E → q ≠ 95) : d.R e W base (fun k => ok k ∧ k ≠ g) v xs := by
 obtain ⟨A0,c0,hb,hg,aI⟩ := h
 exact Kd.R_types ho hb ht
theorem IsS95.own_ne {w0 W : World} {g : Nat} {f0 : List Int} {f1 : Int} {f2 : Int} {α : Type} {d : Kd α} {e : Nat} {base : Nat} {ok : Nat → Prop} {v : Value} {xs : List α} (h : IsS95 w0 W g f0 f1 f2) (ho : d.R e W base ok v xs) (ht : e ≠ 95) : some g ≠ v.ownBlock := by
 obtain ⟨A0,c0,hb,hg,aI⟩ := h
 exact Kd.R_ne ho hb ht
theorem IsS95.lt {w0 W : World} {g : Nat} {f0 : List Int} {f1 : Int} {f2 : Int} (h : IsS95 w0 W g f0 f1 f2) : g < W.heap.size := by
 obtain ⟨A0,c0,hb,hg,aI⟩ := h
 exact blk_lt hb
theorem IsS95.ge {w0 W : World} {g : Nat} {f0 : List Int} {f1 : Int} {f2 : Int} (h : IsS95 w0 W g f0 f1 f2) : w0.heap.size ≤ g := by
 obtain ⟨A0,c0,hb,hg,aI⟩ := h
 exact hg
theorem IsS95.far {w0 W : World} {g : Nat} {f0 : List Int} {f1 : Int} {f2 : Int} {p : Addr} (h : IsS95 w0 W g f0 f1 f2) (hne : g ≠ p.block) (u : Value) : IsS95 w0 (W.setCell p u) g f0 f1 f2 := by
 obtain ⟨A0,c0,hb,hg,aI⟩ := h
 exact ⟨A0,c0,blk_far hb hne u,hg,aI⟩
theorem cellS95_0 {W : World} {g : Nat} {A0 : Option Addr} {c0 : Nat} {f0 : List Int} {f1 : Int} {f2 : Int} (h : W.heap[g]? = some (.cells #[.slice A0 f0.length c0,vi f1,vi f2] 95 (0,0))) : W.cell? ⟨g,0,none⟩ = some (.slice A0 f0.length c0) := (blk_cell h 0).trans rfl
theorem cellS95_1 {W : World} {g : Nat} {A0 : Option Addr} {c0 : Nat} {f0 : List Int} {f1 : Int} {f2 : Int} (h : W.heap[g]? = some (.cells #[.slice A0 f0.length c0,vi f1,vi f2] 95 (0,0))) : W.cell? ⟨g,1,none⟩ = some (vi f1) := (blk_cell h 1).trans rfl
theorem IsS95.set_1 {w0 W : World} {g : Nat} {f0 : List Int} {f1 : Int} {f2 : Int} (h : IsS95 w0 W g f0 f1 f2) (x : Int) : IsS95 w0 (W.setCell ⟨g,1,none⟩ (vi x)) g f0 x f2 := by
 obtain ⟨A0,c0,hb,hg,aI⟩ := h
 exact ⟨A0,c0,by simpa using blk_set hb 1 (vi x),hg,aI⟩
theorem cellS95_2 {W : World} {g : Nat} {A0 : Option Addr} {c0 : Nat} {f0 : List Int} {f1 : Int} {f2 : Int} (h : W.heap[g]? = some (.cells #[.slice A0 f0.length c0,vi f1,vi f2] 95 (0,0))) : W.cell? ⟨g,2,none⟩ = some (vi f2) := (blk_cell h 2).trans rfl
theorem IsS95.set_2 {w0 W : World} {g : Nat} {f0 : List Int} {f1 : Int} {f2 : Int} (h : IsS95 w0 W g f0 f1 f2) (x : Int) : IsS95 w0 (W.setCell ⟨g,2,none⟩ (vi x)) g f0 f1 x := by
 obtain ⟨A0,c0,hb,hg,aI⟩ := h
 exact ⟨A0,c0,by simpa using blk_set hb 2 (vi x),hg,aI⟩
def spec_l1New.l0 : Nat → List Int → Int → Int → Option (List Int × Int × Int)
 | 0,_,_,_ => none
 | k + 1,x0,x3,x4 => if x4 < (x0.length : Int) then (if x4 < 4000 then (if 0 ≤ x4 then (spec_l1New.l0 k x0 (Go.bits .and .i64 (wrap64 ((wrap64 ((wrap64 (x3 * 131)) + (wrap64 (rd x0 x4)))) + 7)) 1073741823) (wrap64 (x4 + 1))) else (none)) else (some (x0,0,x3))) else (some (x0,0,x3))
def spec_l1New.f (k : Nat) (l0 : List Int) : Option (List Int × Int × Int) := spec_l1New.l0 k l0 (wrap64 (26583 + (l0.length : Int))) 0
theorem spec_l1New.calls (k : Nat) (A0 : Option Addr) (c0 : Nat) (l0 : List Int) (r1 : List Int) (r2 : Int) (r3 : Int) (w0 w : World) (hB : Below w0.heap.size w0 w) (aI : Kd.C (Kd.int .u8) w0 A0 l0.length l0) (bn : l0.length ≤ c0) (h : spec_l1New.f k l0 = some (r1,r2,r3)) :
  Calls Try.prog 33 #[.slice A0 l0.length c0] w fun e w' => ∃ g_ : Nat,e = .returned (.pointer (some ⟨g_,0,none⟩)) ∧ IsS95 w0 w' g_ r1 r2 r3 ∧ Below w0.heap.size w0 w' ∧ Below w.heap.size w w' := by
 have eT := Try.underlying95
 have aQ := mkA aI
 have eA := mkA bn
 clear aI bn
 have HBW := mkA (Below.refl w.heap.size w)
 have eN := mkA hB.size
 have HB := mkA hB
 clear hB
 have H := h
 unfold spec_l1New.f at H
 clear h
 have H' := mkA H
 clear H
 go_enter Try.func33,Try.ntmps33
 go_wp2
 go_loopg [3,4] k (fun kq v3 v4 w' => ∃ (a6 : Int) (ar : Int),v3 = vi a6 ∧ v4 = vi ar ∧ Aside0 (spec_l1New.l0 kq l0 a6 ar = some (r1,r2,r3)) ∧ Aside0 (kq ≤ k) ∧ Aside0 (Below w0.heap.size w0 w') ∧ Aside0 (Below w.heap.size w w'))
 case atStart => exact ⟨(wrap64 (26583 + (l0.length : Int))),(0),Z4x3,Z4x3,H',⟨Nat.le_refl _⟩,⟨Z4x0⟩,⟨Z4x6⟩⟩
 case round =>
  clear H'
  obtain ⟨a6,ar,rfl,rfl,HA,a_,HB,HBW⟩ := hrel
  cases gk with
  | zero => exact absurd HA.out (by simp [spec_l1New.l0])
  | succ k1 =>
   have H := HA.out
   clear HA
   simp only [spec_l1New.l0] at H
   by_cases c2 : ar < (l0.length : Int)
   ·rw [if_pos c2] at H
    have c2b0 : decide (ar < (l0.length : Int)) = true := decide_eq_true c2;clear c2
    by_cases c3 : ar < 4000
    ·rw [if_pos c3] at H
     have c3b0 : decide (ar < 4000) = true := decide_eq_true c3;clear c3
     by_cases c4 : 0 ≤ ar
     ·rw [if_pos c4] at H
      have c4b0 : decide (0 ≤ ar) = true := decide_eq_true c4;clear c4;have H' := mkA H;clear H;have bs : 0 ≤ (ar : Int) := of_decide_eq_true Z4x5;have bu : ar < (l0.length : Int) := of_decide_eq_true Z4x5;obtain ⟨eO,eH,aV⟩ := Kd.at_int aQ.out ar bs bu
      cases eH
      replace aV := pw_cell_below HB.out aV;replace bs := eq_true bs;replace bu := eq_true bu
      go_wp2
      go_roundg k1
      case measure => have := a_.out;omega
      case rel => exact ⟨(Go.bits .and .i64 (wrap64 ((wrap64 ((wrap64 (a6 * 131)) + (wrap64 (rd l0 ar)))) + 7)) 1073741823),(wrap64 (ar + 1)),Z4x3,Z4x3,H',⟨by have := a_.out;omega⟩,⟨Z4x0⟩,⟨Z4x6⟩⟩
     ·rw [if_neg c4] at H
      exact absurd H (by simp)
    ·rw [if_neg c3] at H
     have c3b0 : decide (ar < 4000) = false := decide_eq_false c3;clear c3;simp only [Option.some.injEq,Prod.mk.injEq] at H;obtain ⟨rfl,rfl,rfl⟩ := H
     go_wp2_with (first | ((with_reducible refine gate_dst (N := 31) rfl ?_);refine box_event ?hg (N := 31) ?hd (cs := #[.slice A0 l0.length c0,vi 0,vi a6]) (t := 95) ?hr ?_;(case hd => rfl);(case hg => rfl);(case hr => first | (go_simp;done) | (go_simp;rfl));intro aW hg w5 hbox hb;have ah := mkA (below_step HBW.out hb);have an := mkA (below_step Z4x0 hb);have aG := mkA (hbox);have aH := mkA ((by rw [hg];exact (below_size Z4x6) : w.heap.size ≤ aW));have bF := mkA ((Nat.le_trans eN.out (by rw [hg];exact (below_size Z4x6) : w.heap.size ≤ aW) : w0.heap.size ≤ aW));clear HBW;clear HB;have HBW := ah;have HB := an;have bG := aG;have bH := aH;have bo := bF;clear ah an aG aH bF;clear hb hbox hg))
     go_ret
     exact ⟨_,rfl,(show IsS95 w0 _ aW l0 0 a6 from ⟨_,_,by (with_reducible repeat (first | refine blk_drewN ?_ _ | refine blk_drew ?_ | refine blk_alloc ?_ _));exact bG.out,bo.out,aQ.out⟩),by repeat (first | (with_reducible first | exact HB.out | apply below_alloc | apply pw_below_drewN | apply below_drew1 | refine below_set ?_ bo.out) | exact HB.out),by repeat (first | (with_reducible first | exact HBW.out | apply below_alloc | apply pw_below_drewN | apply below_drew1 | refine below_set ?_ bH.out) | exact HBW.out)⟩
   ·rw [if_neg c2] at H
    have c2b0 : decide (ar < (l0.length : Int)) = false := decide_eq_false c2;clear c2;simp only [Option.some.injEq,Prod.mk.injEq] at H;obtain ⟨rfl,rfl,rfl⟩ := H
    go_wp2_with (first | ((with_reducible refine gate_dst (N := 31) rfl ?_);refine box_event ?hg (N := 31) ?hd (cs := #[.slice A0 l0.length c0,vi 0,vi a6]) (t := 95) ?hr ?_;(case hd => rfl);(case hg => rfl);(case hr => first | (go_simp;done) | (go_simp;rfl));intro aX hg w6 hbox hb;have ah := mkA (below_step HBW.out hb);have an := mkA (below_step Z4x0 hb);have aG := mkA (hbox);have aH := mkA ((by rw [hg];exact (below_size Z4x6) : w.heap.size ≤ aX));have bF := mkA ((Nat.le_trans eN.out (by rw [hg];exact (below_size Z4x6) : w.heap.size ≤ aX) : w0.heap.size ≤ aX));clear HBW;clear HB;have HBW := ah;have HB := an;have bI := aG;have bJ := aH;have bp := bF;clear ah an aG aH bF;clear hb hbox hg))
    go_ret
    exact ⟨_,rfl,(show IsS95 w0 _ aX l0 0 a6 from ⟨_,_,by (with_reducible repeat (first | refine blk_drewN ?_ _ | refine blk_drew ?_ | refine blk_alloc ?_ _));exact bI.out,bp.out,aQ.out⟩),by repeat (first | (with_reducible first | exact HB.out | apply below_alloc | apply pw_below_drewN | apply below_drew1 | refine below_set ?_ bp.out) | exact HB.out),by repeat (first | (with_reducible first | exact HBW.out | apply below_alloc | apply pw_below_drewN | apply below_drew1 | refine below_set ?_ bJ.out) | exact HBW.out)⟩

def spec_l1In.f (a0 : Int) (a1 : Int) (a2 : Int) : Option (Bool) := if a0 ≥ a1 then (some (decide (a0 ≤ a2))) else (some false)
theorem spec_l1In.calls (a0 : Int) (a1 : Int) (a2 : Int) (r : Bool) (w : World) (h : spec_l1In.f a0 a1 a2 = some r) :
  Calls Try.prog 42 #[vi a0,vi a1,vi a2] w fun e w' => e = .returned (.bool r) ∧ Drawn0 w w' := by
 have H : (if a0 ≥ a1 then (some (decide (a0 ≤ a2))) else (some false)) = some r := h
 clear h
 by_cases c4 : a0 ≥ a1
 ·rw [if_pos c4] at H
  have c4b0 : decide (a1 ≤ a0) = true := decide_eq_true c4
  clear c4
  obtain rfl := Option.some.inj H
  simp only [Option.some.injEq,Prod.mk.injEq] at H
  obtain ⟨rfl⟩ := H
  go_enter Try.func42,Try.ntmps42
  go_wp2
  go_ret
  exact ⟨Z4x3,Z4x4⟩
 ·rw [if_neg c4] at H
  have c4b0 : decide (a1 ≤ a0) = false := decide_eq_false c4
  clear c4
  obtain rfl := Option.some.inj H
  simp only [Option.some.injEq,Prod.mk.injEq] at H
  obtain ⟨rfl⟩ := H
  go_enter Try.func42,Try.ntmps42
  go_wp2
  go_ret
  exact ⟨Z4x3,Z4x4⟩

def spec_l6Agent.f (a0 : Int) : Option (Bool) := (spec_l1In.f a0 0 2).bind fun t146 => (some t146)
theorem spec_l6Agent.calls (a0 : Int) (r : Bool) (w : World) (h : spec_l6Agent.f a0 = some r) :
  Calls Try.prog 41 #[vi a0] w fun e w' => e = .returned (.bool r) ∧ Drawn0 w w' := by
 have H : ((spec_l1In.f a0 0 2).bind fun t146 => (some t146)) = some r := h
 clear h
 replace H := Option.bind_eq_some_iff.mp H
 obtain ⟨t146,bm,H⟩ := H
 try dsimp only at H
 have A2 := mkA bm
 clear bm
 obtain rfl := Option.some.inj H
 simp only [Option.some.injEq,Prod.mk.injEq] at H
 obtain ⟨rfl⟩ := H
 go_enter Try.func41,Try.ntmps41
 go_wp2_with (first | ((with_reducible refine gate_callee (f := 42) rfl ?_);refine goesL_ (some 4) rfl rfl Try.func42 (by kernel_rfl) rfl #[vi a0,vi 0,vi 2] rfl Z4x1 ?_;(with_reducible refine (spec_l1In.calls a0 0 2 t146 _ A2.out).mono ?_);rintro e w' ⟨rfl,⟨nd,rfl⟩⟩;refine ⟨_,rfl,?_⟩))
 go_ret
 exact ⟨Z4x3,Z4x4⟩

def spec_IdOf.f (a0 : Int) (a1 : Int) : Option (Int) := (spec_l6Agent.f a0).bind fun t147 => (if t147 = true then ((spec_l1In.f a1 1 60).bind fun t148 => (if t148 = true then (some (wrap64 ((wrap64 (100 * a0)) + a1))) else (some (-1)))) else (some (-1)))
theorem spec_IdOf.calls (a0 : Int) (a1 : Int) (r : Int) (w : World) (h : spec_IdOf.f a0 a1 = some r) :
  Calls Try.prog 13 #[vi a0,vi a1] w fun e w' => e = .returned (vi r) ∧ Drawn0 w w' := by
 have H := h
 unfold spec_IdOf.f at H
 clear h
 replace H := Option.bind_eq_some_iff.mp H
 obtain ⟨t147,bK,H⟩ := H
 try dsimp only at H
 have A3 := mkA bK
 clear bK
 by_cases c4 : t147 = true
 ·subst c4
  rw [if_pos rfl] at H
  replace H := Option.bind_eq_some_iff.mp H
  obtain ⟨t148,bL,H⟩ := H
  try dsimp only at H
  have A5 := mkA bL
  clear bL
  by_cases c6 : t148 = true
  ·subst c6
   rw [if_pos rfl] at H
   obtain rfl := Option.some.inj H
   simp only [Option.some.injEq,Prod.mk.injEq] at H
   obtain ⟨rfl⟩ := H
   go_enter Try.func13,Try.ntmps13
   go_wp2_with (first | ((with_reducible refine gate_callee (f := 41) rfl ?_);refine goesL_ (some 6) rfl rfl Try.func41 (by kernel_rfl) rfl #[vi a0] rfl Z4x1 ?_;(with_reducible refine (spec_l6Agent.calls a0 true _ A3.out).mono ?_);rintro e w' ⟨rfl,⟨nd,rfl⟩⟩;refine ⟨_,rfl,?_⟩) | (go_at_call 42;(with_reducible refine (spec_l1In.calls a1 1 60 true _ A5.out).mono ?_);rintro e w' ⟨rfl,⟨nd,rfl⟩⟩))
   go_ret
   exact ⟨Z4x3,Z4x4⟩
  ·replace c6 := Bool.eq_false_iff.mpr c6
   subst c6
   rw [if_neg (show ¬ (false = true) by decide)] at H
   obtain rfl := Option.some.inj H
   simp only [Option.some.injEq,Prod.mk.injEq] at H
   obtain ⟨rfl⟩ := H
   go_enter Try.func13,Try.ntmps13
   go_wp2_with (first | ((with_reducible refine gate_callee (f := 41) rfl ?_);refine goesL_ (some 6) rfl rfl Try.func41 (by kernel_rfl) rfl #[vi a0] rfl Z4x1 ?_;(with_reducible refine (spec_l6Agent.calls a0 true _ A3.out).mono ?_);rintro e w' ⟨rfl,⟨nd,rfl⟩⟩;refine ⟨_,rfl,?_⟩) | (go_at_call 42;(with_reducible refine (spec_l1In.calls a1 1 60 false _ A5.out).mono ?_);rintro e w' ⟨rfl,⟨nd,rfl⟩⟩))
   go_ret
   exact ⟨Z4x3,Z4x4⟩
 ·replace c4 := Bool.eq_false_iff.mpr c4
  subst c4
  rw [if_neg (show ¬ (false = true) by decide)] at H
  obtain rfl := Option.some.inj H
  simp only [Option.some.injEq,Prod.mk.injEq] at H
  obtain ⟨rfl⟩ := H
  go_enter Try.func13,Try.ntmps13
  go_wp2_with (first | ((with_reducible refine gate_callee (f := 41) rfl ?_);refine goesL_ (some 6) rfl rfl Try.func41 (by kernel_rfl) rfl #[vi a0] rfl Z4x1 ?_;(with_reducible refine (spec_l6Agent.calls a0 false _ A3.out).mono ?_);rintro e w' ⟨rfl,⟨nd,rfl⟩⟩;refine ⟨_,rfl,?_⟩))
  go_ret
  exact ⟨Z4x3,Z4x4⟩

def spec_l6Place.f (a0 : Int) (a1 : Int) : Option (Bool) := (spec_l1In.f a0 0 4).bind fun t149 => (if t149 = true then ((spec_l1In.f a1 0 20).bind fun t150 => (some t150)) else (some false))
theorem spec_l6Place.calls (a0 : Int) (a1 : Int) (r : Bool) (w : World) (h : spec_l6Place.f a0 a1 = some r) :
  Calls Try.prog 72 #[vi a0,vi a1] w fun e w' => e = .returned (.bool r) ∧ Drawn0 w w' := by
 have H := h
 unfold spec_l6Place.f at H
 clear h
 replace H := Option.bind_eq_some_iff.mp H
 obtain ⟨t149,bK,H⟩ := H
 try dsimp only at H
 have A3 := mkA bK
 clear bK
 by_cases c4 : t149 = true
 ·subst c4
  rw [if_pos rfl] at H
  replace H := Option.bind_eq_some_iff.mp H
  obtain ⟨t150,bL,H⟩ := H
  try dsimp only at H
  have A5 := mkA bL
  clear bL
  obtain rfl := Option.some.inj H
  simp only [Option.some.injEq,Prod.mk.injEq] at H
  obtain ⟨rfl⟩ := H
  go_enter Try.func72,Try.ntmps72
  go_wp2_with (first | ((with_reducible refine gate_callee (f := 42) rfl ?_);refine goesL_ (some 6) rfl rfl Try.func42 (by kernel_rfl) rfl #[vi a0,vi 0,vi 4] rfl Z4x1 ?_;(with_reducible refine (spec_l1In.calls a0 0 4 true _ A3.out).mono ?_);rintro e w' ⟨rfl,⟨nd,rfl⟩⟩;refine ⟨_,rfl,?_⟩) | (go_at_call 42;(with_reducible refine (spec_l1In.calls a1 0 20 t150 _ A5.out).mono ?_);rintro e w' ⟨rfl,⟨nd,rfl⟩⟩))
  go_ret
  exact ⟨Z4x3,Z4x4⟩
 ·replace c4 := Bool.eq_false_iff.mpr c4
  subst c4
  rw [if_neg (show ¬ (false = true) by decide)] at H
  obtain rfl := Option.some.inj H
  simp only [Option.some.injEq,Prod.mk.injEq] at H
  obtain ⟨rfl⟩ := H
  go_enter Try.func72,Try.ntmps72
  go_wp2_with (first | ((with_reducible refine gate_callee (f := 42) rfl ?_);refine goesL_ (some 6) rfl rfl Try.func42 (by kernel_rfl) rfl #[vi a0,vi 0,vi 4] rfl Z4x1 ?_;(with_reducible refine (spec_l1In.calls a0 0 4 false _ A3.out).mono ?_);rintro e w' ⟨rfl,⟨nd,rfl⟩⟩;refine ⟨_,rfl,?_⟩))
  go_ret
  exact ⟨Z4x3,Z4x4⟩

def spec_l3List.l0 : Nat → List Int → Int → Int → Bool → Int → Option (Bool)
 | 0,_,_,_,_,_ => none
 | k + 1,x0,x1,x2,x3,x9 => if x9 < x1 then (if 0 ≤ x9 then (if x9 < (x0.length : Int) then ((spec_l1In.f (rd x0 x9) 0 x2).bind fun t152 => (if t152 = true then (if x3 = true then (if (rd x0 x9) = 0 then (spec_l3List.l0 k x0 x1 x2 x3 (wrap64 (x9 + 1))) else (some false)) else (spec_l3List.l0 k x0 x1 x2 x3 (wrap64 (x9 + 1)))) else (some false))) else (none)) else (none)) else (some true)
def spec_l3List.f (k : Nat) (l0 : List Int) (a1 : Int) (a2 : Int) (a3 : Bool) : Option (Bool) := if (l0.length : Int) = a1 then (spec_l3List.l0 k l0 a1 a2 a3 0) else (some false)
theorem spec_l3List.calls (k : Nat) (A0 : Option Addr) (c0 : Nat) (l0 : List Int) (a1 : Int) (a2 : Int) (a3 : Bool) (r : Bool) (w : World) (aI : Kd.C (Kd.int .i64) w A0 l0.length l0) (bn : l0.length ≤ c0) (h : spec_l3List.f k l0 a1 a2 a3 = some r) :
  Calls Try.prog 99 #[.slice A0 l0.length c0,vi a1,vi a2,.bool a3] w fun e w' => e = .returned (.bool r) ∧ Drawn0 w w' := by
 have aQ := mkA aI
 have eA := mkA bn
 clear aI bn
 have H := h
 unfold spec_l3List.f at H
 clear h
 by_cases c5 : (l0.length : Int) = a1
 ·rw [if_pos c5] at H
  have c5b0 : ((l0.length : Int) == a1) = true := beq_iff_eq.mpr c5
  have c5b1 : ((l0.length : Int) != a1) = false := bne_eq_false_iff_eq.mpr c5
  clear c5
  have H' := mkA H
  clear H
  go_enter Try.func99,Try.ntmps99
  go_wp2
  go_loopg [9] k (fun kq v9 w' => ∃ (aa : Int),v9 = vi aa ∧ Aside0 (spec_l3List.l0 kq l0 a1 a2 a3 aa = some r) ∧ Aside0 (kq ≤ k) ∧ Drawn0 w w')
  case atStart => exact ⟨(0),Z4x3,H',⟨Nat.le_refl _⟩,Z4x4⟩
  case round =>
   clear H'
   try clear p2
   try clear c5
   try clear c5b0
   try clear c5b1
   obtain ⟨aa,rfl,HA,a_,⟨m1,rfl⟩⟩ := hrel
   cases gk with
   | zero => exact absurd HA.out (by simp [spec_l3List.l0])
   | succ k1 =>
    have H := HA.out;clear HA;simp only [spec_l3List.l0] at H
    by_cases c6 : aa < a1
    ·rw [if_pos c6] at H
     have c6b0 : decide (aa < a1) = true := decide_eq_true c6;clear c6
     by_cases c7 : 0 ≤ aa
     ·rw [if_pos c7] at H
      have c7b0 : decide (0 ≤ aa) = true := decide_eq_true c7;clear c7
      by_cases c8 : aa < (l0.length : Int)
      ·rw [if_pos c8] at H
       have c8b0 : decide (aa < (l0.length : Int)) = true := decide_eq_true c8;clear c8;replace H := Option.bind_eq_some_iff.mp H;obtain ⟨t152,b8,H⟩ := H
       try dsimp only at H
       have A9 := mkA b8;clear b8
       by_cases c10 : t152 = true
       ·subst c10
        rw [if_pos rfl] at H
        by_cases eB : a3 = true
        ·subst eB
         rw [if_pos rfl] at H
         by_cases bw : (rd l0 aa) = 0
         ·rw [if_pos bw] at H
          have c12b0 : ((rd l0 aa) == 0) = true := beq_iff_eq.mpr bw;have c12b1 : ((rd l0 aa) != 0) = false := bne_eq_false_iff_eq.mpr bw;clear bw;have H' := mkA H;clear H;have au : 0 ≤ (aa : Int) := of_decide_eq_true Z4x5;have av : aa < (l0.length : Int) := of_decide_eq_true Z4x5;obtain ⟨aL,aM,aJ⟩ := Kd.at_int aQ.out aa au av
          cases aM
          replace au := eq_true au;replace av := eq_true av
          go_wp2_with (first | ((with_reducible refine gate_callee (f := 42) rfl ?_);refine goesL_ (some 24) rfl rfl Try.func42 (by kernel_rfl) rfl #[vi (rd l0 aa),vi 0,vi a2] rfl Z4x1 ?_;(with_reducible refine (spec_l1In.calls (rd l0 aa) 0 a2 true _ A9.out).mono ?_);rintro e w' ⟨rfl,⟨nd,rfl⟩⟩;refine ⟨_,rfl,?_⟩;have aN : 0 ≤ (aa : Int) := of_decide_eq_true Z4x5;have aO : aa < (l0.length : Int) := of_decide_eq_true Z4x5;obtain ⟨aZ,bz,ba⟩ := Kd.at_int aQ.out aa aN aO;obtain rfl : aL = aZ := (by injection bz);replace aN := eq_true aN;replace aO := eq_true aO))
          go_roundg k1
          case measure => have := a_.out;omega
          case rel => exact ⟨(wrap64 (aa + 1)),Z4x3,H',⟨by have := a_.out;omega⟩,Z4x4⟩
         ·rw [if_neg bw] at H
          have c12b0 : ((rd l0 aa) == 0) = false := beq_eq_false_iff_ne.mpr bw;have c12b1 : ((rd l0 aa) != 0) = true := bne_iff_ne.mpr bw;obtain rfl := Option.some.inj H;simp only [Option.some.injEq,Prod.mk.injEq] at H;obtain ⟨rfl⟩ := H;have au : 0 ≤ (aa : Int) := of_decide_eq_true Z4x5;have av : aa < (l0.length : Int) := of_decide_eq_true Z4x5;obtain ⟨aL,aM,aJ⟩ := Kd.at_int aQ.out aa au av
          cases aM
          replace au := eq_true au;replace av := eq_true av
          go_wp2_with (first | ((with_reducible refine gate_callee (f := 42) rfl ?_);refine goesL_ (some 24) rfl rfl Try.func42 (by kernel_rfl) rfl #[vi (rd l0 aa),vi 0,vi a2] rfl Z4x1 ?_;(with_reducible refine (spec_l1In.calls (rd l0 aa) 0 a2 true _ A9.out).mono ?_);rintro e w' ⟨rfl,⟨nd,rfl⟩⟩;refine ⟨_,rfl,?_⟩;have aN : 0 ≤ (aa : Int) := of_decide_eq_true Z4x5;have aO : aa < (l0.length : Int) := of_decide_eq_true Z4x5;obtain ⟨aZ,bz,ba⟩ := Kd.at_int aQ.out aa aN aO;obtain rfl : aL = aZ := (by injection bz);replace aN := eq_true aN;replace aO := eq_true aO))
          go_ret
          exact ⟨Z4x3,Z4x4⟩
        ·replace eB := Bool.eq_false_iff.mpr eB
         subst eB;rw [if_neg (show ¬ (false = true) by decide)] at H;have H' := mkA H;clear H;have au : 0 ≤ (aa : Int) := of_decide_eq_true Z4x5;have av : aa < (l0.length : Int) := of_decide_eq_true Z4x5;obtain ⟨aL,aM,aJ⟩ := Kd.at_int aQ.out aa au av
         cases aM
         replace au := eq_true au;replace av := eq_true av
         go_wp2_with (first | ((with_reducible refine gate_callee (f := 42) rfl ?_);refine goesL_ (some 24) rfl rfl Try.func42 (by kernel_rfl) rfl #[vi (rd l0 aa),vi 0,vi a2] rfl Z4x1 ?_;(with_reducible refine (spec_l1In.calls (rd l0 aa) 0 a2 true _ A9.out).mono ?_);rintro e w' ⟨rfl,⟨nd,rfl⟩⟩;refine ⟨_,rfl,?_⟩))
         go_roundg k1
         case measure => have := a_.out;omega
         case rel => exact ⟨(wrap64 (aa + 1)),Z4x3,H',⟨by have := a_.out;omega⟩,Z4x4⟩
       ·replace c10 := Bool.eq_false_iff.mpr c10
        subst c10;rw [if_neg (show ¬ (false = true) by decide)] at H;obtain rfl := Option.some.inj H;simp only [Option.some.injEq,Prod.mk.injEq] at H;obtain ⟨rfl⟩ := H;have au : 0 ≤ (aa : Int) := of_decide_eq_true Z4x5;have av : aa < (l0.length : Int) := of_decide_eq_true Z4x5;obtain ⟨aL,aM,aJ⟩ := Kd.at_int aQ.out aa au av
        cases aM
        replace au := eq_true au;replace av := eq_true av
        go_wp2_with (first | ((with_reducible refine gate_callee (f := 42) rfl ?_);refine goesL_ (some 24) rfl rfl Try.func42 (by kernel_rfl) rfl #[vi (rd l0 aa),vi 0,vi a2] rfl Z4x1 ?_;(with_reducible refine (spec_l1In.calls (rd l0 aa) 0 a2 false _ A9.out).mono ?_);rintro e w' ⟨rfl,⟨nd,rfl⟩⟩;refine ⟨_,rfl,?_⟩))
        go_ret
        exact ⟨Z4x3,Z4x4⟩
      ·rw [if_neg c8] at H
       exact absurd H (by simp)
     ·rw [if_neg c7] at H
      exact absurd H (by simp)
    ·rw [if_neg c6] at H
     have c6b0 : decide (aa < a1) = false := decide_eq_false c6;clear c6;obtain rfl := Option.some.inj H;simp only [Option.some.injEq,Prod.mk.injEq] at H;obtain ⟨rfl⟩ := H
     go_wp2
     go_ret
     exact ⟨Z4x3,Z4x4⟩
 ·rw [if_neg c5] at H
  have c5b0 : ((l0.length : Int) == a1) = false := beq_eq_false_iff_ne.mpr c5
  have c5b1 : ((l0.length : Int) != a1) = true := bne_iff_ne.mpr c5
  obtain rfl := Option.some.inj H
  simp only [Option.some.injEq,Prod.mk.injEq] at H
  obtain ⟨rfl⟩ := H
  go_enter Try.func99,Try.ntmps99
  go_wp2
  go_ret
  exact ⟨Z4x3,Z4x4⟩

end Go.Proofs.Ytdciagkholijlaa.PFnEntries
