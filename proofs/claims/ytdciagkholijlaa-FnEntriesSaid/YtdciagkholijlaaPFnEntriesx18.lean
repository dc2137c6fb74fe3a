-- Written by this session's changed copy of the kit's printer (wip/patch_print.py): not the kit's own print.
import Derived.Test.YtdciagkholijlaaPFnEntriesx0
import Derived.Test.YtdciagkholijlaaPFnEntriesx1
import Derived.Test.YtdciagkholijlaaPFnEntriesx2
import Derived.Test.YtdciagkholijlaaPFnEntriesx4
import Derived.Test.YtdciagkholijlaaPFnEntriesx17
namespace Go.Proofs.Ytdciagkholijlaa.PFnEntries
open Go.RowKit Go.Proofs.YtdciagkholijlaaW.PrintWords Go.Proofs.YtdciagkholijlaaW.PrintLast Go.Proofs.YtdciagkholijlaaW.PrintMore
attribute [local go_sem] max2_int min2_int max_two min_two max_three min_three max_four min_four   -- for this text's walks alone
set_option linter.unusedVariables false
set_option linter.unusedSimpArgs false
set_option maxHeartbeats 8000000
set_option maxRecDepth 100000
theorem Z18x0 {p : Prop} (h : p := by repeat (first | (with_reducible first | exact HB.out | apply below_alloc | apply pw_below_drewN | apply below_drew1) | exact HB.out)) : p := h
theorem Z18x1 {p : Prop} (h : p := by repeat (first | (with_reducible first | exact HB.out | apply below_alloc | apply pw_below_drewN | apply below_drew1 | refine below_set ?_ aY.out | refine below_set ?_ b7.out) | exact HB.out)) : p := h
theorem Z18x2 {p : Prop} (h : p := by repeat (first | (with_reducible first | exact HB.out | apply below_alloc | apply pw_below_drewN | apply below_drew1 | refine below_set ?_ aY.out) | exact HB.out)) : p := h
theorem Z18x3 {p : Prop} (h : p := by (with_reducible repeat (first | refine blk_drewN ?_ _ | refine blk_drew ?_ | refine blk_alloc ?_ _));exact ao.out) : p := h
theorem Z18x4 {p : Prop} (h : p := by repeat (first | (with_reducible first | exact HB.out | apply below_alloc | apply pw_below_drewN | apply below_drew1 | refine below_set ?_ bN.out) | exact HB.out)) : p := h
theorem Z18x5 {p : Prop} (h : p := by rw [hg];exact Nat.ne_of_lt (blk_lt (g := ag) (o := .cells #[vi ah,vi ai,.slice a8 ab.length aA,vi aj,vi ak,vi al,vi an,.slice aw ad.length ax,.slice ay ae.length az,.slice a1 af.length a6] 34 (0,0)) Z18x3)) : p := h
theorem Z18x6 {p : Prop} (h : p := by rw [hg];exact Nat.ne_of_gt (blk_lt (g := ag) (o := .cells #[vi ah,vi ai,.slice a8 ab.length aA,vi aj,vi ak,vi al,vi an,.slice aw ad.length ax,.slice ay ae.length az,.slice a1 af.length a6] 34 (0,0)) Z18x3)) : p := h
theorem Z18x7 {p : Prop} (h : p := by (with_reducible repeat (first | refine blk_drewN ?_ _ | refine blk_drew ?_ | refine blk_alloc ?_ _));exact a7.out) : p := h
theorem Z18x8 {p : Prop} (h : p := by repeat (first | exact (Kd.C_below bO.out HB.out) | (with_reducible refine Kd.C_alloc ?_ _) | (with_reducible refine Kd.C_drewN ?_ _) | (with_reducible refine Kd.C_drew ?_))) : p := h
theorem Z18x9 {p : Prop} (h : p := by first | (with_reducible assumption) | assumption) : p := h
theorem Z18x10 {p : Prop} (h : p := by first | rfl | (simp [errW_none,errW_some] <;> rfl) | (simp [*,errW_none,errW_some] <;> rfl)) : p := h
theorem Z18x11 {p : Prop} (h : p := by first | rfl | (simp;done) | (simp [*];done)) : p := h
theorem Z18x12 {p : Prop} (h : p := by repeat (first | exact (Kd.C_below b8.out HB.out) | (with_reducible refine Kd.C_alloc ?_ _) | (with_reducible refine Kd.C_drewN ?_ _) | (with_reducible refine Kd.C_drew ?_))) : p := h
theorem Z18x13 {p : Prop} (h : p := by repeat (first | exact (Kd.C_below b9.out HB.out) | (with_reducible refine Kd.C_alloc ?_ _) | (with_reducible refine Kd.C_drewN ?_ _) | (with_reducible refine Kd.C_drew ?_))) : p := h
theorem Z18x14 {p : Prop} (h : p := by repeat (first | exact (Kd.C_below bA.out HB.out) | (with_reducible refine Kd.C_alloc ?_ _) | (with_reducible refine Kd.C_drewN ?_ _) | (with_reducible refine Kd.C_drew ?_))) : p := h
theorem Z18x15 {p : Prop} (h : p := by rw [hg];exact (below_size Z18x0)) : p := h
theorem Z18x16 {p : Prop} (h : p := by (try simp only [List.map_toArray,List.map_cons,List.map_nil]);first | done | rfl | (simp only [List.length_drop,List.length_take];rfl)) : p := h

attribute [local go_sem high] eqA70
def slices_Equal_impl_Span.l0 : Nat → List (S70) → List (S70) → Int → Int → Option (Bool)
 | 0,_,_,_,_ => none
 | k + 1,x0,x1,ht,bH => if bH < ht then (if 0 ≤ bH then (if bH < (x0.length : Int) then (if bH < (x1.length : Int) then (if (!(((rd_T70 x0 bH).f0) == ((rd_T70 x1 bH).f0)) || (!(((rd_T70 x0 bH).f1) == ((rd_T70 x1 bH).f1)))) = true then (some false) else (slices_Equal_impl_Span.l0 k x0 x1 ht (wrap64 (bH + 1)))) else (none)) else (none)) else (none)) else (some true)
def slices_Equal_impl_Span.f (k : Nat) (l0 : List (S70)) (l1 : List (S70)) : Option (Bool) := if (l0.length : Int) = (l1.length : Int) then (slices_Equal_impl_Span.l0 k l0 l1 (l0.length : Int) 0) else (some false)
theorem slices_Equal_impl_Span.calls (k : Nat) (A0 : Option Addr) (c0 : Nat) (l0 : List (S70)) (A1 : Option Addr) (c1 : Nat) (l1 : List (S70)) (r : Bool) (w : World) (hv : Kd.C k70 w A0 l0.length l0) (hx : l0.length ≤ c0) (hy : Kd.C k70 w A1 l1.length l1) (h0 : l1.length ≤ c1) (h : slices_Equal_impl_Span.f k l0 l1 = some r) :
  Calls Try.prog 64 #[.slice A0 l0.length c0,.slice A1 l1.length c1] w fun e w' => e = .returned (.bool r) ∧ Drawn0 w w' := by
 have hI := Try.underlying70
 have h2 := mkA hv
 have hP := mkA hx
 clear hv hx
 have h3 := mkA hy
 have hQ := mkA h0
 clear hy h0
 have H := h
 unfold slices_Equal_impl_Span.f at H
 clear h
 by_cases c3 : (l0.length : Int) = (l1.length : Int)
 ·rw [if_pos c3] at H
  have c3b0 : ((l0.length : Int) == (l1.length : Int)) = true := beq_iff_eq.mpr c3
  have c3b1 : ((l0.length : Int) != (l1.length : Int)) = false := bne_eq_false_iff_eq.mpr c3
  have c3b2 : (l0.length == l1.length) = true := by first | simpa using c3 | (simp at c3 ⊢;omega)
  clear c3
  have H' := mkA H
  clear H
  go_enter Try.func64,Try.ntmps64
  go_wp2
  repeat (go_quiet (fail);try go_wp2)
  go_loopg [13] k (fun kq hJ w' => ∃ (aa : Int),hJ = vi aa ∧ Aside0 (slices_Equal_impl_Span.l0 kq l0 l1 (l0.length : Int) aa = some r) ∧ Aside0 (kq ≤ k) ∧ Drawn0 w w')
  case atStart => exact ⟨(0),Z18x11,H',⟨Nat.le_refl _⟩,by repeat (first | exact Drawn0.refl _ | apply Drawn0.step)⟩
  case round =>
   clear H'
   try clear c1
   try clear p2
   try clear c3
   try clear c3b0
   try clear c3b1
   try clear c3b2
   obtain ⟨aa,rfl,HA,b_,⟨m1,rfl⟩⟩ := hrel
   cases gk with
   | zero => exact absurd HA.out (by simp [slices_Equal_impl_Span.l0])
   | succ k1 =>
    have H := HA.out;clear HA;simp only [slices_Equal_impl_Span.l0] at H
    by_cases c4 : aa < (l0.length : Int)
    ·rw [if_pos c4] at H
     have c4b0 : decide (aa < (l0.length : Int)) = true := decide_eq_true c4;clear c4
     by_cases c5 : 0 ≤ aa
     ·rw [if_pos c5] at H
      have c5b0 : decide (0 ≤ aa) = true := decide_eq_true c5;clear c5
      by_cases c6 : aa < (l0.length : Int)
      ·rw [if_pos c6] at H
       have c6b0 : decide (aa < (l0.length : Int)) = true := decide_eq_true c6;clear c6
       by_cases c7 : aa < (l1.length : Int)
       ·rw [if_pos c7] at H
        have c7b0 : decide (aa < (l1.length : Int)) = true := decide_eq_true c7;clear c7
        by_cases c8 : (!(((rd_T70 l0 aa).f0) == ((rd_T70 l1 aa).f0)) || (!(((rd_T70 l0 aa).f1) == ((rd_T70 l1 aa).f1)))) = true
        ·rw [if_pos c8] at H
         have c8b0 : (!(((rd_T70 l0 aa).f0) == ((rd_T70 l1 aa).f0)) || (!(((rd_T70 l0 aa).f1) == ((rd_T70 l1 aa).f1)))) = true := c8;clear c8;obtain rfl := Option.some.inj H;simp only [Option.some.injEq,Prod.mk.injEq] at H;obtain ⟨rfl⟩ := H;have bp : 0 ≤ (aa : Int) := of_decide_eq_true Z18x9;have bq : aa < (l0.length : Int) := of_decide_eq_true Z18x9;obtain ⟨df,ca,bI,bJ⟩ := at_T70 h2.out aa bp bq
         cases ca
         replace bp := eq_true bp;replace bq := eq_true bq;have br : 0 ≤ (aa : Int) := of_decide_eq_true Z18x9;have bs : aa < (l1.length : Int) := of_decide_eq_true Z18x9;obtain ⟨dg,cb,bK,bL⟩ := at_T70 h3.out aa br bs
         cases cb
         replace br := eq_true br;replace bs := eq_true bs
         go_wp2
         repeat (go_quiet (fail);try go_wp2)
         go_ret
         exact ⟨Z18x11,by repeat (first | exact Drawn0.refl _ | apply Drawn0.step)⟩
        ·rw [if_neg c8] at H
         have c8b0 : (!(((rd_T70 l0 aa).f0) == ((rd_T70 l1 aa).f0)) || (!(((rd_T70 l0 aa).f1) == ((rd_T70 l1 aa).f1)))) = false := by simpa using c8
         clear c8;have H' := mkA H;clear H;have bp : 0 ≤ (aa : Int) := of_decide_eq_true Z18x9;have bq : aa < (l0.length : Int) := of_decide_eq_true Z18x9;obtain ⟨df,ca,bI,bJ⟩ := at_T70 h2.out aa bp bq
         cases ca
         replace bp := eq_true bp;replace bq := eq_true bq;have br : 0 ≤ (aa : Int) := of_decide_eq_true Z18x9;have bs : aa < (l1.length : Int) := of_decide_eq_true Z18x9;obtain ⟨dg,cb,bK,bL⟩ := at_T70 h3.out aa br bs
         cases cb
         replace br := eq_true br;replace bs := eq_true bs
         go_wp2
         repeat (go_quiet (fail);try go_wp2)
         go_roundg k1
         case measure => have := b_.out;omega
         case rel => exact ⟨(wrap64 (aa + 1)),Z18x11,H',⟨by have := b_.out;omega⟩,by repeat (first | exact Drawn0.refl _ | apply Drawn0.step)⟩
       ·rw [if_neg c7] at H
        exact absurd H (by simp)
      ·rw [if_neg c6] at H
       exact absurd H (by simp)
     ·rw [if_neg c5] at H
      exact absurd H (by simp)
    ·rw [if_neg c4] at H
     have c4b0 : decide (aa < (l0.length : Int)) = false := decide_eq_false c4;clear c4;obtain rfl := Option.some.inj H;simp only [Option.some.injEq,Prod.mk.injEq] at H;obtain ⟨rfl⟩ := H
     go_wp2
     repeat (go_quiet (fail);try go_wp2)
     go_ret
     exact ⟨Z18x11,by repeat (first | exact Drawn0.refl _ | apply Drawn0.step)⟩
 ·rw [if_neg c3] at H
  have c3b0 : ((l0.length : Int) == (l1.length : Int)) = false := beq_eq_false_iff_ne.mpr c3
  have c3b1 : ((l0.length : Int) != (l1.length : Int)) = true := bne_iff_ne.mpr c3
  have c3b2 : (l0.length == l1.length) = false := by first | simpa using c3 | (simp at c3 ⊢;omega)
  obtain rfl := Option.some.inj H
  simp only [Option.some.injEq,Prod.mk.injEq] at H
  obtain ⟨rfl⟩ := H
  go_enter Try.func64,Try.ntmps64
  go_wp2
  repeat (go_quiet (fail);try go_wp2)
  go_ret
  exact ⟨Z18x11,by repeat (first | exact Drawn0.refl _ | apply Drawn0.step)⟩

def impl_EntrySame.f (k : Nat) (ah : Int) (ai : Int) (ab : List (S70)) (aj : Int) (ak : Int) (al : Int) (an : Int) (ad : List Int) (ae : List Int) (af : List (List Int)) (aK : Int) (aL : Int) (aM : List (S70)) (aU : Int) (aV : Int) (aW : Int) (aX : Int) (aP : List Int) (aQ : List Int) (aR : List (List Int)) : Option (Bool) := if ah = aK then (if ai = aL then ((slices_Equal_impl_Span.f k ab aM).bind fun cc => (if cc = true then ((impl_SketchSame.f k aj ak al an ad ae af aU aV aW aX aP aQ aR).bind fun cd => (some cd)) else (some false))) else (some false)) else (some false)
theorem impl_EntrySame.calls (k : Nat) (ah : Int) (ai : Int) (a8 : Option Addr) (aA : Nat) (ab : List (S70)) (aj : Int) (ak : Int) (al : Int) (an : Int) (aw : Option Addr) (ax : Nat) (ad : List Int) (ay : Option Addr) (az : Nat) (ae : List Int) (a1 : Option Addr) (a6 : Nat) (af : List (List Int)) (aK : Int) (aL : Int) (bu : Option Addr) (bw : Nat) (aM : List (S70)) (aU : Int) (aV : Int) (aW : Int) (aX : Int) (bz : Option Addr) (b0 : Nat) (aP : List Int) (b1 : Option Addr) (b2 : Nat) (aQ : List Int) (b3 : Option Addr) (b4 : Nat) (aR : List (List Int)) (r : Bool) (w : World) (aZ : Kd.C k70 w a8 ab.length ab) (a_ : ab.length ≤ aA) (ba : Kd.C (Kd.int .i64) w aw ad.length ad) (bb : ad.length ≤ ax) (bc : Kd.C (Kd.int .i64) w ay ae.length ae) (bd : ae.length ≤ az) (bf : Kd.C (Kd.slice 3 (Kd.int .i64)) w a1 af.length af) (bg : af.length ≤ a6) (bP : Kd.C k70 w bu aM.length aM) (bQ : aM.length ≤ bw) (bR : Kd.C (Kd.int .i64) w bz aP.length aP) (bS : aP.length ≤ b0) (bT : Kd.C (Kd.int .i64) w b1 aQ.length aQ) (bU : aQ.length ≤ b2) (bV : Kd.C (Kd.slice 3 (Kd.int .i64)) w b3 aR.length aR) (bW : aR.length ≤ b4) (h : impl_EntrySame.f k ah ai ab aj ak al an ad ae af aK aL aM aU aV aW aX aP aQ aR = some r) :
  Calls Try.prog 29 #[.agg #[vi ah,vi ai,.slice a8 ab.length aA,vi aj,vi ak,vi al,vi an,.slice aw ad.length ax,.slice ay ae.length az,.slice a1 af.length a6],.agg #[vi aK,vi aL,.slice bu aM.length bw,vi aU,vi aV,vi aW,vi aX,.slice bz aP.length b0,.slice b1 aQ.length b2,.slice b3 aR.length b4]] w fun e w' => e = .returned (.bool r) ∧ Below w.heap.size w w' := by
 have g_ := Try.underlying34
 have ha := Try.underlying27
 have bO := mkA aZ
 have bh := mkA a_
 clear aZ a_
 have b8 := mkA ba
 have bj := mkA bb
 clear ba bb
 have b9 := mkA bc
 have bk := mkA bd
 clear bc bd
 have bA := mkA bf
 have bm := mkA bg
 clear bf bg
 have bX := mkA bP
 have bY := mkA bQ
 clear bP bQ
 have dh := mkA bR
 have di := mkA bS
 clear bR bS
 have dj := mkA bT
 have dk := mkA bU
 clear bT bU
 have dm := mkA bV
 have dn := mkA bW
 clear bV bW
 have HB := mkA (Below.refl w.heap.size w)
 have H := h
 unfold impl_EntrySame.f at H
 clear h
 by_cases c3 : ah = aK
 ·rw [if_pos c3] at H
  have c3b0 : (ah == aK) = true := beq_iff_eq.mpr c3
  have c3b1 : (ah != aK) = false := bne_eq_false_iff_eq.mpr c3
  clear c3
  by_cases c4 : ai = aL
  ·rw [if_pos c4] at H
   have c4b0 : (ai == aL) = true := beq_iff_eq.mpr c4
   have c4b1 : (ai != aL) = false := bne_eq_false_iff_eq.mpr c4
   clear c4
   replace H := Option.bind_eq_some_iff.mp H
   obtain ⟨cc,h4,H⟩ := H
   try dsimp only at H
   have A5 := mkA h4
   clear h4
   by_cases c6 : cc = true
   ·subst c6
    rw [if_pos rfl] at H;replace H := Option.bind_eq_some_iff.mp H;obtain ⟨cd,h5,H⟩ := H
    try dsimp only at H
    have A7 := mkA h5;clear h5;obtain rfl := Option.some.inj H;simp only [Option.some.injEq,Prod.mk.injEq] at H;obtain ⟨rfl⟩ := H
    go_enter Try.func29,Try.ntmps29
    go_wp2_with (first | ((with_reducible refine gate_dst (N := 2) rfl ?_);refine box_event ?hg (N := 2) ?hd (cs := #[vi ah,vi ai,.slice a8 ab.length aA,vi aj,vi ak,vi al,vi an,.slice aw ad.length ax,.slice ay ae.length az,.slice a1 af.length a6]) (t := 34) ?hr ?_;(case hd => rfl);(case hg => rfl);(case hr => first | (go_simp;done) | (go_simp;rfl));intro ag hg w8 hbox hb;have aC := mkA (below_step Z18x0 hb);have aD := mkA (hbox);have aF := mkA ((Z18x15 : w.heap.size ≤ ag));have aN := mkA ((Z18x15 : w.heap.size ≤ ag));clear HB;have HB := aC;have ao := aD;have bB := aF;have aY := aN;clear aC aD aF aN;clear hb hbox hg) | ((with_reducible refine gate_dst (N := 3) rfl ?_);refine box_event ?hg (N := 3) ?hd (cs := #[vi aK,vi aL,.slice bu aM.length bw,vi aU,vi aV,vi aW,vi aX,.slice bz aP.length b0,.slice b1 aQ.length b2,.slice b3 aR.length b4]) (t := 34) ?hr ?_;(case hd => rfl);(case hg => rfl);(case hr => first | (go_simp;done) | (go_simp;rfl));intro ar hg w9 hbox hb;have aC := mkA (blk_below (g := ag) (o := .cells #[vi ah,vi ai,.slice a8 ab.length aA,vi aj,vi ak,vi al,vi an,.slice aw ad.length ax,.slice ay ae.length az,.slice a1 af.length a6] 34 (0,0)) Z18x3 hb);have aD := mkA (below_step Z18x2 hb);have aF := mkA (hbox);have aN := mkA ((by rw [hg];exact (below_size Z18x2) : w.heap.size ≤ ar));have bC := mkA ((by rw [hg];exact (below_size Z18x2) : w.heap.size ≤ ar));have bD := mkA ((Z18x5 : ag ≠ ar));have bE := mkA ((Z18x6 : ar ≠ ag));clear ao;clear HB;have ao := aC;have HB := aD;have aB := aF;have bF := aN;have b7 := bC;have au := bD;have av := bE;clear aC aD aF aN bC bD bE;clear hb hbox hg;have h6 := au.out;have h7 := av.out;obtain ⟨dt,du,dv,dw,dx,dy,dz,dA,dB,dC⟩ := cz10 ao.out;obtain ⟨dD,dE,dF,dG,dH,dI,dJ,dK,dL,dM⟩ := fz10 ao.out;obtain ⟨dN,dO,dP,dQ,dR,dS,dT,dU,dV,dW⟩ := cz10 aB.out;obtain ⟨dX,dY,dZ,d_,ea,eb,ec,ed,ee,ef⟩ := fz10 aB.out) | (go_at_call 64;(with_reducible refine (slices_Equal_impl_Span.calls k _ _ ab _ _ aM true _ ?aG ?aH ?aI ?aJ A5.out).mono ?_);(case aG => exact Z18x8);(case aH => exact bh.out);(case aI => repeat (first | exact (Kd.C_below bX.out HB.out) | (with_reducible refine Kd.C_alloc ?_ _) | (with_reducible refine Kd.C_drewN ?_ _) | (with_reducible refine Kd.C_drew ?_)));(case aJ => exact bY.out);rintro e w' ⟨rfl,⟨nd,rfl⟩⟩) | (go_at_call 18;(with_reducible refine (impl_SketchSame.calls k aj ak al an _ _ ad _ _ ae _ _ af aU aV aW aX _ _ aP _ _ aQ _ _ aR cd _ ?aG ?aH ?aI ?aJ ?aS ?aT ?bn ?bo ?dp ?cf ?cg ?ch A7.out).mono ?_);(case aG => repeat (first | exact (Kd.C_below b8.out Z18x1) | (with_reducible refine Kd.C_alloc ?_ _) | (with_reducible refine Kd.C_drewN ?_ _) | (with_reducible refine Kd.C_drew ?_)));(case aH => exact bj.out);(case aI => repeat (first | exact (Kd.C_below b9.out Z18x1) | (with_reducible refine Kd.C_alloc ?_ _) | (with_reducible refine Kd.C_drewN ?_ _) | (with_reducible refine Kd.C_drew ?_)));(case aJ => exact bk.out);(case aS => repeat (first | exact (Kd.C_below bA.out Z18x1) | (with_reducible refine Kd.C_alloc ?_ _) | (with_reducible refine Kd.C_drewN ?_ _) | (with_reducible refine Kd.C_drew ?_)));(case aT => exact bm.out);(case bn => repeat (first | exact (Kd.C_below dh.out Z18x1) | (with_reducible refine Kd.C_alloc ?_ _) | (with_reducible refine Kd.C_drewN ?_ _) | (with_reducible refine Kd.C_drew ?_)));(case bo => exact di.out);(case dp => repeat (first | exact (Kd.C_below dj.out Z18x1) | (with_reducible refine Kd.C_alloc ?_ _) | (with_reducible refine Kd.C_drewN ?_ _) | (with_reducible refine Kd.C_drew ?_)));(case cf => exact dk.out);(case cg => repeat (first | exact (Kd.C_below dm.out Z18x1) | (with_reducible refine Kd.C_alloc ?_ _) | (with_reducible refine Kd.C_drewN ?_ _) | (with_reducible refine Kd.C_drew ?_)));(case ch => exact dn.out);rintro e hR ⟨rfl,hb⟩;have aC := mkA (blk_below (g := ag) (o := .cells #[vi ah,vi ai,.slice a8 ab.length aA,vi aj,vi ak,vi al,vi an,.slice aw ad.length ax,.slice ay ae.length az,.slice a1 af.length a6] 34 (0,0)) Z18x3 hb);have aD := mkA (blk_below (g := ar) (o := .cells #[vi aK,vi aL,.slice bu aM.length bw,vi aU,vi aV,vi aW,vi aX,.slice bz aP.length b0,.slice b1 aQ.length b2,.slice b3 aR.length b4] 34 (0,0)) (by (with_reducible repeat (first | refine blk_drewN ?_ _ | refine blk_drew ?_ | refine blk_alloc ?_ _));exact aB.out) hb);have aF := mkA (below_step Z18x1 hb);clear ao;clear aB;clear HB;have ao := aC;have aB := aD;have HB := aF;clear aC aD aF;(try clear hb);(try clear hf);(try clear hk);(try clear hi)))
    go_ret
    exact ⟨Z18x10,Z18x1⟩
   ·replace c6 := Bool.eq_false_iff.mpr c6
    subst c6;rw [if_neg (show ¬ (false = true) by decide)] at H;obtain rfl := Option.some.inj H;simp only [Option.some.injEq,Prod.mk.injEq] at H;obtain ⟨rfl⟩ := H
    go_enter Try.func29,Try.ntmps29
    go_wp2_with (first | ((with_reducible refine gate_dst (N := 2) rfl ?_);refine box_event ?hg (N := 2) ?hd (cs := #[vi ah,vi ai,.slice a8 ab.length aA,vi aj,vi ak,vi al,vi an,.slice aw ad.length ax,.slice ay ae.length az,.slice a1 af.length a6]) (t := 34) ?hr ?_;(case hd => rfl);(case hg => rfl);(case hr => first | (go_simp;done) | (go_simp;rfl));intro ag hg hS hbox hb;have aC := mkA (below_step Z18x0 hb);have aD := mkA (hbox);have aF := mkA ((Z18x15 : w.heap.size ≤ ag));have aN := mkA ((Z18x15 : w.heap.size ≤ ag));clear HB;have HB := aC;have ao := aD;have bB := aF;have aY := aN;clear aC aD aF aN;clear hb hbox hg) | ((with_reducible refine gate_dst (N := 3) rfl ?_);refine box_event ?hg (N := 3) ?hd (cs := #[vi aK,vi aL,.slice bu aM.length bw,vi aU,vi aV,vi aW,vi aX,.slice bz aP.length b0,.slice b1 aQ.length b2,.slice b3 aR.length b4]) (t := 34) ?hr ?_;(case hd => rfl);(case hg => rfl);(case hr => first | (go_simp;done) | (go_simp;rfl));intro ar hg hK hbox hb;have aC := mkA (blk_below (g := ag) (o := .cells #[vi ah,vi ai,.slice a8 ab.length aA,vi aj,vi ak,vi al,vi an,.slice aw ad.length ax,.slice ay ae.length az,.slice a1 af.length a6] 34 (0,0)) Z18x3 hb);have aD := mkA (below_step Z18x2 hb);have aF := mkA (hbox);have aN := mkA ((by rw [hg];exact (below_size Z18x2) : w.heap.size ≤ ar));have bC := mkA ((by rw [hg];exact (below_size Z18x2) : w.heap.size ≤ ar));have bD := mkA ((Z18x5 : ag ≠ ar));have bE := mkA ((Z18x6 : ar ≠ ag));clear ao;clear HB;have ao := aC;have HB := aD;have aB := aF;have bF := aN;have b7 := bC;have au := bD;have av := bE;clear aC aD aF aN bC bD bE;clear hb hbox hg;have h8 := au.out;have h9 := av.out;obtain ⟨eg,eh,ei,ej,ek,en,eo,ep,er,et⟩ := cz10 ao.out;obtain ⟨eu,ev,ew,ey,ez,e0,e1,e2,e3,e7⟩ := fz10 ao.out;obtain ⟨e8,e9,eA,eB,eC,eD,eE,eF,eG,eH⟩ := cz10 aB.out;obtain ⟨eI,eJ,eK,eL,eM,eN,eO,eP,eQ,eR⟩ := fz10 aB.out) | (go_at_call 64;(with_reducible refine (slices_Equal_impl_Span.calls k _ _ ab _ _ aM false _ ?aG ?aH ?aI ?aJ A5.out).mono ?_);(case aG => exact Z18x8);(case aH => exact bh.out);(case aI => repeat (first | exact (Kd.C_below bX.out HB.out) | (with_reducible refine Kd.C_alloc ?_ _) | (with_reducible refine Kd.C_drewN ?_ _) | (with_reducible refine Kd.C_drew ?_)));(case aJ => exact bY.out);rintro e w' ⟨rfl,⟨nd,rfl⟩⟩))
    go_ret
    exact ⟨Z18x10,Z18x1⟩
  ·rw [if_neg c4] at H
   have c4b0 : (ai == aL) = false := beq_eq_false_iff_ne.mpr c4
   have c4b1 : (ai != aL) = true := bne_iff_ne.mpr c4
   obtain rfl := Option.some.inj H
   simp only [Option.some.injEq,Prod.mk.injEq] at H
   obtain ⟨rfl⟩ := H
   go_enter Try.func29,Try.ntmps29
   go_wp2_with (first | ((with_reducible refine gate_dst (N := 2) rfl ?_);refine box_event ?hg (N := 2) ?hd (cs := #[vi ah,vi ai,.slice a8 ab.length aA,vi aj,vi ak,vi al,vi an,.slice aw ad.length ax,.slice ay ae.length az,.slice a1 af.length a6]) (t := 34) ?hr ?_;(case hd => rfl);(case hg => rfl);(case hr => first | (go_simp;done) | (go_simp;rfl));intro ag hg hT hbox hb;have aC := mkA (below_step Z18x0 hb);have aD := mkA (hbox);have aF := mkA ((Z18x15 : w.heap.size ≤ ag));have aN := mkA ((Z18x15 : w.heap.size ≤ ag));clear HB;have HB := aC;have ao := aD;have bB := aF;have aY := aN;clear aC aD aF aN;clear hb hbox hg) | ((with_reducible refine gate_dst (N := 3) rfl ?_);refine box_event ?hg (N := 3) ?hd (cs := #[vi aK,vi aL,.slice bu aM.length bw,vi aU,vi aV,vi aW,vi aX,.slice bz aP.length b0,.slice b1 aQ.length b2,.slice b3 aR.length b4]) (t := 34) ?hr ?_;(case hd => rfl);(case hg => rfl);(case hr => first | (go_simp;done) | (go_simp;rfl));intro ar hg hU hbox hb;have aC := mkA (blk_below (g := ag) (o := .cells #[vi ah,vi ai,.slice a8 ab.length aA,vi aj,vi ak,vi al,vi an,.slice aw ad.length ax,.slice ay ae.length az,.slice a1 af.length a6] 34 (0,0)) Z18x3 hb);have aD := mkA (below_step Z18x2 hb);have aF := mkA (hbox);have aN := mkA ((by rw [hg];exact (below_size Z18x2) : w.heap.size ≤ ar));have bC := mkA ((by rw [hg];exact (below_size Z18x2) : w.heap.size ≤ ar));have bD := mkA ((Z18x5 : ag ≠ ar));have bE := mkA ((Z18x6 : ar ≠ ag));clear ao;clear HB;have ao := aC;have HB := aD;have aB := aF;have bF := aN;have b7 := bC;have au := bD;have av := bE;clear aC aD aF aN bC bD bE;clear hb hbox hg;have hA := au.out;have hB := av.out;obtain ⟨eS,eT,eU,eV,eW,eX,eY,eZ,e_,fa⟩ := cz10 ao.out;obtain ⟨fb,fc,fe,ff,fg,fh,fi,fj,fk,fl⟩ := fz10 ao.out;obtain ⟨fm,fo,fp,fq,fs,ft,fu,fv,fw,fx⟩ := cz10 aB.out;obtain ⟨fy,fA,fB,fC,fD,fE,fF,fG,fH,fI⟩ := fz10 aB.out))
   go_ret
   exact ⟨Z18x10,Z18x1⟩
 ·rw [if_neg c3] at H
  have c3b0 : (ah == aK) = false := beq_eq_false_iff_ne.mpr c3
  have c3b1 : (ah != aK) = true := bne_iff_ne.mpr c3
  obtain rfl := Option.some.inj H
  simp only [Option.some.injEq,Prod.mk.injEq] at H
  obtain ⟨rfl⟩ := H
  go_enter Try.func29,Try.ntmps29
  go_wp2_with (first | ((with_reducible refine gate_dst (N := 2) rfl ?_);refine box_event ?hg (N := 2) ?hd (cs := #[vi ah,vi ai,.slice a8 ab.length aA,vi aj,vi ak,vi al,vi an,.slice aw ad.length ax,.slice ay ae.length az,.slice a1 af.length a6]) (t := 34) ?hr ?_;(case hd => rfl);(case hg => rfl);(case hr => first | (go_simp;done) | (go_simp;rfl));intro ag hg hV hbox hb;have aC := mkA (below_step Z18x0 hb);have aD := mkA (hbox);have aF := mkA ((Z18x15 : w.heap.size ≤ ag));have aN := mkA ((Z18x15 : w.heap.size ≤ ag));clear HB;have HB := aC;have ao := aD;have bB := aF;have aY := aN;clear aC aD aF aN;clear hb hbox hg) | ((with_reducible refine gate_dst (N := 3) rfl ?_);refine box_event ?hg (N := 3) ?hd (cs := #[vi aK,vi aL,.slice bu aM.length bw,vi aU,vi aV,vi aW,vi aX,.slice bz aP.length b0,.slice b1 aQ.length b2,.slice b3 aR.length b4]) (t := 34) ?hr ?_;(case hd => rfl);(case hg => rfl);(case hr => first | (go_simp;done) | (go_simp;rfl));intro ar hg hW hbox hb;have aC := mkA (blk_below (g := ag) (o := .cells #[vi ah,vi ai,.slice a8 ab.length aA,vi aj,vi ak,vi al,vi an,.slice aw ad.length ax,.slice ay ae.length az,.slice a1 af.length a6] 34 (0,0)) Z18x3 hb);have aD := mkA (below_step Z18x2 hb);have aF := mkA (hbox);have aN := mkA ((by rw [hg];exact (below_size Z18x2) : w.heap.size ≤ ar));have bC := mkA ((by rw [hg];exact (below_size Z18x2) : w.heap.size ≤ ar));have bD := mkA ((Z18x5 : ag ≠ ar));have bE := mkA ((Z18x6 : ar ≠ ag));clear ao;clear HB;have ao := aC;have HB := aD;have aB := aF;have bF := aN;have b7 := bC;have au := bD;have av := bE;clear aC aD aF aN bC bD bE;clear hb hbox hg;have hC := au.out;have hD := av.out;obtain ⟨fJ,fK,fL,fM,fN,fO,fP,fQ,fR,fS⟩ := cz10 ao.out;obtain ⟨fT,fU,fV,fW,fX,fY,fZ,f_,ga,gb⟩ := fz10 ao.out;obtain ⟨gf,gg,gh,gi,gj,gl,gm,gn,gp,gq⟩ := cz10 aB.out;obtain ⟨gr,gu,gv,gw,gx,gy,gz,gA,gB,gC⟩ := fz10 aB.out))
  go_ret
  exact ⟨Z18x10,Z18x1⟩

def impl_EntrySize.l0 : Nat → Int → List Int → Int → Int → Option (Int)
 | 0,_,_,_,_ => none
 | k + 1,x3,gD,hj,dc => if dc < hj then (if 0 ≤ dc then (if dc < (gD.length : Int) then (if (rd gD dc) > 0 then (impl_EntrySize.l0 k (wrap64 (x3 + 1)) gD hj (wrap64 (dc + 1))) else (impl_EntrySize.l0 k x3 gD hj (wrap64 (dc + 1)))) else (none)) else (none)) else (some x3)
def impl_EntrySize.f (k : Nat) (ah : Int) (ai : Int) (ab : List (S70)) (aj : Int) (ak : Int) (al : Int) (an : Int) (ad : List Int) (ae : List Int) (af : List (List Int)) : Option (Int) := (impl_EntryOk.f k ah ai ab aj ak al an ad ae af).bind fun cj => (if cj = true then ((impl_counts.f k aj ak al an ad ae af).bind fun aE => (impl_EntrySize.l0 k (wrap64 (4 + (wrap64 (2 * (ab.length : Int))))) aE (aE.length : Int) 0)) else (some 0))
theorem impl_EntrySize.calls (k : Nat) (ah : Int) (ai : Int) (a8 : Option Addr) (aA : Nat) (ab : List (S70)) (aj : Int) (ak : Int) (al : Int) (an : Int) (aw : Option Addr) (ax : Nat) (ad : List Int) (ay : Option Addr) (az : Nat) (ae : List Int) (a1 : Option Addr) (a6 : Nat) (af : List (List Int)) (r : Int) (w : World) (aZ : Kd.C k70 w a8 ab.length ab) (a_ : ab.length ≤ aA) (ba : Kd.C (Kd.int .i64) w aw ad.length ad) (bb : ad.length ≤ ax) (bc : Kd.C (Kd.int .i64) w ay ae.length ae) (bd : ae.length ≤ az) (bf : Kd.C (Kd.slice 3 (Kd.int .i64)) w a1 af.length af) (bg : af.length ≤ a6) (h : impl_EntrySize.f k ah ai ab aj ak al an ad ae af = some r) :
  Calls Try.prog 30 #[.agg #[vi ah,vi ai,.slice a8 ab.length aA,vi aj,vi ak,vi al,vi an,.slice aw ad.length ax,.slice ay ae.length az,.slice a1 af.length a6]] w fun e w' => e = .returned (vi r) ∧ Below w.heap.size w w' := by
 have g_ := Try.underlying34
 have ha := Try.underlying27
 have bO := mkA aZ
 have bh := mkA a_
 clear aZ a_
 have b8 := mkA ba
 have bj := mkA bb
 clear ba bb
 have b9 := mkA bc
 have bk := mkA bd
 clear bc bd
 have bA := mkA bf
 have bm := mkA bg
 clear bf bg
 have HB := mkA (Below.refl w.heap.size w)
 have H := h
 unfold impl_EntrySize.f at H
 clear h
 replace H := Option.bind_eq_some_iff.mp H
 obtain ⟨cj,hE,H⟩ := H
 try dsimp only at H
 have A2 := mkA hE
 clear hE
 by_cases c3 : cj = true
 ·subst c3
  rw [if_pos rfl] at H
  replace H := Option.bind_eq_some_iff.mp H
  obtain ⟨aE,hF,H⟩ := H
  try dsimp only at H
  have A4 := mkA hF
  clear hF
  have H' := mkA H
  clear H
  go_enter Try.func30,Try.ntmps30
  go_wp2_with (first | ((with_reducible refine gate_dst (N := 1) rfl ?_);refine box_event ?hg (N := 1) ?hd (cs := #[vi ah,vi ai,.slice a8 ab.length aA,vi aj,vi ak,vi al,vi an,.slice aw ad.length ax,.slice ay ae.length az,.slice a1 af.length a6]) (t := 34) ?hr ?_;(case hd => rfl);(case hg => rfl);(case hr => first | (go_simp;done) | (go_simp;rfl));intro aO hg w5 hbox hb;have aC := mkA (below_step Z18x0 hb);have aD := mkA (hbox);have aF := mkA ((Z18x15 : w.heap.size ≤ aO));have aN := mkA ((Z18x15 : w.heap.size ≤ aO));clear HB;have HB := aC;have a7 := aD;have dq := aF;have bN := aN;clear aC aD aF aN;clear hb hbox hg;obtain ⟨ck,cm,cn,cq,cr,ct,cu,cv,cw,cx⟩ := cz10 a7.out;obtain ⟨cy,cz,cA,cB,cC,cD,cE,cF,cG,cH⟩ := fz10 a7.out) | ((with_reducible refine gate_callee (f := 14) rfl ?_);refine goesL_ (some 7) rfl rfl Try.func14 (by kernel_rfl) rfl #[.agg #[vi ah,vi ai,.slice a8 ab.length aA,vi aj,vi ak,vi al,vi an,.slice aw ad.length ax,.slice ay ae.length az,.slice a1 af.length a6]] rfl Z18x16 ?_;(with_reducible refine (impl_EntryOk.calls k ah ai _ _ ab aj ak al an _ _ ad _ _ ae _ _ af true _ ?aG ?aH ?aI ?aJ ?aS ?aT ?bn ?bo A2.out).mono ?_);(case aG => exact Z18x8);(case aH => exact bh.out);(case aI => exact Z18x12);(case aJ => exact bj.out);(case aS => exact Z18x13);(case aT => exact bk.out);(case bn => exact Z18x14);(case bo => exact bm.out);rintro e w7 ⟨rfl,hb⟩;refine ⟨_,rfl,?_⟩;have aC := mkA (blk_below (g := aO) (o := .cells #[vi ah,vi ai,.slice a8 ab.length aA,vi aj,vi ak,vi al,vi an,.slice aw ad.length ax,.slice ay ae.length az,.slice a1 af.length a6] 34 (0,0)) Z18x7 hb);have aD := mkA (below_step Z18x4 hb);clear a7;clear HB;have a7 := aC;have HB := aD;clear aC aD;(try clear hb);(try clear hf);(try clear hk);(try clear hi);obtain ⟨cI,cJ,cK,cL,cM,cN,cO,cP,cQ,cR⟩ := cz10 a7.out;obtain ⟨cS,cT,cU,cV,cW,cX,cY,cZ,c_,da⟩ := fz10 a7.out) | ((with_reducible refine gate_callee (f := 65) rfl ?_);refine goesL_ (some 16) rfl rfl Try.func65 (by kernel_rfl) rfl #[.agg #[vi aj,vi ak,vi al,vi an,.slice aw ad.length ax,.slice ay ae.length az,.slice a1 af.length a6]] rfl Z18x16 ?_;(with_reducible refine (impl_counts.calls k aj ak al an _ _ ad _ _ ae _ _ af aE _ ?aG ?aH ?aI ?aJ ?aS ?aT A4.out).mono ?_);(case aG => exact Z18x12);(case aH => exact bj.out);(case aI => exact Z18x13);(case aJ => exact bk.out);(case aS => exact Z18x14);(case aT => exact bm.out);rintro e w9 ⟨hL,rfl,hG,hb⟩;refine ⟨_,rfl,?_⟩;have aC := mkA (Kd.R_lower hG (below_size Z18x4));have aD := mkA (blk_below (g := aO) (o := .cells #[vi ah,vi ai,.slice a8 ab.length aA,vi aj,vi ak,vi al,vi an,.slice aw ad.length ax,.slice ay ae.length az,.slice a1 af.length a6] 34 (0,0)) Z18x7 hb);have aF := mkA (below_step Z18x4 hb);clear a7;clear HB;have bZ := aC;have a7 := aD;have HB := aF;clear aC aD aF;(try clear hb);(try clear hf);(try clear hk);(try clear hi);(try clear hG);obtain ⟨hl,hn,ho⟩ := Kd.R_slice bZ.out;subst ho))
  go_loopg [3,18] k (fun kq v3 hM w' => ∃ (bG : Int) (aq : Int),v3 = vi bG ∧ hM = vi aq ∧ Aside0 (impl_EntrySize.l0 kq bG aE (aE.length : Int) aq = some r) ∧ Aside0 (kq ≤ k) ∧ Aside0 (Kd.R (Kd.int .i64) 3 w' w.heap.size (fun _ => True) (.slice hl aE.length hn) aE) ∧ Aside0 (w'.heap[aO]? = some (.cells #[vi ah,vi ai,(.slice a8 ab.length aA),vi aj,vi ak,vi al,vi an,(.slice aw ad.length ax),(.slice ay ae.length az),(.slice a1 af.length a6)] 34 (0,0))) ∧ Aside0 (Below w.heap.size w w'))
  case atStart => exact ⟨(wrap64 (4 + (wrap64 (2 * (ab.length : Int))))),(0),Z18x11,Z18x11,H',⟨Nat.le_refl _⟩,⟨by (with_reducible repeat (first | apply Kd.R_alloc | apply Kd.R_drewN | apply Kd.R_drew));exact bZ.out⟩,⟨Z18x7⟩,⟨Z18x4⟩⟩
  case round =>
   clear H'
   try clear c1
   try clear p2
   try clear c3
   try clear c6
   try clear p6
   try clear ck cm cn cq cr ct cu cv cw cx
   try clear cI cJ cK cL cM cN cO cP cQ cR
   try clear cy cz cA cB cC cD cE cF cG cH
   try clear cS cT cU cV cW cX cY cZ c_ da
   (try clear a7)
   obtain ⟨bG,aq,rfl,rfl,HA,b_,HO_16,a7,HB⟩ := hrel
   cases gk with
   | zero => exact absurd HA.out (by simp [impl_EntrySize.l0])
   | succ k1 =>
    have H := HA.out;clear HA;simp only [impl_EntrySize.l0] at H
    by_cases dd : aq < (aE.length : Int)
    ·rw [if_pos dd] at H
     have c11b0 : decide (aq < (aE.length : Int)) = true := decide_eq_true dd;clear dd
     by_cases gE : 0 ≤ aq
     ·rw [if_pos gE] at H
      have c12b0 : decide (0 ≤ aq) = true := decide_eq_true gE;clear gE
      by_cases gF : aq < (aE.length : Int)
      ·rw [if_pos gF] at H
       have c13b0 : decide (aq < (aE.length : Int)) = true := decide_eq_true gF;clear gF
       by_cases de : (rd aE aq) > 0
       ·rw [if_pos de] at H
        have c14b0 : decide (0 < (rd aE aq)) = true := decide_eq_true de;clear de;have H' := mkA H;clear H;have b5 : 0 ≤ (aq : Int) := of_decide_eq_true Z18x9;have b6 : aq < (aE.length : Int) := of_decide_eq_true Z18x9;obtain ⟨dr,db,bM⟩ := Kd.at_int (Kd.R_reads' HO_16.out).2.2 aq b5 b6
        cases db
        replace b5 := eq_true b5;replace b6 := eq_true b6
        go_wp2
        go_roundg k1
        case measure => have := b_.out;omega
        case rel => exact ⟨(wrap64 (bG + 1)),(wrap64 (aq + 1)),Z18x11,Z18x11,H',⟨by have := b_.out;omega⟩,⟨by (with_reducible repeat (first | apply Kd.R_alloc | apply Kd.R_drewN | apply Kd.R_drew));exact HO_16.out⟩,⟨Z18x7⟩,⟨Z18x4⟩⟩
       ·rw [if_neg de] at H
        have c14b0 : decide (0 < (rd aE aq)) = false := decide_eq_false de;clear de;have H' := mkA H;clear H;have b5 : 0 ≤ (aq : Int) := of_decide_eq_true Z18x9;have b6 : aq < (aE.length : Int) := of_decide_eq_true Z18x9;obtain ⟨dr,db,bM⟩ := Kd.at_int (Kd.R_reads' HO_16.out).2.2 aq b5 b6
        cases db
        replace b5 := eq_true b5;replace b6 := eq_true b6
        go_wp2
        go_roundg k1
        case measure => have := b_.out;omega
        case rel => exact ⟨(bG),(wrap64 (aq + 1)),Z18x11,Z18x11,H',⟨by have := b_.out;omega⟩,⟨by (with_reducible repeat (first | apply Kd.R_alloc | apply Kd.R_drewN | apply Kd.R_drew));exact HO_16.out⟩,⟨Z18x7⟩,⟨Z18x4⟩⟩
      ·rw [if_neg gF] at H
       exact absurd H (by simp)
     ·rw [if_neg gE] at H
      exact absurd H (by simp)
    ·rw [if_neg dd] at H
     have c11b0 : decide (aq < (aE.length : Int)) = false := decide_eq_false dd;clear dd;obtain rfl := Option.some.inj H;simp only [Option.some.injEq,Prod.mk.injEq] at H;obtain ⟨rfl⟩ := H
     go_wp2
     go_ret
     exact ⟨Z18x10,Z18x4⟩
 ·replace c3 := Bool.eq_false_iff.mpr c3
  subst c3
  rw [if_neg (show ¬ (false = true) by decide)] at H
  obtain rfl := Option.some.inj H
  simp only [Option.some.injEq,Prod.mk.injEq] at H
  obtain ⟨rfl⟩ := H
  go_enter Try.func30,Try.ntmps30
  go_wp2_with (first | ((with_reducible refine gate_dst (N := 1) rfl ?_);refine box_event ?hg (N := 1) ?hd (cs := #[vi ah,vi ai,.slice a8 ab.length aA,vi aj,vi ak,vi al,vi an,.slice aw ad.length ax,.slice ay ae.length az,.slice a1 af.length a6]) (t := 34) ?hr ?_;(case hd => rfl);(case hg => rfl);(case hr => first | (go_simp;done) | (go_simp;rfl));intro aO hg hK hbox hb;have aC := mkA (below_step Z18x0 hb);have aD := mkA (hbox);have aF := mkA ((Z18x15 : w.heap.size ≤ aO));have aN := mkA ((Z18x15 : w.heap.size ≤ aO));clear HB;have HB := aC;have a7 := aD;have dq := aF;have bN := aN;clear aC aD aF aN;clear hb hbox hg;obtain ⟨gG,gH,gI,gJ,gK,gL,gM,gN,gO,gP⟩ := cz10 a7.out;obtain ⟨gQ,gR,gS,gT,gU,gV,gW,gX,gY,gZ⟩ := fz10 a7.out) | ((with_reducible refine gate_callee (f := 14) rfl ?_);refine goesL_ (some 7) rfl rfl Try.func14 (by kernel_rfl) rfl #[.agg #[vi ah,vi ai,.slice a8 ab.length aA,vi aj,vi ak,vi al,vi an,.slice aw ad.length ax,.slice ay ae.length az,.slice a1 af.length a6]] rfl Z18x16 ?_;(with_reducible refine (impl_EntryOk.calls k ah ai _ _ ab aj ak al an _ _ ad _ _ ae _ _ af false _ ?aG ?aH ?aI ?aJ ?aS ?aT ?bn ?bo A2.out).mono ?_);(case aG => exact Z18x8);(case aH => exact bh.out);(case aI => exact Z18x12);(case aJ => exact bj.out);(case aS => exact Z18x13);(case aT => exact bk.out);(case bn => exact Z18x14);(case bo => exact bm.out);rintro e hX ⟨rfl,hb⟩;refine ⟨_,rfl,?_⟩;have aC := mkA (blk_below (g := aO) (o := .cells #[vi ah,vi ai,.slice a8 ab.length aA,vi aj,vi ak,vi al,vi an,.slice aw ad.length ax,.slice ay ae.length az,.slice a1 af.length a6] 34 (0,0)) Z18x7 hb);have aD := mkA (below_step Z18x4 hb);clear a7;clear HB;have a7 := aC;have HB := aD;clear aC aD;(try clear hb);(try clear hf);(try clear hk);(try clear hi)))
  go_ret
  exact ⟨Z18x10,Z18x4⟩


end Go.Proofs.Ytdciagkholijlaa.PFnEntries
