-- Written by this session's changed copy of the kit's printer (wip/patch_print.py): not the kit's own print.
import Derived.Test.YtdciagkholijlaaPFnEntriesx0
import Derived.Test.YtdciagkholijlaaPFnEntriesx4
import Derived.Test.YtdciagkholijlaaPFnEntriesx5
namespace Go.Proofs.Ytdciagkholijlaa.PFnEntries
open Go.RowKit Go.Proofs.YtdciagkholijlaaW.PrintWords Go.Proofs.YtdciagkholijlaaW.PrintLast Go.Proofs.YtdciagkholijlaaW.PrintMore
attribute [local go_sem] max2_int min2_int max_two min_two max_three min_three max_four min_four   -- for this text's walks alone
set_option linter.unusedVariables false
set_option linter.unusedSimpArgs false
set_option maxHeartbeats 8000000
set_option maxRecDepth 100000
theorem Z6x0 {p : Prop} (h : p := by repeat (first | (with_reducible first | exact HB.out | apply below_alloc | apply pw_below_drewN | apply below_drew1 | refine below_set ?_ cx.out | refine below_set ?_ dX.out | refine below_set ?_ eM.out) | exact HB.out)) : p := h
theorem Z6x1 {p : Prop} (h : p := by repeat (first | (with_reducible first | exact HB.out | apply below_alloc | apply pw_below_drewN | apply below_drew1 | refine below_set ?_ (IsS95.ge b2.out)) | exact HB.out)) : p := h
theorem Z6x2 {p : Prop} (h : p := by repeat (first | (with_reducible first | exact b2.out | apply IsS95.alloc | apply IsS95.drewN | apply IsS95.drew | apply IsS95.set_1 | apply IsS95.set_2) | exact b2.out)) : p := h
theorem Z6x3 {p : Prop} (h : p := by repeat (first | (with_reducible first | exact HB.out | apply below_alloc | apply pw_below_drewN | apply below_drew1) | exact HB.out)) : p := h
theorem Z6x4 {p : Prop} (h : p := by repeat (first | (with_reducible first | exact HK.out | apply KeepBut.set_ | apply keep_drewN | apply keep_drew | apply keep_alloc) | exact HK.out)) : p := h
theorem Z6x5 {p : Prop} (h : p := by (try simp only [List.map_toArray,List.map_cons,List.map_nil]);first | done | rfl | (simp only [List.length_drop,List.length_take];rfl)) : p := h
theorem Z6x6 {p : Prop} (h : p := by (with_reducible repeat (first | refine blk_drewN ?_ _ | refine blk_drew ?_ | refine blk_alloc ?_ _));exact ab.out) : p := h
theorem Z6x7 {p : Prop} (h : p := by repeat (first | (with_reducible first | exact HB.out | apply below_alloc | apply pw_below_drewN | apply below_drew1 | refine below_set ?_ bO.out) | exact HB.out)) : p := h
theorem Z6x8 {p : Prop} (h : p := by first | rfl | (simp [errW_none,errW_some] <;> rfl) | (simp [*,errW_none,errW_some] <;> rfl)) : p := h
theorem Z6x9 {p : Prop} (h : p := by (with_reducible repeat (first | refine blk_drewN ?_ _ | refine blk_drew ?_ | refine blk_alloc ?_ _));exact aj.out) : p := h
theorem Z6x10 {p : Prop} (h : p := by (with_reducible repeat (first | apply Kd.R_alloc | apply Kd.R_drewN | apply Kd.R_drew));exact HO_173004.out) : p := h
theorem Z6x11 {p : Prop} (h : p := by (with_reducible repeat (first | apply Kd.R_alloc | apply Kd.R_drewN | apply Kd.R_drew));exact HO_173005.out) : p := h
theorem Z6x12 {p : Prop} (h : p := by (with_reducible repeat (first | refine blk_drewN ?_ _ | refine blk_drew ?_ | refine blk_alloc ?_ _));exact aa.out) : p := h
theorem Z6x13 {p : Prop} (h : p := by repeat (first | (with_reducible first | exact HB.out | apply below_alloc | apply pw_below_drewN | apply below_drew1 | refine below_set ?_ cx.out | refine below_set ?_ dX.out) | exact HB.out)) : p := h
theorem Z6x14 {p : Prop} (h : p := by repeat (first | (with_reducible first | exact HB.out | apply below_alloc | apply pw_below_drewN | apply below_drew1 | refine below_set ?_ cx.out) | exact HB.out)) : p := h
theorem Z6x15 {p : Prop} (h : p := by (with_reducible repeat (first | apply Kd.S_alloc | apply Kd.S_drewN | apply Kd.S_drew));exact HO_173006.out) : p := h
theorem Z6x16 {p : Prop} (h : p := by (with_reducible repeat (first | apply Kd.R_alloc | apply Kd.R_drewN | apply Kd.R_drew));exact (Kd.R_mono (Kd.R_far (p := ⟨ar,4,none⟩) (Kd.R_types bc.out aa.out (by decide)) (fun _ hk => hk.2) (.slice aD aw.length aE)) (fun _ h_ => h_.1))) : p := h
theorem Z6x17 {p : Prop} (h : p := by rw [hg];exact (below_size Z6x3)) : p := h
theorem Z6x18 {p : Prop} (h : p := by (with_reducible repeat (first | refine blk_drewN ?_ _ | refine blk_drew ?_ | refine blk_alloc ?_ _));refine blk_far ?_ ak.out _;(with_reducible repeat (first | refine blk_drewN ?_ _ | refine blk_drew ?_ | refine blk_alloc ?_ _));exact ab.out) : p := h
theorem Z6x19 {p : Prop} (h : p := by (with_reducible repeat (first | refine blk_drewN ?_ _ | refine blk_drew ?_ | refine blk_alloc ?_ _));refine blk_far ?_ ao.out _;(with_reducible repeat (first | refine blk_drewN ?_ _ | refine blk_drew ?_ | refine blk_alloc ?_ _));exact aj.out) : p := h
theorem Z6x20 {p : Prop} (h : p := by first | (with_reducible assumption) | assumption) : p := h

def spec_ItemOk.f (k : Nat) (ae : Int) (af : Int) (ag : Int) (ah : Int) (bw : Int) (bz : Int) (b0 : Int) (b1 : Int) (bg : List Int) (bh : List Int) (aX : List (List Int)) : Option (Bool) := (spec_l1In.f ae 1 60).bind fun t166 => (if t166 = true then ((spec_l1In.f af 0 1).bind fun t167 => (if t167 = true then ((spec_l6Place.f ag ah).bind fun t168 => (if t168 = true then ((spec_SketchOk.f k bw bz b0 b1 bg bh aX).bind fun t169 => (some t169)) else (some false))) else (some false))) else (some false))
theorem spec_ItemOk.calls (k : Nat) (ae : Int) (af : Int) (ag : Int) (ah : Int) (bw : Int) (bz : Int) (b0 : Int) (b1 : Int) (bK : Option Addr) (bL : Nat) (bg : List Int) (bM : Option Addr) (bN : Nat) (bh : List Int) (br : Option Addr) (bs : Nat) (aX : List (List Int)) (r : Bool) (w : World) (dY : Kd.C (Kd.int .i64) w bK bg.length bg) (dZ : bg.length ≤ bL) (d_ : Kd.C (Kd.int .i64) w bM bh.length bh) (ea : bh.length ≤ bN) (cy : Kd.C (Kd.slice 3 (Kd.int .i64)) w br aX.length aX) (cz : aX.length ≤ bs) (h : spec_ItemOk.f k ae af ag ah bw bz b0 b1 bg bh aX = some r) :
  Calls Try.prog 37 #[.agg #[vi ae,vi af,vi ag,vi ah,vi bw,vi bz,vi b0,vi b1,.slice bK bg.length bL,.slice bM bh.length bN,.slice br aX.length bs]] w fun e w' => e = .returned (.bool r) ∧ Below w.heap.size w w' := by
 have jQ := Try.underlying29
 have iG := Try.underlying27
 have eN := mkA dY
 have eO := mkA dZ
 clear dY dZ
 have eP := mkA d_
 have eQ := mkA ea
 clear d_ ea
 have ep := mkA cy
 have er := mkA cz
 clear cy cz
 have HB := mkA (Below.refl w.heap.size w)
 have H := h
 unfold spec_ItemOk.f at H
 clear h
 replace H := Option.bind_eq_some_iff.mp H
 obtain ⟨t166,jm,H⟩ := H
 try dsimp only at H
 have A2 := mkA jm
 clear jm
 by_cases c3 : t166 = true
 ·subst c3
  rw [if_pos rfl] at H
  replace H := Option.bind_eq_some_iff.mp H
  obtain ⟨t167,jn,H⟩ := H
  try dsimp only at H
  have A4 := mkA jn
  clear jn
  by_cases c5 : t167 = true
  ·subst c5
   rw [if_pos rfl] at H
   replace H := Option.bind_eq_some_iff.mp H
   obtain ⟨t168,jo,H⟩ := H
   try dsimp only at H
   have A6 := mkA jo
   clear jo
   by_cases c7 : t168 = true
   ·subst c7
    rw [if_pos rfl] at H;replace H := Option.bind_eq_some_iff.mp H;obtain ⟨t169,eR,H⟩ := H
    try dsimp only at H
    have A8 := mkA eR;clear eR;obtain rfl := Option.some.inj H;simp only [Option.some.injEq,Prod.mk.injEq] at H;obtain ⟨rfl⟩ := H
    go_enter Try.func37,Try.ntmps37
    go_wp2_with (first | ((with_reducible refine gate_dst (N := 1) rfl ?_);refine box_event ?hg (N := 1) ?hd (cs := #[vi ae,vi af,vi ag,vi ah,vi bw,vi bz,vi b0,vi b1,.slice bK bg.length bL,.slice bM bh.length bN,.slice br aX.length bs]) (t := 29) ?hr ?_;(case hd => rfl);(case hg => rfl);(case hr => first | (go_simp;done) | (go_simp;rfl));intro a_ hg w9 hbox hb;have ax := mkA (below_step Z6x3 hb);have ay := mkA (hbox);have aA := mkA ((Z6x17 : w.heap.size ≤ a_));have aU := mkA ((Z6x17 : w.heap.size ≤ a_));clear HB;have HB := ax;have aV := ay;have c0 := aA;have bO := aU;clear ax ay aA aU;clear hb hbox hg;obtain ⟨fB,fC,fD,fE,fF,fG,fH,fI,fJ,fK,eS⟩ := cz11 aV.out;obtain ⟨fL,fM,fN,fO,fP,fQ,fR,fS,fT,fU,eT⟩ := fz11 aV.out) | ((with_reducible refine gate_callee (f := 42) rfl ?_);refine goesL_ (some 5) rfl rfl Try.func42 (by kernel_rfl) rfl #[vi ae,vi 1,vi 60] rfl Z6x5 ?_;(with_reducible refine (spec_l1In.calls ae 1 60 true _ A2.out).mono ?_);rintro e w' ⟨rfl,⟨nd,rfl⟩⟩;refine ⟨_,rfl,?_⟩) | (go_at_call 42;(with_reducible refine (spec_l1In.calls af 0 1 true _ A4.out).mono ?_);rintro e w' ⟨rfl,⟨nd,rfl⟩⟩) | (go_at_call 72;(with_reducible refine (spec_l6Place.calls ag ah true _ A6.out).mono ?_);rintro e w' ⟨rfl,⟨nd,rfl⟩⟩) | (go_at_call 73;(with_reducible refine (spec_SketchOk.calls k bw bz b0 b1 _ _ bg _ _ bh _ _ aX t169 _ ?aY ?aZ ?eU ?eV ?eW ?eX A8.out).mono ?_);(case aY => repeat (first | exact (Kd.C_below eN.out Z6x7) | (with_reducible refine Kd.C_alloc ?_ _) | (with_reducible refine Kd.C_drewN ?_ _) | (with_reducible refine Kd.C_drew ?_)));(case aZ => exact eO.out);(case eU => repeat (first | exact (Kd.C_below eP.out Z6x7) | (with_reducible refine Kd.C_alloc ?_ _) | (with_reducible refine Kd.C_drewN ?_ _) | (with_reducible refine Kd.C_drew ?_)));(case eV => exact eQ.out);(case eW => repeat (first | exact (Kd.C_below ep.out Z6x7) | (with_reducible refine Kd.C_alloc ?_ _) | (with_reducible refine Kd.C_drewN ?_ _) | (with_reducible refine Kd.C_drew ?_)));(case eX => exact er.out);rintro e kg ⟨rfl,hb⟩;have ax := mkA (blk_below (g := a_) (o := .cells #[vi ae,vi af,vi ag,vi ah,vi bw,vi bz,vi b0,vi b1,.slice bK bg.length bL,.slice bM bh.length bN,.slice br aX.length bs] 29 (0,0)) (by (with_reducible repeat (first | refine blk_drewN ?_ _ | refine blk_drew ?_ | refine blk_alloc ?_ _));exact aV.out) hb);have ay := mkA (below_step Z6x7 hb);clear aV;clear HB;have aV := ax;have HB := ay;clear ax ay;(try clear hb);(try clear eK);(try clear hk);(try clear hi)))
    go_ret
    exact ⟨Z6x8,Z6x7⟩
   ·replace c7 := Bool.eq_false_iff.mpr c7
    subst c7;rw [if_neg (show ¬ (false = true) by decide)] at H;obtain rfl := Option.some.inj H;simp only [Option.some.injEq,Prod.mk.injEq] at H;obtain ⟨rfl⟩ := H
    go_enter Try.func37,Try.ntmps37
    go_wp2_with (first | ((with_reducible refine gate_dst (N := 1) rfl ?_);refine box_event ?hg (N := 1) ?hd (cs := #[vi ae,vi af,vi ag,vi ah,vi bw,vi bz,vi b0,vi b1,.slice bK bg.length bL,.slice bM bh.length bN,.slice br aX.length bs]) (t := 29) ?hr ?_;(case hd => rfl);(case hg => rfl);(case hr => first | (go_simp;done) | (go_simp;rfl));intro a_ hg jR hbox hb;have ax := mkA (below_step Z6x3 hb);have ay := mkA (hbox);have aA := mkA ((Z6x17 : w.heap.size ≤ a_));have aU := mkA ((Z6x17 : w.heap.size ≤ a_));clear HB;have HB := ax;have aV := ay;have c0 := aA;have bO := aU;clear ax ay aA aU;clear hb hbox hg;obtain ⟨fV,fW,fX,fY,fZ,f_,ga,gb,gf,gg,eY⟩ := cz11 aV.out;obtain ⟨gh,gi,gj,gl,gm,gn,gp,gq,gr,gu,eZ⟩ := fz11 aV.out) | ((with_reducible refine gate_callee (f := 42) rfl ?_);refine goesL_ (some 5) rfl rfl Try.func42 (by kernel_rfl) rfl #[vi ae,vi 1,vi 60] rfl Z6x5 ?_;(with_reducible refine (spec_l1In.calls ae 1 60 true _ A2.out).mono ?_);rintro e w' ⟨rfl,⟨nd,rfl⟩⟩;refine ⟨_,rfl,?_⟩) | (go_at_call 42;(with_reducible refine (spec_l1In.calls af 0 1 true _ A4.out).mono ?_);rintro e w' ⟨rfl,⟨nd,rfl⟩⟩) | (go_at_call 72;(with_reducible refine (spec_l6Place.calls ag ah false _ A6.out).mono ?_);rintro e w' ⟨rfl,⟨nd,rfl⟩⟩))
    go_ret
    exact ⟨Z6x8,Z6x7⟩
  ·replace c5 := Bool.eq_false_iff.mpr c5
   subst c5
   rw [if_neg (show ¬ (false = true) by decide)] at H
   obtain rfl := Option.some.inj H
   simp only [Option.some.injEq,Prod.mk.injEq] at H
   obtain ⟨rfl⟩ := H
   go_enter Try.func37,Try.ntmps37
   go_wp2_with (first | ((with_reducible refine gate_dst (N := 1) rfl ?_);refine box_event ?hg (N := 1) ?hd (cs := #[vi ae,vi af,vi ag,vi ah,vi bw,vi bz,vi b0,vi b1,.slice bK bg.length bL,.slice bM bh.length bN,.slice br aX.length bs]) (t := 29) ?hr ?_;(case hd => rfl);(case hg => rfl);(case hr => first | (go_simp;done) | (go_simp;rfl));intro a_ hg jS hbox hb;have ax := mkA (below_step Z6x3 hb);have ay := mkA (hbox);have aA := mkA ((Z6x17 : w.heap.size ≤ a_));have aU := mkA ((Z6x17 : w.heap.size ≤ a_));clear HB;have HB := ax;have aV := ay;have c0 := aA;have bO := aU;clear ax ay aA aU;clear hb hbox hg;obtain ⟨gv,gw,gx,gy,gz,gA,gB,gC,gD,gE,fa⟩ := cz11 aV.out;obtain ⟨gF,gG,gH,gI,gJ,gK,gL,gM,gN,gO,fb⟩ := fz11 aV.out) | ((with_reducible refine gate_callee (f := 42) rfl ?_);refine goesL_ (some 5) rfl rfl Try.func42 (by kernel_rfl) rfl #[vi ae,vi 1,vi 60] rfl Z6x5 ?_;(with_reducible refine (spec_l1In.calls ae 1 60 true _ A2.out).mono ?_);rintro e w' ⟨rfl,⟨nd,rfl⟩⟩;refine ⟨_,rfl,?_⟩) | (go_at_call 42;(with_reducible refine (spec_l1In.calls af 0 1 false _ A4.out).mono ?_);rintro e w' ⟨rfl,⟨nd,rfl⟩⟩))
   go_ret
   exact ⟨Z6x8,Z6x7⟩
 ·replace c3 := Bool.eq_false_iff.mpr c3
  subst c3
  rw [if_neg (show ¬ (false = true) by decide)] at H
  obtain rfl := Option.some.inj H
  simp only [Option.some.injEq,Prod.mk.injEq] at H
  obtain ⟨rfl⟩ := H
  go_enter Try.func37,Try.ntmps37
  go_wp2_with (first | ((with_reducible refine gate_dst (N := 1) rfl ?_);refine box_event ?hg (N := 1) ?hd (cs := #[vi ae,vi af,vi ag,vi ah,vi bw,vi bz,vi b0,vi b1,.slice bK bg.length bL,.slice bM bh.length bN,.slice br aX.length bs]) (t := 29) ?hr ?_;(case hd => rfl);(case hg => rfl);(case hr => first | (go_simp;done) | (go_simp;rfl));intro a_ hg jT hbox hb;have ax := mkA (below_step Z6x3 hb);have ay := mkA (hbox);have aA := mkA ((Z6x17 : w.heap.size ≤ a_));have aU := mkA ((Z6x17 : w.heap.size ≤ a_));clear HB;have HB := ax;have aV := ay;have c0 := aA;have bO := aU;clear ax ay aA aU;clear hb hbox hg;obtain ⟨bP,bQ,bR,bS,bT,bU,bV,gP,gQ,gR,fc⟩ := cz11 aV.out;obtain ⟨bW,bX,bY,bZ,b_,ca,cb,gS,gT,gU,fe⟩ := fz11 aV.out) | ((with_reducible refine gate_callee (f := 42) rfl ?_);refine goesL_ (some 5) rfl rfl Try.func42 (by kernel_rfl) rfl #[vi ae,vi 1,vi 60] rfl Z6x5 ?_;(with_reducible refine (spec_l1In.calls ae 1 60 false _ A2.out).mono ?_);rintro e w' ⟨rfl,⟨nd,rfl⟩⟩;refine ⟨_,rfl,?_⟩))
  go_ret
  exact ⟨Z6x8,Z6x7⟩

def spec_l3Copy.l0 : Nat → Int → Int → Int → Int → Int → List Int → List Int → List (List Int) → Int → Int → Int → Int → List Int → List Int → List (List Int) → Option (Int × Int × Int × Int × List Int × List Int × (List (List Int)))
 | 0,_,_,_,_,_,_,_,_,_,_,_,_,_,_,_ => none
 | k + 1,x4,cH,cI,cJ,cK,cL,cM,bo,cc,cd,cf,cg,ch,cj,b3 => if x4 < (bo.length : Int) then ((some (([] : List Int) : List Int)).bind fun b4 => (if 0 ≤ x4 then (if b4.length + (rd_L3 bo x4).length < 17592186044416 then (if b3.length < 5864062014805 then (spec_l3Copy.l0 k (wrap64 (x4 + 1)) cH cI cJ cK cL cM bo cc cd cf cg ch cj (b3 ++ [(b4 ++ (rd_L3 bo x4))])) else (none)) else (none)) else (none))) else (some (cc,cd,cf,cg,ch,cj,b3))
def spec_l3Copy.f (k : Nat) (ae : Int) (af : Int) (ag : Int) (ah : Int) (au : List Int) (an : List Int) (aq : List (List Int)) : Option (Int × Int × Int × Int × List Int × List Int × (List (List Int))) := (some (([] : List Int) : List Int)).bind fun b5 => (if b5.length + au.length < 17592186044416 then ((some (([] : List Int) : List Int)).bind fun bd => (if bd.length + an.length < 17592186044416 then (spec_l3Copy.l0 k 0 ae af ag ah au an aq ae af ag ah (b5 ++ au) (bd ++ an) ([] : List (List Int))) else (none))) else (none))
def spec_l3Copy.T8 : Bool × List (List Nat × List Nat) := (true,[([],[]),([0],[0]),([],[]),([],[]),([3],[3]),([],[]),([4,5],[4,5]),([6],[6]),([2,7],[2,7]),([8],[8]),([1,9,8],[1,9]),([0,1,2,3,4,5,6,7,8,9,10],[]),([11,10,10,0,1,2,3,4,5,6,7,8,9,10],[10,11])])
def spec_l3Copy.B8 : List Nat := [0,1,0,0,8,0,56,120,252,508,1023,2047,4095]
theorem spec_l3Copy.tab8 : rtab .any (opsOf Try.f38 8) = spec_l3Copy.T8 := by kernel_rfl
theorem spec_l3Copy.bits8 : waitsOk spec_l3Copy.T8.2 spec_l3Copy.B8 = true := by kernel_rfl
theorem spec_l3Copy.calls (k : Nat) (ae : Int) (af : Int) (ag : Int) (ah : Int) (aK : Option Addr) (aM : Nat) (au : List Int) (aH : Option Addr) (aI : Nat) (an : List Int) (aW : Option Addr) (aJ : Nat) (aq : List (List Int)) (r1 : Int) (r2 : Int) (r3 : Int) (r4 : Int) (r5 : List Int) (r6 : List Int) (r7 : List (List Int)) (w : World) (eb : Kd.C (Kd.int .i64) w aK au.length au) (ec : au.length ≤ aM) (ed : Kd.C (Kd.int .i64) w aH an.length an) (ee : an.length ≤ aI) (ef : Kd.C (Kd.slice 3 (Kd.int .i64)) w aW aq.length aq) (eg : aq.length ≤ aJ) (h : spec_l3Copy.f k ae af ag ah au an aq = some (r1,r2,r3,r4,r5,r6,r7)) :
  Calls Try.prog 38 #[.agg #[vi ae,vi af,vi ag,vi ah,.slice aK au.length aM,.slice aH an.length aI,.slice aW aq.length aJ]] w fun e w' => ∃ gV gW jq : Value,e = .returned (.agg #[vi r1,vi r2,vi r3,vi r4,gV,gW,jq]) ∧ Kd.R (Kd.int .i64) 3 w' w.heap.size (fun k_ => some k_ ≠ (gW : Value).ownBlock) gV r5 ∧ Kd.R (Kd.int .i64) 3 w' w.heap.size (fun k_ => some k_ ≠ (gV : Value).ownBlock) gW r6 ∧ Kd.S (Kd.slice 3 (Kd.int .i64)) 24 w' w.heap.size (fun k_ => some k_ ≠ (gV : Value).ownBlock ∧ some k_ ≠ (gW : Value).ownBlock) jq r7 ∧ Below w.heap.size w w' := by
 have iG := Try.underlying27
 have ff := mkA eb
 have jr := mkA ec
 clear eb ec
 have fg := mkA ed
 have js := mkA ee
 clear ed ee
 have fh := mkA ef
 have jt := mkA eg
 clear ef eg
 have HB := mkA (Below.refl w.heap.size w)
 have H := h
 unfold spec_l3Copy.f at H
 clear h
 obtain ⟨b5,b6⟩ : ∃ y_ : List Int,y_ = (([] : List Int)) := ⟨_,rfl⟩
 replace H : (if b5.length + au.length < 17592186044416 then ((some (([] : List Int) : List Int)).bind fun bd => (if bd.length + an.length < 17592186044416 then (spec_l3Copy.l0 k 0 ae af ag ah au an aq ae af ag ah (b5 ++ au) (bd ++ an) ([] : List (List Int))) else (none))) else (none)) = some (r1,r2,r3,r4,r5,r6,r7) := by first | (rw [b6];with_reducible exact H) | (have bj := (Option.bind_some _ _).symm.trans H;rw [b6];with_reducible exact bj) | (have bj := (Option.bind_some _ _).symm.trans H;with_reducible exact bj) | with_reducible exact H | (rw [b6];exact H) | exact H
 have eh := mkA b6
 clear b6
 by_cases c2 : b5.length + au.length < 17592186044416
 ·rw [if_pos c2] at H
  have iH := mkA c2
  clear c2
  obtain ⟨aw,b7⟩ : ∃ y_ : List Int,y_ = (b5 ++ au) := ⟨_,rfl⟩
  replace H : ((some (([] : List Int) : List Int)).bind fun bd => (if bd.length + an.length < 17592186044416 then (spec_l3Copy.l0 k 0 ae af ag ah au an aq ae af ag ah aw (bd ++ an) ([] : List (List Int))) else (none))) = some (r1,r2,r3,r4,r5,r6,r7) := by first | (rw [b7];with_reducible exact H) | (have bj := (Option.bind_some _ _).symm.trans H;rw [b7];with_reducible exact bj) | (have bj := (Option.bind_some _ _).symm.trans H;with_reducible exact bj) | with_reducible exact H | (rw [b7];exact H) | exact H
  have fi := mkA b7
  clear b7
  obtain ⟨bd,b8⟩ : ∃ y_ : List Int,y_ = (([] : List Int)) := ⟨_,rfl⟩
  replace H : (if bd.length + an.length < 17592186044416 then (spec_l3Copy.l0 k 0 ae af ag ah au an aq ae af ag ah aw (bd ++ an) ([] : List (List Int))) else (none)) = some (r1,r2,r3,r4,r5,r6,r7) := by first | (rw [b8];with_reducible exact H) | (have bj := (Option.bind_some _ _).symm.trans H;rw [b8];with_reducible exact bj) | (have bj := (Option.bind_some _ _).symm.trans H;with_reducible exact bj) | with_reducible exact H | (rw [b8];exact H) | exact H
  have ei := mkA b8
  clear b8
  by_cases c3 : bd.length + an.length < 17592186044416
  ·rw [if_pos c3] at H
   have iI := mkA c3
   clear c3
   obtain ⟨aC,b9⟩ : ∃ y_ : List Int,y_ = (bd ++ an) := ⟨_,rfl⟩
   replace H : (spec_l3Copy.l0 k 0 ae af ag ah au an aq ae af ag ah aw aC ([] : List (List Int))) = some (r1,r2,r3,r4,r5,r6,r7) := by first | (rw [b9];with_reducible exact H) | (have bj := (Option.bind_some _ _).symm.trans H;rw [b9];with_reducible exact bj) | (have bj := (Option.bind_some _ _).symm.trans H;with_reducible exact bj) | with_reducible exact H | (rw [b9];exact H) | exact H
   have fj := mkA b9
   clear b9
   have H' := mkA H
   clear H
   go_enter Try.func38,Try.ntmps38
   go_wp2_with (first | ((with_reducible refine gate_dst (N := 1) rfl ?_);refine box_event ?hg (N := 1) ?hd (cs := #[vi ae,vi af,vi ag,vi ah,.slice aK au.length aM,.slice aH an.length aI,.slice aW aq.length aJ]) (t := 27) ?hr ?_;(case hd => rfl);(case hg => rfl);(case hr => first | (go_simp;done) | (go_simp;rfl));intro av hg w4 hbox hb;have ax := mkA (below_step Z6x3 hb);have ay := mkA (hbox);have aA := mkA ((Z6x17 : w.heap.size ≤ av));have aU := mkA ((Z6x17 : w.heap.size ≤ av));clear HB;have HB := ax;have ab := ay;have ju := aA;have cx := aU;clear ax ay aA aU;clear hb hbox hg) | ((with_reducible refine gate_dst (N := 2) rfl ?_);refine box_event ?hg (N := 2) ?hd (cs := #[vi 0,vi 0,vi 0,vi 0,.slice none 0 0,.slice none 0 0,.slice none 0 0]) (t := 27) ?hr ?_;(case hd => rfl);(case hg => rfl);(case hr => first | (go_simp;done) | (go_simp;rfl));intro ai hg w5 hbox hb;have ax := mkA (blk_below (g := av) (o := .cells #[vi ae,vi af,vi ag,vi ah,.slice aK au.length aM,.slice aH an.length aI,.slice aW aq.length aJ] 27 (0,0)) Z6x6 hb);have ay := mkA (below_step Z6x14 hb);have aA := mkA (hbox);have aU := mkA ((by rw [hg];exact (below_size Z6x14) : w.heap.size ≤ ai));have bf := mkA ((by rw [hg];exact (below_size Z6x14) : w.heap.size ≤ ai));have bu := mkA ((by rw [hg];exact Nat.ne_of_lt (blk_lt (g := av) (o := .cells #[vi ae,vi af,vi ag,vi ah,.slice aK au.length aM,.slice aH an.length aI,.slice aW aq.length aJ] 27 (0,0)) Z6x6) : av ≠ ai));have bA := mkA ((by rw [hg];exact Nat.ne_of_gt (blk_lt (g := av) (o := .cells #[vi ae,vi af,vi ag,vi ah,.slice aK au.length aM,.slice aH an.length aI,.slice aW aq.length aJ] 27 (0,0)) Z6x6) : ai ≠ av));clear ab;clear HB;have ab := ax;have HB := ay;have aj := aA;have jv := aU;have dX := bf;have bk := bu;have bm := bA;clear ax ay aA aU bf bu bA;clear hb hbox hg;have jU := bk.out;have jV := bm.out;obtain ⟨et,eu,ev,ew,ey,ez,e0⟩ := cz7 ab.out;obtain ⟨e1,e2,e3,e7,e8,e9,eA⟩ := fz7 ab.out) | ((with_reducible refine gate_dst (N := 3) rfl ?_);refine box_event ?hg (N := 3) ?hd (cs := #[vi 0,vi 0,vi 0,vi 0,.slice none 0 0,.slice none 0 0,.slice none 0 0]) (t := 27) ?hr ?_;(case hd => rfl);(case hg => rfl);(case hr => first | (go_simp;done) | (go_simp;rfl));intro ar hg w8 hbox hb;have ax := mkA (blk_below (g := av) (o := .cells #[vi ae,vi af,vi ag,vi ah,.slice aK au.length aM,.slice aH an.length aI,.slice aW aq.length aJ] 27 (0,0)) Z6x6 hb);have ay := mkA (blk_below (g := ai) (o := .cells #[vi 0,vi 0,vi 0,vi 0,.slice none 0 0,.slice none 0 0,.slice none 0 0] 27 (0,0)) Z6x9 hb);have aA := mkA (below_step Z6x13 hb);have aU := mkA (hbox);have bf := mkA ((by rw [hg];exact (below_size Z6x13) : w.heap.size ≤ ar));have bu := mkA ((by rw [hg];exact (below_size Z6x13) : w.heap.size ≤ ar));have bA := mkA ((by rw [hg];exact Nat.ne_of_lt (blk_lt (g := av) (o := .cells #[vi ae,vi af,vi ag,vi ah,.slice aK au.length aM,.slice aH an.length aI,.slice aW aq.length aJ] 27 (0,0)) Z6x6) : av ≠ ar));have ej := mkA ((by rw [hg];exact Nat.ne_of_gt (blk_lt (g := av) (o := .cells #[vi ae,vi af,vi ag,vi ah,.slice aK au.length aM,.slice aH an.length aI,.slice aW aq.length aJ] 27 (0,0)) Z6x6) : ar ≠ av));have jw := mkA ((by rw [hg];exact Nat.ne_of_lt (blk_lt (g := ai) (o := .cells #[vi 0,vi 0,vi 0,vi 0,.slice none 0 0,.slice none 0 0,.slice none 0 0] 27 (0,0)) Z6x9) : ai ≠ ar));have jx := mkA ((by rw [hg];exact Nat.ne_of_gt (blk_lt (g := ai) (o := .cells #[vi 0,vi 0,vi 0,vi 0,.slice none 0 0,.slice none 0 0,.slice none 0 0] 27 (0,0)) Z6x9) : ar ≠ ai));clear ab;clear aj;clear HB;have ab := ax;have aj := ay;have HB := aA;have aa := aU;have jy := bf;have eM := bu;have ak := bA;have ba := ej;have ao := jw;have bn := jx;clear ax ay aA aU bf bu bA ej jw jx;clear hb hbox hg;have jW := ba.out;have jX := ak.out;have jz := bn.out;have j2 := ao.out;obtain ⟨cN,cO,cP,cQ,cR,cS,cT⟩ := cz7 aa.out;obtain ⟨cU,cV,cW,cX,cY,cZ,c_⟩ := fz7 aa.out) | ((with_reducible refine gate_dst (N := 6) rfl ?_);refine Kd.R_lit (Kd.int .i64) _ 3 ?hg (N := 6) ?hd (xs := ([] : List Int)) (inner := []) (ok := fun _ => True) (okp := fun _ => True) ?hr ?hp (fun _ hk => hk) trivial (Below.refl _ _) (Nat.le_refl _) (by simp) ?_;(case hd => rfl);(case hg => rfl);(case hr => first | (go_simp;done) | (go_simp;rfl));(case hp => exact (Reps.none _ _));intro iJ jR cA hb hg_ hnew_;clear hg_ hnew_;(first | rw [← eh.out] at cA | (simp only [Int.reduceToNat] at cA;rw [← eh.out] at cA));have ax := mkA (Kd.R_lower cA (below_size Z6x0));have ay := mkA (blk_below (g := av) (o := .cells #[vi ae,vi af,vi ag,vi ah,.slice aK au.length aM,.slice aH an.length aI,.slice aW aq.length aJ] 27 (0,0)) (by (with_reducible repeat (first | refine blk_drewN ?_ _ | refine blk_drew ?_ | refine blk_alloc ?_ _));refine blk_far ?_ ak.out _;(with_reducible repeat (first | refine blk_drewN ?_ _ | refine blk_drew ?_ | refine blk_alloc ?_ _));refine blk_far ?_ ak.out _;(with_reducible repeat (first | refine blk_drewN ?_ _ | refine blk_drew ?_ | refine blk_alloc ?_ _));refine blk_far ?_ ak.out _;(with_reducible repeat (first | refine blk_drewN ?_ _ | refine blk_drew ?_ | refine blk_alloc ?_ _));refine blk_far ?_ ak.out _;(with_reducible repeat (first | refine blk_drewN ?_ _ | refine blk_drew ?_ | refine blk_alloc ?_ _));refine blk_far ?_ ak.out _;(with_reducible repeat (first | refine blk_drewN ?_ _ | refine blk_drew ?_ | refine blk_alloc ?_ _));refine blk_far ?_ ak.out _;(with_reducible repeat (first | refine blk_drewN ?_ _ | refine blk_drew ?_ | refine blk_alloc ?_ _));refine blk_far ?_ ak.out _;(with_reducible repeat (first | refine blk_drewN ?_ _ | refine blk_drew ?_ | refine blk_alloc ?_ _));exact ab.out) hb);have aA := mkA (blk_below (g := ai) (o := .cells #[vi 0,vi 0,vi 0,vi 0,.slice none 0 0,.slice none 0 0,.slice none 0 0] 27 (0,0)) (by (with_reducible repeat (first | refine blk_drewN ?_ _ | refine blk_drew ?_ | refine blk_alloc ?_ _));refine blk_far ?_ ao.out _;(with_reducible repeat (first | refine blk_drewN ?_ _ | refine blk_drew ?_ | refine blk_alloc ?_ _));refine blk_far ?_ ao.out _;(with_reducible repeat (first | refine blk_drewN ?_ _ | refine blk_drew ?_ | refine blk_alloc ?_ _));refine blk_far ?_ ao.out _;(with_reducible repeat (first | refine blk_drewN ?_ _ | refine blk_drew ?_ | refine blk_alloc ?_ _));refine blk_far ?_ ao.out _;(with_reducible repeat (first | refine blk_drewN ?_ _ | refine blk_drew ?_ | refine blk_alloc ?_ _));refine blk_far ?_ ao.out _;(with_reducible repeat (first | refine blk_drewN ?_ _ | refine blk_drew ?_ | refine blk_alloc ?_ _));refine blk_far ?_ ao.out _;(with_reducible repeat (first | refine blk_drewN ?_ _ | refine blk_drew ?_ | refine blk_alloc ?_ _));refine blk_far ?_ ao.out _;(with_reducible repeat (first | refine blk_drewN ?_ _ | refine blk_drew ?_ | refine blk_alloc ?_ _));exact aj.out) hb);have aU := mkA (blk_below (g := ar) (o := .cells #[vi ae,vi af,vi ag,vi ah,.slice aK au.length aM,.slice aH an.length aI,.slice aW aq.length aJ] 27 (0,0)) (by (with_reducible repeat (first | refine blk_drewN ?_ _ | refine blk_drew ?_ | refine blk_alloc ?_ _));refine blk_put (cs := #[vi ae,vi af,vi ag,vi ah,.slice aK au.length aM,.slice aH an.length aI,.slice none 0 0]) ?_ 6 _ rfl;(with_reducible repeat (first | refine blk_drewN ?_ _ | refine blk_drew ?_ | refine blk_alloc ?_ _));refine blk_put (cs := #[vi ae,vi af,vi ag,vi ah,.slice aK au.length aM,.slice none 0 0,.slice none 0 0]) ?_ 5 _ rfl;(with_reducible repeat (first | refine blk_drewN ?_ _ | refine blk_drew ?_ | refine blk_alloc ?_ _));refine blk_put (cs := #[vi ae,vi af,vi ag,vi ah,.slice none 0 0,.slice none 0 0,.slice none 0 0]) ?_ 4 _ rfl;(with_reducible repeat (first | refine blk_drewN ?_ _ | refine blk_drew ?_ | refine blk_alloc ?_ _));refine blk_put (cs := #[vi ae,vi af,vi ag,vi 0,.slice none 0 0,.slice none 0 0,.slice none 0 0]) ?_ 3 _ rfl;(with_reducible repeat (first | refine blk_drewN ?_ _ | refine blk_drew ?_ | refine blk_alloc ?_ _));refine blk_put (cs := #[vi ae,vi af,vi 0,vi 0,.slice none 0 0,.slice none 0 0,.slice none 0 0]) ?_ 2 _ rfl;(with_reducible repeat (first | refine blk_drewN ?_ _ | refine blk_drew ?_ | refine blk_alloc ?_ _));refine blk_put (cs := #[vi ae,vi 0,vi 0,vi 0,.slice none 0 0,.slice none 0 0,.slice none 0 0]) ?_ 1 _ rfl;(with_reducible repeat (first | refine blk_drewN ?_ _ | refine blk_drew ?_ | refine blk_alloc ?_ _));refine blk_put (cs := #[vi 0,vi 0,vi 0,vi 0,.slice none 0 0,.slice none 0 0,.slice none 0 0]) ?_ 0 _ rfl;(with_reducible repeat (first | refine blk_drewN ?_ _ | refine blk_drew ?_ | refine blk_alloc ?_ _));exact aa.out) hb);have bf := mkA (below_step Z6x0 hb);clear ab;clear aj;clear aa;clear HB;have bB := ax;have ab := ay;have aj := aA;have aa := aU;have HB := bf;clear ax ay aA aU bf;clear hb cA;obtain ⟨da,db,dc,dd,de,df,dg⟩ := cz7 ab.out;obtain ⟨dh,di,dj,dk,dm,dn,dp⟩ := fz7 ab.out) | ((with_reducible refine gate_builtin (b := .append) (xs := #[.tmp 6,.tmp 8]) rfl ?_);at_builtin;refine Kd.R_append_rows (Kd.int .i64) (w0 := w) w.heap.size rfl (.tmp 6) (.tmp 8) 24 3 (vi 0) 8 rfl Try.underlying24 info3 rfl (by decide) (by omega) iJ b5 au _ _ _ (fun _ => True) (fun _ => False) rfl rfl ?aO ?aR (fun _ _ h => h) (fun _ h => h.elim) ?aF ?aB ?aS ?aL ?_;(case aR => repeat (first | exact (Kd.C_below ff.out HB.out) | (with_reducible refine Kd.C_alloc ?_ _) | (with_reducible refine Kd.C_drewN ?_ _) | (with_reducible refine Kd.C_drew ?_)));(case aB => exact Z6x0);(case aF => exact (fun _ _ => trivial));(case aO => exact (by (with_reducible repeat (first | apply Kd.R_alloc | apply Kd.R_drewN | apply Kd.R_drew));exact bB.out));(case aS => exact (below_size Z6x0));(case aL => have := iH.out;omega);intro jY jZ ho hb hg hat;rw [← fi.out] at ho;have ax := mkA (blk_grown (g := av) (o := .cells #[vi ae,vi af,vi ag,vi ah,.slice aK au.length aM,.slice aH an.length aI,.slice aW aq.length aJ] 27 (0,0)) Z6x6 hg (Kd.R_ne bB.out ab.out (by decide)));have ay := mkA (blk_grown (g := ai) (o := .cells #[vi 0,vi 0,vi 0,vi 0,.slice none 0 0,.slice none 0 0,.slice none 0 0] 27 (0,0)) Z6x9 hg (Kd.R_ne bB.out aj.out (by decide)));have aA := mkA (blk_grown (g := ar) (o := .cells #[vi ae,vi af,vi ag,vi ah,.slice aK au.length aM,.slice aH an.length aI,.slice aW aq.length aJ] 27 (0,0)) Z6x12 hg (Kd.R_ne bB.out aa.out (by decide)));have aU := mkA (hb);have bf := mkA (ho);clear ab;clear aj;clear aa;clear HB;clear bB;have ab := ax;have aj := ay;have aa := aA;have HB := aU;have bc := bf;clear ax ay aA aU bf;clear ho hb hg hat;obtain ⟨aD,aE,iK⟩ := Kd.R_slice bc.out;subst iK;obtain ⟨bP,bQ,bR,bS,bT,bU,bV⟩ := cz7 aa.out;obtain ⟨bW,bX,bY,bZ,b_,ca,cb⟩ := fz7 aa.out) | ((with_reducible refine gate_dst (N := 11) rfl ?_);refine Kd.R_lit (Kd.int .i64) _ 3 ?hg (N := 11) ?hd (xs := ([] : List Int)) (inner := []) (ok := fun _ => True) (okp := fun _ => True) ?hr ?hp (fun _ hk => hk) trivial (Below.refl _ _) (Nat.le_refl _) (by simp) ?_;(case hd => rfl);(case hg => rfl);(case hr => first | (go_simp;done) | (go_simp;rfl));(case hp => exact (Reps.none _ _));intro iL kh ct hb hg_ hnew_;clear hg_ hnew_;(first | rw [← ei.out] at ct | (simp only [Int.reduceToNat] at ct;rw [← ei.out] at ct));have ax := mkA (Kd.R_elder' Z6x16 (Kd.R_base ct) hb);have ay := mkA (Kd.R_lower (Kd.R_new' ct (Kd.R_lt Z6x16)) (below_size Z6x0));have aA := mkA (blk_below (g := av) (o := .cells #[vi ae,vi af,vi ag,vi ah,.slice aK au.length aM,.slice aH an.length aI,.slice aW aq.length aJ] 27 (0,0)) Z6x18 hb);have aU := mkA (blk_below (g := ai) (o := .cells #[vi 0,vi 0,vi 0,vi 0,.slice none 0 0,.slice none 0 0,.slice none 0 0] 27 (0,0)) Z6x19 hb);have bf := mkA (blk_below (g := ar) (o := .cells #[vi ae,vi af,vi ag,vi ah,.slice aD aw.length aE,.slice aH an.length aI,.slice aW aq.length aJ] 27 (0,0)) (by (with_reducible repeat (first | refine blk_drewN ?_ _ | refine blk_drew ?_ | refine blk_alloc ?_ _));refine blk_put (cs := #[vi ae,vi af,vi ag,vi ah,.slice aK au.length aM,.slice aH an.length aI,.slice aW aq.length aJ]) ?_ 4 _ rfl;(with_reducible repeat (first | refine blk_drewN ?_ _ | refine blk_drew ?_ | refine blk_alloc ?_ _));exact aa.out) hb);have bu := mkA (below_step Z6x0 hb);clear bc;clear ab;clear aj;clear aa;clear HB;have bc := ax;have bC := ay;have ab := aA;have aj := aU;have aa := bf;have HB := bu;clear ax ay aA aU bf bu;clear hb ct;obtain ⟨dq,dr,dt,du,dv,dw,dx⟩ := cz7 ab.out;obtain ⟨dy,dz,dA,dB,dC,dD,dE⟩ := fz7 ab.out) | ((with_reducible refine gate_builtin (b := .append) (xs := #[.tmp 11,.tmp 13]) rfl ?_);at_builtin;refine Kd.R_append_rows (Kd.int .i64) (w0 := w) w.heap.size rfl (.tmp 11) (.tmp 13) 24 3 (vi 0) 8 rfl Try.underlying24 info3 rfl (by decide) (by omega) iL bd an _ _ _ (fun k_ => some k_ ≠ (.slice aD aw.length aE : Value).ownBlock) (fun _ => False) rfl rfl ?aO ?aR (fun _ _ h => h) (fun _ h => h.elim) ?aF ?aB ?aS ?aL ?_;(case aR => repeat (first | exact (Kd.C_below fg.out HB.out) | (with_reducible refine Kd.C_alloc ?_ _) | (with_reducible refine Kd.C_drewN ?_ _) | (with_reducible refine Kd.C_drew ?_)));(case aB => exact Z6x0);(case aF => exact (fun k_ hk => Kd.fresh' (Kd.R_lt (by (with_reducible repeat (first | apply Kd.R_alloc | apply Kd.R_drewN | apply Kd.R_drew));exact bc.out)) k_ hk));(case aO => exact (by (with_reducible repeat (first | apply Kd.R_alloc | apply Kd.R_drewN | apply Kd.R_drew));exact Kd.R_mono bC.out (fun _ hk => hk.2)));(case aS => exact (below_size Z6x0));(case aL => have := iI.out;omega);intro v183 ki ho hb hg hat;rw [← fj.out] at ho;have ax := mkA (blk_grown (g := av) (o := .cells #[vi ae,vi af,vi ag,vi ah,.slice aK au.length aM,.slice aH an.length aI,.slice aW aq.length aJ] 27 (0,0)) Z6x6 hg (Kd.R_ne bC.out ab.out (by decide)));have ay := mkA (blk_grown (g := ai) (o := .cells #[vi 0,vi 0,vi 0,vi 0,.slice none 0 0,.slice none 0 0,.slice none 0 0] 27 (0,0)) Z6x9 hg (Kd.R_ne bC.out aj.out (by decide)));have aA := mkA (blk_grown (g := ar) (o := .cells #[vi ae,vi af,vi ag,vi ah,.slice aD aw.length aE,.slice aH an.length aI,.slice aW aq.length aJ] 27 (0,0)) Z6x12 hg (Kd.R_ne bC.out aa.out (by decide)));have aU := mkA (Kd.R_after (ok := (fun _ => True)) (by (with_reducible repeat (first | apply Kd.R_alloc | apply Kd.R_drewN | apply Kd.R_drew));exact bc.out) hg hat);have bf := mkA (hb);have bu := mkA (ho);clear ab;clear aj;clear aa;clear bc;clear HB;clear bC;have ab := ax;have aj := ay;have aa := aA;have bc := aU;have HB := bf;have ek := bu;clear ax ay aA aU bf bu;clear ho hb hg hat;obtain ⟨aN,aQ,iM⟩ := Kd.R_slice ek.out;subst iM;obtain ⟨dF,dG,dH,dI,dJ,dK,dL⟩ := cz7 aa.out;obtain ⟨dM,dN,dO,dP,dQ,dR,dS⟩ := fz7 aa.out))
   go_loopg [4] k (fun kq v4 w' => ∃ (aT : Int) (al : List (List Int)) (a6 : Value),v4 = vi aT ∧ Aside0 (spec_l3Copy.l0 kq aT ae af ag ah au an aq ae af ag ah aw aC al = some (r1,r2,r3,r4,r5,r6,r7)) ∧ Aside0 (kq ≤ k) ∧ Aside0 (Kd.R (Kd.int .i64) 3 w' w.heap.size (fun k_ => some k_ ≠ ((.slice aN aC.length aQ) : Value).ownBlock) (.slice aD aw.length aE) aw) ∧ Aside0 (Kd.R (Kd.int .i64) 3 w' w.heap.size (fun k_ => some k_ ≠ ((.slice aD aw.length aE) : Value).ownBlock) (.slice aN aC.length aQ) aC) ∧ Aside0 (Kd.S (Kd.slice 3 (Kd.int .i64)) 24 w' w.heap.size (fun k_ => some k_ ≠ ((.slice aD aw.length aE) : Value).ownBlock ∧ some k_ ≠ ((.slice aN aC.length aQ) : Value).ownBlock) a6 al) ∧ Aside0 (w'.heap[av]? = some (.cells #[vi ae,vi af,vi ag,vi ah,(.slice aK au.length aM),(.slice aH an.length aI),(.slice aW aq.length aJ)] 27 (0,0))) ∧ Aside0 (w'.heap[ai]? = some (.cells #[vi 0,vi 0,vi 0,vi 0,(.slice none 0 0),(.slice none 0 0),(.slice none 0 0)] 27 (0,0))) ∧ Aside0 (w'.heap[ar]? = some (.cells #[vi ae,vi af,vi ag,vi ah,(.slice aD aw.length aE),(.slice aN aC.length aQ),a6] 27 (0,0))) ∧ Aside0 (Below w.heap.size w w'))
   case atStart => exact ⟨(0),(([] : List (List Int))),(.slice none 0 0),(by first | rfl | (simp;done) | (simp [*];done)),H',⟨Nat.le_refl _⟩,⟨by (with_reducible repeat (first | apply Kd.R_alloc | apply Kd.R_drewN | apply Kd.R_drew));exact Kd.R_mono (Kd.R_far (p := ⟨ar,6,none⟩) (Kd.R_far (p := ⟨ar,5,none⟩) (Kd.R_types bc.out aa.out (by decide)) (fun _ hk => hk.2) (.slice aN aC.length aQ)) (fun _ hk => hk.2) (.slice none 0 0)) (fun _ hk => hk.1.2)⟩,⟨by (with_reducible repeat (first | apply Kd.R_alloc | apply Kd.R_drewN | apply Kd.R_drew));exact Kd.R_mono (Kd.R_far (p := ⟨ar,6,none⟩) (Kd.R_far (p := ⟨ar,5,none⟩) (Kd.R_types ek.out aa.out (by decide)) (fun _ hk => hk.2) (.slice aN aC.length aQ)) (fun _ hk => hk.2) (.slice none 0 0)) (fun _ hk => hk.1)⟩,⟨by first | exact Kd.S_nil _ _ _ _ _ | exact Kd.N_nil _ _ _ _ _ | exact Kd.V_nil _ _ _ _ _ | exact Kd.Q_nil _ _ _ _ _ | exact Kd.R_nil _ _ _ _ _⟩,⟨by (with_reducible repeat (first | refine blk_drewN ?_ _ | refine blk_drew ?_ | refine blk_alloc ?_ _));refine blk_far ?_ ak.out _;(with_reducible repeat (first | refine blk_drewN ?_ _ | refine blk_drew ?_ | refine blk_alloc ?_ _));refine blk_far ?_ ak.out _;(with_reducible repeat (first | refine blk_drewN ?_ _ | refine blk_drew ?_ | refine blk_alloc ?_ _));exact ab.out⟩,⟨by (with_reducible repeat (first | refine blk_drewN ?_ _ | refine blk_drew ?_ | refine blk_alloc ?_ _));refine blk_far ?_ ao.out _;(with_reducible repeat (first | refine blk_drewN ?_ _ | refine blk_drew ?_ | refine blk_alloc ?_ _));refine blk_far ?_ ao.out _;(with_reducible repeat (first | refine blk_drewN ?_ _ | refine blk_drew ?_ | refine blk_alloc ?_ _));exact aj.out⟩,⟨by (with_reducible repeat (first | refine blk_drewN ?_ _ | refine blk_drew ?_ | refine blk_alloc ?_ _));refine blk_put (cs := #[vi ae,vi af,vi ag,vi ah,.slice aD aw.length aE,.slice aN aC.length aQ,.slice aW aq.length aJ]) ?_ 6 _ rfl;(with_reducible repeat (first | refine blk_drewN ?_ _ | refine blk_drew ?_ | refine blk_alloc ?_ _));refine blk_put (cs := #[vi ae,vi af,vi ag,vi ah,.slice aD aw.length aE,.slice aH an.length aI,.slice aW aq.length aJ]) ?_ 5 _ rfl;(with_reducible repeat (first | refine blk_drewN ?_ _ | refine blk_drew ?_ | refine blk_alloc ?_ _));exact aa.out⟩,⟨Z6x0⟩⟩
   case round =>
    clear H'
    try clear c1
    try clear c2
    try clear p2
    try clear c3
    try clear c6
    try clear c9
    try clear c10
    try clear cN cO cP cQ cR cS cT
    try clear da db dc dd de df dg
    try clear bP bQ bR bS bT bU bV
    try clear dq dr dt du dv dw dx
    try clear dF dG dH dI dJ dK dL
    try clear et eu ev ew ey ez e0
    try clear cU cV cW cX cY cZ c_
    try clear dh di dj dk dm dn dp
    try clear bW bX bY bZ b_ ca cb
    try clear dy dz dA dB dC dD dE
    try clear dM dN dO dP dQ dR dS
    try clear e1 e2 e3 e7 e8 e9 eA
    (try clear ab)
    (try clear aj)
    (try clear aa)
    obtain ⟨aT,al,a6,rfl,HA,j3,HO_173004,HO_173005,HO_173006,ab,aj,aa,HB⟩ := hrel
    cases gk with
    | zero => exact absurd HA.out (by simp [spec_l3Copy.l0])
    | succ k1 =>
     have H := HA.out;clear HA;simp only [spec_l3Copy.l0] at H
     by_cases eL : aT < (aq.length : Int)
     ·rw [if_pos eL] at H
      have c24b0 : decide (aT < (aq.length : Int)) = true := decide_eq_true eL;clear eL;obtain ⟨b4,bD⟩ : ∃ y_ : List Int,y_ = (([] : List Int)) := ⟨_,rfl⟩
      replace H : (if 0 ≤ aT then (if b4.length + (rd_L3 aq aT).length < 17592186044416 then (if al.length < 5864062014805 then (spec_l3Copy.l0 k1 (wrap64 (aT + 1)) ae af ag ah au an aq ae af ag ah aw aC (al ++ [(b4 ++ (rd_L3 aq aT))])) else (none)) else (none)) else (none)) = some (r1,r2,r3,r4,r5,r6,r7) := by first | (rw [bD];with_reducible exact H) | (have bj := (Option.bind_some _ _).symm.trans H;rw [bD];with_reducible exact bj) | (have bj := (Option.bind_some _ _).symm.trans H;with_reducible exact bj) | with_reducible exact H | (rw [bD];exact H) | exact H
      have en := mkA bD;clear bD
      by_cases gX : 0 ≤ aT
      ·rw [if_pos gX] at H
       have c25b0 : decide (0 ≤ aT) = true := decide_eq_true gX;clear gX
       by_cases gY : b4.length + (rd_L3 aq aT).length < 17592186044416
       ·rw [if_pos gY] at H
        have fk := mkA gY;clear gY;obtain ⟨cB,bE⟩ : ∃ y_ : List Int,y_ = (b4 ++ (rd_L3 aq aT)) := ⟨_,rfl⟩
        replace H : (if al.length < 5864062014805 then (spec_l3Copy.l0 k1 (wrap64 (aT + 1)) ae af ag ah au an aq ae af ag ah aw aC (al ++ [cB])) else (none)) = some (r1,r2,r3,r4,r5,r6,r7) := by first | (rw [bE];with_reducible exact H) | (have bj := (Option.bind_some _ _).symm.trans H;rw [bE];with_reducible exact bj) | (have bj := (Option.bind_some _ _).symm.trans H;with_reducible exact bj) | with_reducible exact H | (rw [bE];exact H) | exact H
        have fl := mkA bE;clear bE
        by_cases gZ : al.length < 5864062014805
        ·rw [if_pos gZ] at H
         have fm := mkA gZ;clear gZ;obtain ⟨cu,bF⟩ : ∃ y_ : List (List Int),y_ = (al ++ [cB]) := ⟨_,rfl⟩
         replace H : (spec_l3Copy.l0 k1 (wrap64 (aT + 1)) ae af ag ah au an aq ae af ag ah aw aC cu) = some (r1,r2,r3,r4,r5,r6,r7) := by first | (rw [bF];with_reducible exact H) | (have bj := (Option.bind_some _ _).symm.trans H;rw [bF];with_reducible exact bj) | (have bj := (Option.bind_some _ _).symm.trans H;with_reducible exact bj) | with_reducible exact H | (rw [bF];exact H) | exact H
         have fo := mkA bF;clear bF;have H' := mkA H;clear H;have j4 := bk.out;have j5 := bm.out;have j6 := ak.out;have j7 := ba.out;obtain ⟨g_,ha,hf,hj,hl,hn,ht⟩ := cz7 ab.out;obtain ⟨hv,hx,hy,h0,h2,h3,h4⟩ := fz7 ab.out
         try go_wp2
         have ax := mkA (Kd.R_drew HO_173004.out);have ay := mkA (Kd.R_drew HO_173005.out);have aA := mkA (Kd.S_drew HO_173006.out);have aU := mkA (blk_drew ab.out);have bf := mkA (blk_drew aj.out);have bu := mkA (blk_drew aa.out);have bA := mkA (below_drew1 HB.out);clear HO_173004;clear HO_173005;clear HO_173006;clear ab;clear aj;clear aa;clear HB;have HO_173004 := ax;have HO_173005 := ay;have HO_173006 := aA;have ab := aU;have aj := bf;have aa := bu;have HB := bA;clear ax ay aA aU bf bu bA;have eB : 0 ≤ (aT : Int) := of_decide_eq_true Z6x20;have eC : aT < (aq.length : Int) := of_decide_eq_true Z6x20;obtain ⟨bG,eD,eE,iN,bp,ck,cm⟩ := at_L3 fh.out aT eB eC;have a7 := bp
         cases iN
         replace bp := czB HB.out bp;have cn := mkA cm;have h5 := mkA ck;clear cm ck;replace eB := eq_true eB;replace eC := eq_true eC;refine start_ (n := 13) (S := fun w' => w'.cell? ⟨ar,0,none⟩ = some (vi ae) ∧ w'.cell? ⟨ar,1,none⟩ = some (vi af) ∧ w'.cell? ⟨ar,2,none⟩ = some (vi ag) ∧ w'.cell? ⟨ar,3,none⟩ = some (vi ah) ∧ w'.cell? ⟨ar,4,none⟩ = some (.slice aD aw.length aE) ∧ w'.cell? ⟨ar,5,none⟩ = some (.slice aN aC.length aQ) ∧ w'.cell? ⟨ar,6,none⟩ = some (a6) ∧ w'.cell? ⟨av,0,none⟩ = some (vi ae) ∧ w'.cell? ⟨av,1,none⟩ = some (vi af) ∧ w'.cell? ⟨av,2,none⟩ = some (vi ag) ∧ w'.cell? ⟨av,3,none⟩ = some (vi ah) ∧ w'.cell? ⟨av,4,none⟩ = some (.slice aK au.length aM) ∧ w'.cell? ⟨av,5,none⟩ = some (.slice aH an.length aI) ∧ w'.cell? ⟨av,6,none⟩ = some (.slice (some bG) aq.length aJ) ∧ w'.cell? (bG.add (aT).toNat) = some (.slice eD (rd_L3 aq aT).length eE)) (ds := [12]) #[false,false,false,false,false,false,false,false,false,false,false,false,false] (by kernel_rfl) rfl rfl ⟨(blk_cell aa.out 0).trans rfl,(blk_cell aa.out 1).trans rfl,(blk_cell aa.out 2).trans rfl,(blk_cell aa.out 3).trans rfl,(blk_cell aa.out 4).trans rfl,(blk_cell aa.out 5).trans rfl,(blk_cell aa.out 6).trans rfl,(blk_cell ab.out 0).trans rfl,(blk_cell ab.out 1).trans rfl,(blk_cell ab.out 2).trans rfl,(blk_cell ab.out 3).trans rfl,(blk_cell ab.out 4).trans rfl,(blk_cell ab.out 5).trans rfl,(blk_cell ab.out 6).trans rfl,((HB.out.cell (World.block_lt_of_cell? w _ a7)).trans a7)⟩ (fun hHeld => ?_);refine with_tabW spec_l3Copy.tab8 spec_l3Copy.bits8 (fun HT_ HW_ => ?_);generalize wr.drew = kj at HO_173004 HO_173005 HO_173006 ab aj aa HB cn bp hHeld ⊢;refine pure_ (i := 0) (N := some 24) (v := ?_) (a' := ?_) #[true,false,false,false,false,false,false,false,false,false,false,false,false] rfl rfl (any_of HT_.out (by kernel_rfl)) (fun _ _ _ h => h) (Or.inl ⟨by rfl,?_⟩) ?_ ?_
         rotate_left
         ·intro w'
          go_simp
          with_reducible rfl
         rotate_left
         ·simp only [czP]
          rfl
         refine pure_ (i := 3) (N := some 27) (v := ?_) (a' := ?_) #[true,false,false,true,false,false,false,false,false,false,false,false,false] rfl rfl (any_of HT_.out (by kernel_rfl)) (fun _ _ _ h => h) (Or.inl ⟨by rfl,?_⟩) ?_ ?_
         rotate_left
         ·intro w'
          go_simp
          with_reducible rfl
         rotate_left
         ·simp only [czP]
          rfl
         refine pure_ (i := 5) (N := some 29) (v := ?_) (a' := ?_) #[true,false,false,true,false,true,false,false,false,false,false,false,false] rfl rfl (any_of HT_.out (by kernel_rfl)) (fun _ _ _ h => h) (Or.inl ⟨by rfl,?_⟩) ?_ ?_
         rotate_left
         ·intro w'
          go_simp
          with_reducible rfl
         rotate_left
         ·simp only [czP]
          rfl
         refine take_ (i := 1) (N := some 25) (v := ?_) (a' := ?_) #[true,true,false,true,false,true,false,false,false,false,false,false,false] rfl rfl (take_ofW HT_.out HW_.out (by kernel_rfl)) (fun _ _ _ h => h) (Or.inl ⟨by rfl,?_⟩) hHeld ?_ ?_
         rotate_left
         ·rintro w' ⟨s0,s1,s2,s3,s4,s5,s6,s7,s8,s9,j8,j9,jA,jB,jC⟩
          go_simp
          with_reducible rfl
         rotate_left
         ·simp only [czP]
          rfl
         refine take_ (i := 4) (N := some 28) (v := ?_) (a' := ?_) #[true,true,false,true,true,true,false,false,false,false,false,false,false] rfl rfl (take_ofW HT_.out HW_.out (by kernel_rfl)) (fun _ _ _ h => h) (Or.inl ⟨by rfl,?_⟩) hHeld ?_ ?_
         rotate_left
         ·rintro w' ⟨s0,s1,s2,s3,s4,s5,s6,s7,s8,s9,j8,j9,jA,jB,jC⟩
          go_simp
          with_reducible rfl
         rotate_left
         ·simp only [czP]
          rfl
         refine pure_ (i := 6) (N := some 30) (v := ?_) (a' := ?_) #[true,true,false,true,true,true,true,false,false,false,false,false,false] rfl rfl (any_of HT_.out (by kernel_rfl)) (fun _ _ _ h => h) (Or.inl ⟨by rfl,?_⟩) ?_ ?_
         rotate_left
         ·intro w'
          go_simp
          with_reducible rfl
         rotate_left
         ·simp only [czP]
          rfl
         refine take_ (i := 7) (N := some 31) (v := ?_) (a' := ?_) #[true,true,false,true,true,true,true,true,false,false,false,false,false] rfl rfl (take_ofW HT_.out HW_.out (by kernel_rfl)) (fun _ _ _ h => h) (Or.inl ⟨by rfl,?_⟩) hHeld ?_ ?_
         rotate_left
         ·rintro w' ⟨s0,s1,s2,s3,s4,s5,s6,s7,s8,s9,j8,j9,jA,jB,jC⟩
          go_simp
          with_reducible rfl
         rotate_left
         ·simp only [czP]
          rfl
         refine one_ (i := 2) (N := some 26) #[true,true,true,true,true,true,true,true,false,false,false,false,false] rfl rfl (one_of HT_.out (by kernel_rfl)) (by decide) (fun K hK => ?_);refine Kd.R_lit_step (Kd.int .i64) _ 3 ?hg (N := 26) ?hd (xs := ([] : List Int)) (inner := []) (ok := fun _ => True) (okp := fun _ => True) ?hr ?hp (fun _ hk => hk) trivial (Below.refl _ _) (Nat.le_refl _) (by simp) ?_;(case hd => rfl);(case hg => rfl);(case hr => first | (go_simp;done) | (go_simp;rfl));(case hp => exact (Reps.none _ _));intro iO kk bH hb hg_ hnew_;clear hg_ hnew_
         (first | rw [← en.out] at bH | (simp only [Int.reduceToNat] at bH;rw [← en.out] at bH))
         have ax := mkA (Kd.R_elder' Z6x10 (Kd.R_base bH) hb);have ay := mkA (Kd.R_elder' Z6x11 (Kd.R_base bH) hb);have aA := mkA (Kd.S_elder' Z6x15 (Kd.R_base bH) hb);have aU := mkA (Kd.R_lower (Kd.R_new' (Kd.R_new' bH (Kd.R_lt Z6x10)) (Kd.R_lt Z6x11)) (below_size Z6x0));have bf := mkA (blk_below (g := av) (o := .cells #[vi ae,vi af,vi ag,vi ah,.slice aK au.length aM,.slice aH an.length aI,.slice (some bG) aq.length aJ] 27 (0,0)) Z6x6 hb);have bu := mkA (blk_below (g := ai) (o := .cells #[vi 0,vi 0,vi 0,vi 0,.slice none 0 0,.slice none 0 0,.slice none 0 0] 27 (0,0)) Z6x9 hb);have bA := mkA (blk_below (g := ar) (o := .cells #[vi ae,vi af,vi ag,vi ah,.slice aD aw.length aE,.slice aN aC.length aQ,a6] 27 (0,0)) Z6x12 hb);have ej := mkA (below_step Z6x0 hb);clear HO_173004;clear HO_173005;clear HO_173006;clear ab;clear aj;clear aa;clear HB;have HO_173004 := ax;have HO_173005 := ay;have HO_173006 := aA;have bI := aU;have ab := bf;have aj := bu;have aa := bA;have HB := ej;clear ax ay aA aU bf bu bA ej;clear hb bH;refine hK.out _ _ ⟨(blk_cell aa.out 0).trans rfl,(blk_cell aa.out 1).trans rfl,(blk_cell aa.out 2).trans rfl,(blk_cell aa.out 3).trans rfl,(blk_cell aa.out 4).trans rfl,(blk_cell aa.out 5).trans rfl,(blk_cell aa.out 6).trans rfl,(blk_cell ab.out 0).trans rfl,(blk_cell ab.out 1).trans rfl,(blk_cell ab.out 2).trans rfl,(blk_cell ab.out 3).trans rfl,(blk_cell ab.out 4).trans rfl,(blk_cell ab.out 5).trans rfl,(blk_cell ab.out 6).trans rfl,((HB.out.cell (World.block_lt_of_cell? w _ a7)).trans a7)⟩ (fun hHeld => ?_);clear hK K;refine norm_ (a' := ?_) ?_ ?_
         rotate_left
         ·show Act.put _ (some 26) _ = _
          simp only [czP]
          rfl
         refine one_ (i := 8) (N := some 32) #[true,true,true,true,true,true,true,true,true,false,false,false,false] rfl rfl (one_of HT_.out (by kernel_rfl)) (by decide) (fun K hK => ?_);refine Kd.R_append_rows_step (Kd.int .i64) (w0 := w) w.heap.size (by rfl) (.tmp 26) (.tmp 31) 24 3 (vi 0) 8 rfl Try.underlying24 info3 rfl (by decide) (by omega) iO b4 (rd_L3 aq aT) _ _ _ (fun k_ => some k_ ≠ (.slice aD aw.length aE : Value).ownBlock ∧ some k_ ≠ (.slice aN aC.length aQ : Value).ownBlock) (fun _ => False) rfl rfl ?aO ?aR (fun _ _ h => h) (fun _ h => h.elim) ?aF ?aB ?aS ?aL ?_
         (case aR => repeat (first | exact (Kd.C_below cn.out HB.out) | (with_reducible refine Kd.C_alloc ?_ _) | (with_reducible refine Kd.C_drewN ?_ _) | (with_reducible refine Kd.C_drew ?_)))
         (case aB => exact Z6x0)
         (case aF => exact (fun k_ hk => ⟨Kd.fresh' (Kd.R_lt Z6x10) k_ hk,Kd.fresh' (Kd.R_lt Z6x11) k_ hk⟩))
         (case aO => exact (by (with_reducible repeat (first | apply Kd.R_alloc | apply Kd.R_drewN | apply Kd.R_drew));exact Kd.R_mono bI.out (fun _ hk => ⟨hk.1.2,hk.2⟩)))
         (case aS => exact (below_size Z6x0))
         (case aL => have := fk.out;omega)
         intro j_ kl ho hb hg hat;rw [← fl.out] at ho;have ax := mkA (Kd.R_after (ok := (fun k_ => some k_ ≠ (.slice aN aC.length aQ : Value).ownBlock)) Z6x10 hg hat);have ay := mkA (Kd.R_after (ok := (fun k_ => some k_ ≠ (.slice aD aw.length aE : Value).ownBlock)) Z6x11 hg hat);have aA := mkA (Kd.S_after (ok := (fun k_ => some k_ ≠ (.slice aD aw.length aE : Value).ownBlock ∧ some k_ ≠ (.slice aN aC.length aQ : Value).ownBlock)) Z6x15 hg hat);have aU := mkA (blk_grown (g := av) (o := .cells #[vi ae,vi af,vi ag,vi ah,.slice aK au.length aM,.slice aH an.length aI,.slice (some bG) aq.length aJ] 27 (0,0)) Z6x6 hg (Kd.R_ne bI.out ab.out (by decide)));have bf := mkA (blk_grown (g := ai) (o := .cells #[vi 0,vi 0,vi 0,vi 0,.slice none 0 0,.slice none 0 0,.slice none 0 0] 27 (0,0)) Z6x9 hg (Kd.R_ne bI.out aj.out (by decide)));have bu := mkA (blk_grown (g := ar) (o := .cells #[vi ae,vi af,vi ag,vi ah,.slice aD aw.length aE,.slice aN aC.length aQ,a6] 27 (0,0)) Z6x12 hg (Kd.R_ne bI.out aa.out (by decide)));have bA := mkA (hb);have ej := mkA (ho);clear HO_173004;clear HO_173005;clear HO_173006;clear ab;clear aj;clear aa;clear HB;clear bI;have HO_173004 := ax;have HO_173005 := ay;have HO_173006 := aA;have ab := aU;have aj := bf;have aa := bu;have HB := bA;have cq := ej;clear ax ay aA aU bf bu bA ej;clear ho hb hg hat;obtain ⟨fp,fq,fs⟩ := Kd.R_slice cq.out
         (first | subst fs | (injection fs with ft iP fu;have iQ := ft.symm;have iR := fu.symm;clear ft iP fu;subst iQ;subst iR))
         refine hK.out _ _ ⟨(blk_cell aa.out 0).trans rfl,(blk_cell aa.out 1).trans rfl,(blk_cell aa.out 2).trans rfl,(blk_cell aa.out 3).trans rfl,(blk_cell aa.out 4).trans rfl,(blk_cell aa.out 5).trans rfl,(blk_cell aa.out 6).trans rfl,(blk_cell ab.out 0).trans rfl,(blk_cell ab.out 1).trans rfl,(blk_cell ab.out 2).trans rfl,(blk_cell ab.out 3).trans rfl,(blk_cell ab.out 4).trans rfl,(blk_cell ab.out 5).trans rfl,(blk_cell ab.out 6).trans rfl,((HB.out.cell (World.block_lt_of_cell? w _ a7)).trans a7)⟩ (fun hHeld => ?_);clear hK K;refine norm_ (a' := ?_) ?_ ?_
         rotate_left
         ·show Act.put _ (some 32) _ = _
          simp only [czP]
          rfl
         refine one_ (i := 9) (N := some 33) #[true,true,true,true,true,true,true,true,true,true,false,false,false] rfl rfl (one_of HT_.out (by kernel_rfl)) (by decide) (fun K hK => ?_);refine value_ (w1 := ?_) (v := ?_) (by rfl) rfl ?_ ?_
         rotate_left 2
         ·go_simp
          constructor
          ·rfl
          ·rfl
         refine hK.out _ _ ⟨(blk_cell (blk_alloc aa.out _) 0).trans rfl,(blk_cell (blk_alloc aa.out _) 1).trans rfl,(blk_cell (blk_alloc aa.out _) 2).trans rfl,(blk_cell (blk_alloc aa.out _) 3).trans rfl,(blk_cell (blk_alloc aa.out _) 4).trans rfl,(blk_cell (blk_alloc aa.out _) 5).trans rfl,(blk_cell (blk_alloc aa.out _) 6).trans rfl,(blk_cell (blk_alloc ab.out _) 0).trans rfl,(blk_cell (blk_alloc ab.out _) 1).trans rfl,(blk_cell (blk_alloc ab.out _) 2).trans rfl,(blk_cell (blk_alloc ab.out _) 3).trans rfl,(blk_cell (blk_alloc ab.out _) 4).trans rfl,(blk_cell (blk_alloc ab.out _) 5).trans rfl,(blk_cell (blk_alloc ab.out _) 6).trans rfl,(World.cell?_alloc_lt _ _ _ (World.block_lt_of_cell? _ _ (((HB.out.cell (World.block_lt_of_cell? w _ a7)).trans a7)))).trans (((HB.out.cell (World.block_lt_of_cell? w _ a7)).trans a7))⟩ (fun hHeld => ?_);clear hK K;refine norm_ (a' := ?_) ?_ ?_
         rotate_left
         ·show Act.put _ (some 33) _ = _
          simp only [czP]
          rfl
         refine one_ (i := 10) (N := some 34) #[true,true,true,true,true,true,true,true,true,true,true,false,false] rfl rfl (one_of HT_.out (by kernel_rfl)) (by decide) (fun K hK => ?_);refine Kd.S_append_step (Kd.slice 3 (Kd.int .i64)) (w0 := w) w.heap.size (by rfl) (.tmp 25) (.tmp 33) 25 24 (.slice none 0 0) 24 rfl Try.underlying25 info24 rfl (by decide) (by omega) a6 al cB [.slice fp cB.length fq] (fun k_ => some k_ ≠ (.slice aD aw.length aE : Value).ownBlock ∧ some k_ ≠ (.slice aN aC.length aQ : Value).ownBlock) (fun k_ => some k_ = (.slice fp cB.length fq : Value).ownBlock) rfl rfl ?aP (fun k_ hk_ => ((Kd.R_mono (ok' := fun k_ => ((fun k_ => some k_ ≠ (.slice aD aw.length aE : Value).ownBlock ∧ some k_ ≠ (.slice aN aC.length aQ : Value).ownBlock)) k_ ∧ some k_ ≠ (a6 : Value).ownBlock) (Kd.R_apart' (cq.out) (Kd.S_typed HO_173006.out) (by decide)) (fun k_ hk => ⟨⟨hk.1.1,hk.1.2⟩,hk.2⟩))).1 k_ hk_.symm) ?aF ?aO ?aB ?aS ?aL ?_
         (case aP => exact Kd.M_row (Kd.R_mono (Kd.R_tight rfl (Kd.R_mono (ok' := fun k_ => ((fun k_ => some k_ ≠ (.slice aD aw.length aE : Value).ownBlock ∧ some k_ ≠ (.slice aN aC.length aQ : Value).ownBlock)) k_ ∧ some k_ ≠ (a6 : Value).ownBlock) (Kd.R_apart' (cq.out) (Kd.S_typed HO_173006.out) (by decide)) (fun k_ hk => ⟨⟨hk.1.1,hk.1.2⟩,hk.2⟩))) (fun _ h_ => h_)))
         (case aB => exact Z6x0)
         (case aF => exact (fun k_ hk => ⟨Kd.fresh' (Kd.R_lt Z6x10) k_ hk,Kd.fresh' (Kd.R_lt Z6x11) k_ hk⟩))
         (case aO => exact (by (with_reducible repeat (first | apply Kd.S_alloc | apply Kd.S_drewN | apply Kd.S_drew));exact Kd.S_mono HO_173006.out (fun k_ hk => ⟨⟨hk.1.1,hk.1.2⟩,fun e_ => hk.2 e_⟩)))
         (case aS => exact (below_size Z6x0))
         (case aL => have := fm.out;omega)
         intro v193 ka ho hb hg hat;rw [← fo.out] at ho;have ax := mkA (Kd.R_over' Z6x10 (Kd.S_typed Z6x15) (by decide) hg);have ay := mkA (Kd.R_over' Z6x11 (Kd.S_typed Z6x15) (by decide) hg);have aA := mkA (blk_grown (g := av) (o := .cells #[vi ae,vi af,vi ag,vi ah,.slice aK au.length aM,.slice aH an.length aI,.slice (some bG) aq.length aJ] 27 (0,0)) Z6x6 hg (Kd.S_ne HO_173006.out ab.out (by decide)));have aU := mkA (blk_grown (g := ai) (o := .cells #[vi 0,vi 0,vi 0,vi 0,.slice none 0 0,.slice none 0 0,.slice none 0 0] 27 (0,0)) Z6x9 hg (Kd.S_ne HO_173006.out aj.out (by decide)));have bf := mkA (blk_grown (g := ar) (o := .cells #[vi ae,vi af,vi ag,vi ah,.slice aD aw.length aE,.slice aN aC.length aQ,a6] 27 (0,0)) Z6x12 hg (Kd.S_ne HO_173006.out aa.out (by decide)));have bu := mkA (hb);have bA := mkA (ho);clear HO_173004;clear HO_173005;clear ab;clear aj;clear aa;clear HB;clear HO_173006;clear cq;have HO_173004 := ax;have HO_173005 := ay;have ab := aA;have aj := aU;have aa := bf;have HB := bu;have eo := bA;clear ax ay aA aU bf bu bA;clear ho hb hg hat;obtain ⟨dT,dU,fv⟩ := Kd.S_slice eo.out
         (first | subst fv | (injection fv with ft iP fu;have iQ := ft.symm;have iR := fu.symm;clear ft iP fu;subst iQ;subst iR))
         refine hK.out _ _ ⟨(blk_cell aa.out 0).trans rfl,(blk_cell aa.out 1).trans rfl,(blk_cell aa.out 2).trans rfl,(blk_cell aa.out 3).trans rfl,(blk_cell aa.out 4).trans rfl,(blk_cell aa.out 5).trans rfl,(blk_cell aa.out 6).trans rfl,(blk_cell ab.out 0).trans rfl,(blk_cell ab.out 1).trans rfl,(blk_cell ab.out 2).trans rfl,(blk_cell ab.out 3).trans rfl,(blk_cell ab.out 4).trans rfl,(blk_cell ab.out 5).trans rfl,(blk_cell ab.out 6).trans rfl,((HB.out.cell (World.block_lt_of_cell? w _ a7)).trans a7)⟩ (fun hHeld => ?_);clear hK K;refine norm_ (a' := ?_) ?_ ?_
         rotate_left
         ·show Act.put _ (some 34) _ = _
          simp only [czP]
          rfl
         refine pure_ (i := 11) (N := some 35) (v := ?_) (a' := ?_) #[true,true,true,true,true,true,true,true,true,true,true,true,false] rfl rfl (any_of HT_.out (by kernel_rfl)) (fun _ _ _ h => h) (Or.inl ⟨by rfl,?_⟩) ?_ ?_
         rotate_left
         ·intro w'
          go_simp
          with_reducible rfl
         rotate_left
         ·simp only [czP]
          rfl
         refine last_ (i := 12) (N := none) #[true,true,true,true,true,true,true,true,true,true,true,true,true] rfl rfl (one_of HT_.out (by kernel_rfl)) (by decide) (fun K hK => ?_);have kb : ka.cell? ⟨ar,6,none⟩ = some (a6) := (blk_cell aa.out 6).trans rfl;have jD := blk_frozen aa.out 6;have h6 := ak.out;have h7 := ao.out;have h8 := ba.out;have h9 := bn.out;refine skip_ (w1 := ?_) (by rfl) rfl ?_ ?_
         rotate_left
         ·go_simp
          rfl
         refine hK.out _ _ ?_;clear hK K;refine done_ (done_of HT_.out (by kernel_rfl)) ?_
         try go_wp2
         go_roundg k1
         case measure => have := j3.out;omega
         case rel => exact ⟨(wrap64 (aT + 1)),(cu),(.slice dT cu.length dU),(by first | rfl | (simp;done) | (simp [*];done)),H',⟨by have := j3.out;omega⟩,⟨by (with_reducible repeat (first | apply Kd.R_alloc | apply Kd.R_drewN | apply Kd.R_drew));exact Kd.R_mono (Kd.R_far (p := ⟨ar,6,none⟩) (Kd.R_types HO_173004.out aa.out (by decide)) (fun _ hk => hk.2) (.slice dT cu.length dU)) (fun _ hk => hk.1.1)⟩,⟨by (with_reducible repeat (first | apply Kd.R_alloc | apply Kd.R_drewN | apply Kd.R_drew));exact Kd.R_mono (Kd.R_far (p := ⟨ar,6,none⟩) (Kd.R_types HO_173005.out aa.out (by decide)) (fun _ hk => hk.2) (.slice dT cu.length dU)) (fun _ hk => hk.1.1)⟩,⟨by (with_reducible repeat (first | apply Kd.S_alloc | apply Kd.S_drewN | apply Kd.S_drew));exact Kd.S_mono (Kd.S_far (p := ⟨ar,6,none⟩) (Kd.S_types eo.out aa.out (by decide)) (fun _ hk => hk.2) (.slice dT cu.length dU)) (fun _ hk => ⟨hk.1.1,hk.1.2⟩)⟩,⟨Z6x18⟩,⟨Z6x19⟩,⟨by (with_reducible repeat (first | refine blk_drewN ?_ _ | refine blk_drew ?_ | refine blk_alloc ?_ _));refine blk_put (cs := #[vi ae,vi af,vi ag,vi ah,.slice aD aw.length aE,.slice aN aC.length aQ,a6]) ?_ 6 _ rfl;(with_reducible repeat (first | refine blk_drewN ?_ _ | refine blk_drew ?_ | refine blk_alloc ?_ _));exact aa.out⟩,⟨Z6x0⟩⟩
        ·rw [if_neg gZ] at H
         exact absurd H (by simp)
       ·rw [if_neg gY] at H
        exact absurd H (by simp)
      ·rw [if_neg gX] at H
       exact absurd H (by simp)
     ·rw [if_neg eL] at H
      have c24b0 : decide (aT < (aq.length : Int)) = false := decide_eq_false eL;clear eL;simp only [Option.some.injEq,Prod.mk.injEq] at H;obtain ⟨rfl,rfl,rfl,rfl,rfl,rfl,rfl⟩ := H;have jE := bk.out;have jF := bm.out;have jG := ak.out;have jH := ba.out;obtain ⟨hA,hC,hD,hE,hF,hG,hJ⟩ := cz7 ab.out;obtain ⟨hL,hM,hP,hQ,hR,hS,hT⟩ := fz7 ab.out;have jI := bn.out;have jJ := ao.out;obtain ⟨hU,hV,hW,hX,hY,hZ,ia⟩ := cz7 aa.out;obtain ⟨ib,ic,ie,ig,ih,ij,ik⟩ := fz7 aa.out;obtain ⟨il,im,iq,ir,iu,iv,iw⟩ := cz7 aj.out;obtain ⟨ix,iy,iz,iA,iB,iC,iD⟩ := fz7 aj.out;obtain ⟨dV,dW,iS⟩ := Kd.S_slice HO_173006.out;subst iS
      go_wp2
      refine bodyPost_ret (results_cell_row rfl _ _ ai 27 #[vi ae,vi af,vi ag,vi ah,.slice aD aw.length aE,.slice aN aC.length aQ,.slice dV al.length dW] (0,0) _ rfl (by (with_reducible repeat (first | refine blk_drewN ?_ _ | refine blk_drew ?_ | refine blk_alloc ?_ _));refine blk_put (cs := #[vi ae,vi af,vi ag,vi ah,.slice aD aw.length aE,.slice aN aC.length aQ,.slice none 0 0]) ?_ 6 _ rfl;(with_reducible repeat (first | refine blk_drewN ?_ _ | refine blk_drew ?_ | refine blk_alloc ?_ _));refine blk_put (cs := #[vi ae,vi af,vi ag,vi ah,.slice aD aw.length aE,.slice none 0 0,.slice none 0 0]) ?_ 5 _ rfl;(with_reducible repeat (first | refine blk_drewN ?_ _ | refine blk_drew ?_ | refine blk_alloc ?_ _));refine blk_put (cs := #[vi ae,vi af,vi ag,vi ah,.slice none 0 0,.slice none 0 0,.slice none 0 0]) ?_ 4 _ rfl;(with_reducible repeat (first | refine blk_drewN ?_ _ | refine blk_drew ?_ | refine blk_alloc ?_ _));refine blk_put (cs := #[vi ae,vi af,vi ag,vi 0,.slice none 0 0,.slice none 0 0,.slice none 0 0]) ?_ 3 _ rfl;(with_reducible repeat (first | refine blk_drewN ?_ _ | refine blk_drew ?_ | refine blk_alloc ?_ _));refine blk_put (cs := #[vi ae,vi af,vi 0,vi 0,.slice none 0 0,.slice none 0 0,.slice none 0 0]) ?_ 2 _ rfl;(with_reducible repeat (first | refine blk_drewN ?_ _ | refine blk_drew ?_ | refine blk_alloc ?_ _));refine blk_put (cs := #[vi ae,vi 0,vi 0,vi 0,.slice none 0 0,.slice none 0 0,.slice none 0 0]) ?_ 1 _ rfl;(with_reducible repeat (first | refine blk_drewN ?_ _ | refine blk_drew ?_ | refine blk_alloc ?_ _));refine blk_put (cs := #[vi 0,vi 0,vi 0,vi 0,.slice none 0 0,.slice none 0 0,.slice none 0 0]) ?_ 0 _ rfl;(with_reducible repeat (first | refine blk_drewN ?_ _ | refine blk_drew ?_ | refine blk_alloc ?_ _));exact aj.out) Try.underlying27 rfl (by kernel_rfl)) rfl ?_;exact ⟨_,_,_,Z6x8,by (with_reducible repeat (first | apply Kd.R_alloc | apply Kd.R_drewN | apply Kd.R_drew));exact Kd.R_mono (Kd.R_far (p := ⟨ai,6,none⟩) (Kd.R_far (p := ⟨ai,5,none⟩) (Kd.R_far (p := ⟨ai,4,none⟩) (Kd.R_far (p := ⟨ai,3,none⟩) (Kd.R_far (p := ⟨ai,2,none⟩) (Kd.R_far (p := ⟨ai,1,none⟩) (Kd.R_far (p := ⟨ai,0,none⟩) (Kd.R_types HO_173004.out aj.out (by decide)) (fun _ hk => hk.2) (vi ae)) (fun _ hk => hk.2) (vi af)) (fun _ hk => hk.2) (vi ag)) (fun _ hk => hk.2) (vi ah)) (fun _ hk => hk.2) (.slice aD aw.length aE)) (fun _ hk => hk.2) (.slice aN aC.length aQ)) (fun _ hk => hk.2) (.slice dV al.length dW)) (fun _ hk => hk.1),by (with_reducible repeat (first | apply Kd.R_alloc | apply Kd.R_drewN | apply Kd.R_drew));exact Kd.R_mono (Kd.R_far (p := ⟨ai,6,none⟩) (Kd.R_far (p := ⟨ai,5,none⟩) (Kd.R_far (p := ⟨ai,4,none⟩) (Kd.R_far (p := ⟨ai,3,none⟩) (Kd.R_far (p := ⟨ai,2,none⟩) (Kd.R_far (p := ⟨ai,1,none⟩) (Kd.R_far (p := ⟨ai,0,none⟩) (Kd.R_types HO_173005.out aj.out (by decide)) (fun _ hk => hk.2) (vi ae)) (fun _ hk => hk.2) (vi af)) (fun _ hk => hk.2) (vi ag)) (fun _ hk => hk.2) (vi ah)) (fun _ hk => hk.2) (.slice aD aw.length aE)) (fun _ hk => hk.2) (.slice aN aC.length aQ)) (fun _ hk => hk.2) (.slice dV al.length dW)) (fun _ hk => hk.1),by (with_reducible repeat (first | apply Kd.S_alloc | apply Kd.S_drewN | apply Kd.S_drew));exact Kd.S_mono (Kd.S_far (p := ⟨ai,6,none⟩) (Kd.S_far (p := ⟨ai,5,none⟩) (Kd.S_far (p := ⟨ai,4,none⟩) (Kd.S_far (p := ⟨ai,3,none⟩) (Kd.S_far (p := ⟨ai,2,none⟩) (Kd.S_far (p := ⟨ai,1,none⟩) (Kd.S_far (p := ⟨ai,0,none⟩) (Kd.S_types HO_173006.out aj.out (by decide)) (fun _ hk => hk.2) (vi ae)) (fun _ hk => hk.2) (vi af)) (fun _ hk => hk.2) (vi ag)) (fun _ hk => hk.2) (vi ah)) (fun _ hk => hk.2) (.slice aD aw.length aE)) (fun _ hk => hk.2) (.slice aN aC.length aQ)) (fun _ hk => hk.2) (.slice dV al.length dW)) (fun _ hk => ⟨hk.1.1,hk.1.2⟩),Z6x0⟩
  ·rw [if_neg c3] at H
   exact absurd H (by simp)
 ·rw [if_neg c2] at H
  exact absurd H (by simp)


def spec_l1Byte.f (az : List Int) (a8 : Int) (aG : Int) : Option (Int × Int × Int) := if a8 < (az.length : Int) then (if 0 ≤ a8 then (some (Go.bits .and .i64 (wrap64 ((Go.bits .and .i64 (Go.bits .xor .i64 ((wrap64 ((wrap64 (aG * 6364136223846793005)) + 1442695040888963407)) / 8589934592) ((wrap64 ((wrap64 (aG * 6364136223846793005)) + 1442695040888963407)) / 35184372088832)) 255) + (wrap64 (rd az a8)))) 255,wrap64 (a8 + 1),wrap64 ((wrap64 (aG * 6364136223846793005)) + 1442695040888963407))) else (none)) else (some (Go.bits .and .i64 (Go.bits .xor .i64 ((wrap64 ((wrap64 (aG * 6364136223846793005)) + 1442695040888963407)) / 8589934592) ((wrap64 ((wrap64 (aG * 6364136223846793005)) + 1442695040888963407)) / 35184372088832)) 255,a8,wrap64 ((wrap64 (aG * 6364136223846793005)) + 1442695040888963407)))
theorem spec_l1Byte.calls (g : Nat) (az : List Int) (a8 : Int) (aG : Int) (r1 : Int) (r2 : Int) (r3 : Int) (w0 w : World) (hI : IsS95 w0 w g az a8 aG) (hB : Below w0.heap.size w0 w) (h : spec_l1Byte.f az a8 aG = some (r1,r2,r3)) :
  Calls Try.prog 68 #[.pointer (some ⟨g,0,none⟩)] w fun e w' => e = .returned (vi r1) ∧ IsS95 w0 w' g az r2 r3 ∧ Below w0.heap.size w0 w' ∧ KeepBut w w' g none := by
 have b2 := mkA hI
 have HK := mkA (KeepBut.refl w g none)
 have HL := mkA hB.size
 clear hI
 have jK := mkA hB.size
 have HB := mkA hB
 clear hB
 have H := h
 unfold spec_l1Byte.f at H
 clear h
 by_cases c2 : a8 < (az.length : Int)
 ·rw [if_pos c2] at H
  have c2b0 : decide (a8 < (az.length : Int)) = true := decide_eq_true c2
  clear c2
  by_cases c3 : 0 ≤ a8
  ·rw [if_pos c3] at H
   have c3b0 : decide (0 ≤ a8) = true := decide_eq_true c3
   clear c3
   simp only [Option.some.injEq,Prod.mk.injEq] at H
   obtain ⟨rfl,rfl,rfl⟩ := H
   obtain ⟨iT,iU,cv,iV,eF⟩ := b2.out
   have iW := cellS95_0 cv
   have iX := cellS95_1 cv
   have iY := cellS95_2 cv
   have iZ := blk_frozen cv 1
   have i_ := blk_frozen cv 2
   clear cv iV
   have eG : 0 ≤ (a8 : Int) := of_decide_eq_true Z6x20
   have eH : a8 < (az.length : Int) := of_decide_eq_true Z6x20
   obtain ⟨fw,ja,bb⟩ := Kd.at_int eF a8 eG eH
   cases ja
   have bq : fw.block ≠ g := Nat.ne_of_lt (Nat.lt_of_lt_of_le (by have := World.block_lt_of_cell? _ _ bb;first | rwa [add_block] at this | exact this) (IsS95.ge b2.out))
   replace bb := pw_cell_below HB.out bb
   replace bb := (cell_far (p := ⟨g,2,none⟩) (by first | (rw [add_block];exact bq) | (show (Addr.add _ _).block ≠ _;rw [add_block];exact bq) | exact bq) (vi (wrap64 ((wrap64 (aG * 6364136223846793005)) + 1442695040888963407)))).trans bb
   (try have iE := fun (n_ : Nat) => (show (((w.drewN n_).setCell ⟨g,2,none⟩ (vi (wrap64 ((wrap64 (aG * 6364136223846793005)) + 1442695040888963407))))).cell? _ = some _ from bb))
   clear bq
   replace eG := eq_true eG
   replace eH := eq_true eH
   go_enter Try.func68,Try.ntmps68
   go_wp2
   repeat (go_quiet (fail);try go_wp2)
   go_ret
   exact ⟨Z6x8,Z6x2,Z6x1,Z6x4⟩
  ·rw [if_neg c3] at H
   exact absurd H (by simp)
 ·rw [if_neg c2] at H
  have c2b0 : decide (a8 < (az.length : Int)) = false := decide_eq_false c2
  clear c2
  simp only [Option.some.injEq,Prod.mk.injEq] at H
  obtain ⟨rfl,rfl,rfl⟩ := H
  obtain ⟨jb,jc,cw,jd,je⟩ := b2.out
  have jf := cellS95_0 cw
  have jg := cellS95_1 cw
  have jh := cellS95_2 cw
  have ji := blk_frozen cw 1
  have jj := blk_frozen cw 2
  clear cw jd
  go_enter Try.func68,Try.ntmps68
  go_wp2
  repeat (go_quiet (fail);try go_wp2)
  go_ret
  exact ⟨Z6x8,Z6x2,Z6x1,Z6x4⟩

def spec_l1Below.f (az : List Int) (a8 : Int) (aG : Int) (a1 : Int) : Option (Int × Int × Int) := if a1 ≤ 0 then (some (0,a8,aG)) else (if a1 ≤ 256 then ((spec_l1Byte.f az a8 aG).bind fun cC => (if a1 = 0 then (none) else (some (Int.tmod cC.1 a1,cC.2.1,cC.2.2)))) else ((spec_l1Byte.f az a8 aG).bind fun cD => ((spec_l1Byte.f az cD.2.1 cD.2.2).bind fun cE => ((spec_l1Byte.f az cE.2.1 cE.2.2).bind fun cF => ((spec_l1Byte.f az cF.2.1 cF.2.2).bind fun cG => (if a1 = 0 then (none) else (some (Int.tmod (wrap64 ((wrap64 ((wrap64 ((wrap64 (cD.1 * 16777216)) + (wrap64 (cE.1 * 65536)))) + (wrap64 (cF.1 * 256)))) + cG.1)) a1,cG.2.1,cG.2.2))))))))
theorem spec_l1Below.calls (g : Nat) (az : List Int) (a8 : Int) (aG : Int) (a1 : Int) (r1 : Int) (r2 : Int) (r3 : Int) (w0 w : World) (hI : IsS95 w0 w g az a8 aG) (hB : Below w0.heap.size w0 w) (h : spec_l1Below.f az a8 aG a1 = some (r1,r2,r3)) :
  Calls Try.prog 34 #[.pointer (some ⟨g,0,none⟩),vi a1] w fun e w' => e = .returned (vi r1) ∧ IsS95 w0 w' g az r2 r3 ∧ Below w0.heap.size w0 w' ∧ KeepBut w w' g none := by
 have b2 := mkA hI
 have HK := mkA (KeepBut.refl w g none)
 have HL := mkA hB.size
 clear hI
 have jK := mkA hB.size
 have HB := mkA hB
 clear hB
 have H := h
 unfold spec_l1Below.f at H
 clear h
 by_cases c3 : a1 ≤ 0
 ·rw [if_pos c3] at H
  have c3b0 : decide (a1 ≤ 0) = true := decide_eq_true c3
  clear c3
  simp only [Option.some.injEq,Prod.mk.injEq] at H
  obtain ⟨rfl,rfl,rfl⟩ := H
  go_enter Try.func34,Try.ntmps34
  go_wp2
  go_ret
  exact ⟨Z6x8,Z6x2,Z6x1,Z6x4⟩
 ·rw [if_neg c3] at H
  have c3b0 : decide (a1 ≤ 0) = false := decide_eq_false c3
  clear c3
  by_cases c4 : a1 ≤ 256
  ·rw [if_pos c4] at H
   have c4b0 : decide (a1 ≤ 256) = true := decide_eq_true c4
   clear c4
   replace H := Option.bind_eq_some_iff.mp H
   obtain ⟨⟨t196,t197,t198⟩,jL,H⟩ := H
   try dsimp only at H
   have A5 := mkA jL
   clear jL
   by_cases c6 : a1 = 0
   ·rw [if_pos c6] at H
    exact absurd H (by simp)
   ·rw [if_neg c6] at H
    have c6b0 : (a1 == 0) = false := beq_eq_false_iff_ne.mpr c6;have c6b1 : (a1 != 0) = true := bne_iff_ne.mpr c6;simp only [Option.some.injEq,Prod.mk.injEq] at H;obtain ⟨rfl,rfl,rfl⟩ := H
    go_enter Try.func34,Try.ntmps34
    go_wp2_with (first | ((with_reducible refine gate_callee (f := 68) rfl ?_);refine goesL_ (some 14) rfl rfl Try.func68 (by kernel_rfl) rfl #[.pointer (some ⟨g,0,none⟩)] rfl Z6x5 ?_;(with_reducible refine (spec_l1Byte.calls g az a8 aG t196 t197 t198 w0 _ ?aY ?aZ A5.out).mono ?_);(case aY => exact Z6x2);(case aZ => exact Z6x1);rintro e w7 ⟨rfl,hi,hb,hk⟩;refine ⟨_,rfl,?_⟩;have ax := mkA (KeepBut.trans Z6x4 hk (.inl rfl));have ay := mkA (hb);have aA := mkA (hi);clear HK;clear HB;clear b2;have HK := ax;have HB := ay;have b2 := aA;clear ax ay aA;(try clear hb);(try clear eK);(try clear hk);(try clear hi)))
    go_ret
    exact ⟨Z6x8,Z6x2,Z6x1,Z6x4⟩
  ·rw [if_neg c4] at H
   have c4b0 : decide (a1 ≤ 256) = false := decide_eq_false c4
   clear c4
   replace H := Option.bind_eq_some_iff.mp H
   obtain ⟨⟨t199,t200,t201⟩,eR,H⟩ := H
   try dsimp only at H
   have A8 := mkA eR
   clear eR
   replace H := Option.bind_eq_some_iff.mp H
   obtain ⟨⟨t202,t203,t204⟩,jM,H⟩ := H
   try dsimp only at H
   have A9 := mkA jM
   clear jM
   replace H := Option.bind_eq_some_iff.mp H
   obtain ⟨⟨t205,t206,t207⟩,fx,H⟩ := H
   try dsimp only at H
   have kc := mkA fx
   clear fx
   replace H := Option.bind_eq_some_iff.mp H
   obtain ⟨⟨t208,t209,t210⟩,fy,H⟩ := H
   try dsimp only at H
   have ke := mkA fy
   clear fy
   by_cases iF : a1 = 0
   ·rw [if_pos iF] at H
    exact absurd H (by simp)
   ·rw [if_neg iF] at H
    have c12b0 : (a1 == 0) = false := beq_eq_false_iff_ne.mpr iF;have c12b1 : (a1 != 0) = true := bne_iff_ne.mpr iF;simp only [Option.some.injEq,Prod.mk.injEq] at H;obtain ⟨rfl,rfl,rfl⟩ := H
    go_enter Try.func34,Try.ntmps34
    go_wp2_with (first | ((with_reducible refine gate_callee (f := 68) rfl ?_);refine goesL_ (some 18) rfl rfl Try.func68 (by kernel_rfl) rfl #[.pointer (some ⟨g,0,none⟩)] rfl Z6x5 ?_;(with_reducible refine (spec_l1Byte.calls g az a8 aG t199 t200 t201 w0 _ ?aY ?aZ A8.out).mono ?_);(case aY => exact Z6x2);(case aZ => exact Z6x1);rintro e km ⟨rfl,hi,hb,hk⟩;refine ⟨_,rfl,?_⟩;have ax := mkA (KeepBut.trans Z6x4 hk (.inl rfl));have ay := mkA (hb);have aA := mkA (hi);clear HK;clear HB;clear b2;have HK := ax;have HB := ay;have b2 := aA;clear ax ay aA;(try clear hb);(try clear eK);(try clear hk);(try clear hi)) | ((with_reducible refine gate_callee (f := 68) rfl ?_);refine goesL_ (some 20) rfl rfl Try.func68 (by kernel_rfl) rfl #[.pointer (some ⟨g,0,none⟩)] rfl Z6x5 ?_;(with_reducible refine (spec_l1Byte.calls g az t200 t201 t202 t203 t204 w0 _ ?aY ?aZ A9.out).mono ?_);(case aY => exact Z6x2);(case aZ => exact Z6x1);rintro e jS ⟨rfl,hi,hb,hk⟩;refine ⟨_,rfl,?_⟩;have ax := mkA (KeepBut.trans Z6x4 hk (.inl rfl));have ay := mkA (hb);have aA := mkA (hi);clear HK;clear HB;clear b2;have HK := ax;have HB := ay;have b2 := aA;clear ax ay aA;(try clear hb);(try clear eK);(try clear hk);(try clear hi)) | ((with_reducible refine gate_callee (f := 68) rfl ?_);refine goesL_ (some 22) rfl rfl Try.func68 (by kernel_rfl) rfl #[.pointer (some ⟨g,0,none⟩)] rfl Z6x5 ?_;(with_reducible refine (spec_l1Byte.calls g az t203 t204 t205 t206 t207 w0 _ ?aY ?aZ kc.out).mono ?_);(case aY => exact Z6x2);(case aZ => exact Z6x1);rintro e jZ ⟨rfl,hi,hb,hk⟩;refine ⟨_,rfl,?_⟩;have ax := mkA (KeepBut.trans Z6x4 hk (.inl rfl));have ay := mkA (hb);have aA := mkA (hi);clear HK;clear HB;clear b2;have HK := ax;have HB := ay;have b2 := aA;clear ax ay aA;(try clear hb);(try clear eK);(try clear hk);(try clear hi)) | ((with_reducible refine gate_callee (f := 68) rfl ?_);refine goesL_ (some 24) rfl rfl Try.func68 (by kernel_rfl) rfl #[.pointer (some ⟨g,0,none⟩)] rfl Z6x5 ?_;(with_reducible refine (spec_l1Byte.calls g az t206 t207 t208 t209 t210 w0 _ ?aY ?aZ ke.out).mono ?_);(case aY => exact Z6x2);(case aZ => exact Z6x1);rintro e jT ⟨rfl,hi,hb,hk⟩;refine ⟨_,rfl,?_⟩;have ax := mkA (KeepBut.trans Z6x4 hk (.inl rfl));have ay := mkA (hb);have aA := mkA (hi);clear HK;clear HB;clear b2;have HK := ax;have HB := ay;have b2 := aA;clear ax ay aA;(try clear hb);(try clear eK);(try clear hk);(try clear hi)))
    go_ret
    exact ⟨Z6x8,Z6x2,Z6x1,Z6x4⟩

def spec_l1PickInt.f (az : List Int) (a8 : Int) (aG : Int) (l1 : List Int) : Option (Int × Int × Int) := (spec_l1Below.f az a8 aG (l1.length : Int)).bind fun bJ => (if 0 ≤ bJ.1 then (if bJ.1 < (l1.length : Int) then (some (rd l1 bJ.1,bJ.2.1,bJ.2.2)) else (none)) else (none))
theorem spec_l1PickInt.calls (g : Nat) (az : List Int) (a8 : Int) (aG : Int) (A1 : Option Addr) (c1 : Nat) (l1 : List Int) (r1 : Int) (r2 : Int) (r3 : Int) (w0 w : World) (hI : IsS95 w0 w g az a8 aG) (hB : Below w0.heap.size w0 w) (jN : Kd.C (Kd.int .i64) w A1 l1.length l1) (jO : l1.length ≤ c1) (jk : ∀ ad,A1 = some ad → 0 < l1.length → ad.block ≠ g) (h : spec_l1PickInt.f az a8 aG l1 = some (r1,r2,r3)) :
  Calls Try.prog 39 #[.pointer (some ⟨g,0,none⟩),.slice A1 l1.length c1] w fun e w' => e = .returned (vi r1) ∧ IsS95 w0 w' g az r2 r3 ∧ Below w0.heap.size w0 w' ∧ KeepBut w w' g none := by
 have kf := mkA jN
 have kn := mkA jO
 clear jN jO
 have b2 := mkA hI
 have HK := mkA (KeepBut.refl w g none)
 have HL := mkA hB.size
 clear hI
 have jK := mkA hB.size
 have HB := mkA hB
 clear hB
 have H := h
 unfold spec_l1PickInt.f at H
 clear h
 replace H := Option.bind_eq_some_iff.mp H
 obtain ⟨⟨t211,t212,t213⟩,jP,H⟩ := H
 try dsimp only at H
 have A3 := mkA jP
 clear jP
 by_cases c4 : 0 ≤ t211
 ·rw [if_pos c4] at H
  have c4b0 : decide (0 ≤ t211) = true := decide_eq_true c4
  clear c4
  by_cases c5 : t211 < (l1.length : Int)
  ·rw [if_pos c5] at H
   have c5b0 : decide (t211 < (l1.length : Int)) = true := decide_eq_true c5
   clear c5
   simp only [Option.some.injEq,Prod.mk.injEq] at H
   obtain ⟨rfl,rfl,rfl⟩ := H
   go_enter Try.func39,Try.ntmps39
   go_wp2_with (first | ((with_reducible refine gate_callee (f := 34) rfl ?_);refine goesL_ (some 9) rfl rfl Try.func34 (by kernel_rfl) rfl #[.pointer (some ⟨g,0,none⟩),vi (l1.length : Int)] rfl Z6x5 ?_;(with_reducible refine (spec_l1Below.calls g az a8 aG (l1.length : Int) t211 t212 t213 w0 _ ?aY ?aZ A3.out).mono ?_);(case aY => exact Z6x2);(case aZ => exact Z6x1);rintro e w6 ⟨rfl,hi,hb,hk⟩;refine ⟨_,rfl,?_⟩;have ax := mkA (KeepBut.trans Z6x4 hk (.inl rfl));have ay := mkA (hb);have aA := mkA (hi);clear HK;clear HB;clear b2;have HK := ax;have HB := ay;have b2 := aA;clear ax ay aA;(try clear hb);(try clear eK);(try clear hk);(try clear hi);have eI : 0 ≤ (t211 : Int) := of_decide_eq_true Z6x20;have eJ : t211 < (l1.length : Int) := of_decide_eq_true Z6x20;obtain ⟨fA,jl,cr⟩ := Kd.at_int kf.out t211 eI eJ;cases jl;replace cr := keep_cell HK.out cr (by first | (rw [add_block];exact jk _ rfl (by omega)) | exact jk _ rfl (by omega) | exact jk fA rfl (by omega));replace eI := eq_true eI;replace eJ := eq_true eJ))
   go_ret
   exact ⟨Z6x8,Z6x2,Z6x1,Z6x4⟩
  ·rw [if_neg c5] at H
   exact absurd H (by simp)
 ·rw [if_neg c4] at H
  exact absurd H (by simp)

end Go.Proofs.Ytdciagkholijlaa.PFnEntries
