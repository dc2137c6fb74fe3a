-- Written by this session's changed copy of the kit's printer (wip/patch_print.py): not the kit's own print.
import Derived.Test.YtdciagkholijlaaPFnEntriesx0
import Derived.Test.YtdciagkholijlaaPFnEntriesx2
import Derived.Test.YtdciagkholijlaaPFnEntriesx12
import Derived.Test.YtdciagkholijlaaPFnEntriesx13
namespace Go.Proofs.Ytdciagkholijlaa.PFnEntries
open Go.RowKit Go.Proofs.YtdciagkholijlaaW.PrintWords Go.Proofs.YtdciagkholijlaaW.PrintLast Go.Proofs.YtdciagkholijlaaW.PrintMore
attribute [local go_sem] max2_int min2_int max_two min_two max_three min_three max_four min_four   -- for this text's walks alone
set_option linter.unusedVariables false
set_option linter.unusedSimpArgs false
set_option maxHeartbeats 8000000
set_option maxRecDepth 100000
theorem Z14x0 {p : Prop} (h : p := by repeat (first | (with_reducible first | exact HB.out | apply below_alloc | apply pw_below_drewN | apply below_drew1 | refine below_set ?_ b4.out | refine below_set ?_ dq.out | refine below_set ?_ dZ.out) | exact HB.out)) : p := h
theorem Z14x1 {p : Prop} (h : p := by repeat (first | (with_reducible first | exact HB.out | apply below_alloc | apply pw_below_drewN | apply below_drew1) | exact HB.out)) : p := h
theorem Z14x2 {p : Prop} (h : p := by (try simp only [List.map_toArray,List.map_cons,List.map_nil]);first | done | rfl | (simp only [List.length_drop,List.length_take];rfl)) : p := h
theorem Z14x3 {p : Prop} (h : p := by (with_reducible repeat (first | refine blk_drewN ?_ _ | refine blk_drew ?_ | refine blk_alloc ?_ _));exact af.out) : p := h
theorem Z14x4 {p : Prop} (h : p := by (with_reducible repeat (first | refine blk_drewN ?_ _ | refine blk_drew ?_ | refine blk_alloc ?_ _));exact ai.out) : p := h
theorem Z14x5 {p : Prop} (h : p := by repeat (first | (with_reducible first | exact HB.out | apply below_alloc | apply pw_below_drewN | apply below_drew1 | refine below_set ?_ b4.out | refine below_set ?_ dq.out) | exact HB.out)) : p := h
theorem Z14x6 {p : Prop} (h : p := by repeat (first | exact (Kd.C_below gb.out HB.out) | (with_reducible refine Kd.C_alloc ?_ _) | (with_reducible refine Kd.C_drewN ?_ _) | (with_reducible refine Kd.C_drew ?_))) : p := h
theorem Z14x7 {p : Prop} (h : p := by repeat (first | (with_reducible first | exact HB.out | apply below_alloc | apply pw_below_drewN | apply below_drew1 | refine below_set ?_ b4.out) | exact HB.out)) : p := h
theorem Z14x8 {p : Prop} (h : p := by (with_reducible repeat (first | apply Kd.R_alloc | apply Kd.R_drewN | apply Kd.R_drew));exact HO_428004.out) : p := h
theorem Z14x9 {p : Prop} (h : p := by (with_reducible repeat (first | apply Kd.R_alloc | apply Kd.R_drewN | apply Kd.R_drew));exact HO_428005.out) : p := h
theorem Z14x10 {p : Prop} (h : p := by (with_reducible repeat (first | apply Kd.R_alloc | apply Kd.R_drewN | apply Kd.R_drew));exact (Kd.R_mono (Kd.R_far (p := ⟨aj,4,none⟩) (Kd.R_types bb.out aa.out (by decide)) (fun _ hk => hk.2) (.slice a8 ar.length aA)) (fun _ h_ => h_.1))) : p := h
theorem Z14x11 {p : Prop} (h : p := by (with_reducible repeat (first | refine blk_drewN ?_ _ | refine blk_drew ?_ | refine blk_alloc ?_ _));refine blk_far ?_ ad.out _;(with_reducible repeat (first | refine blk_drewN ?_ _ | refine blk_drew ?_ | refine blk_alloc ?_ _));exact af.out) : p := h
theorem Z14x12 {p : Prop} (h : p := by (with_reducible repeat (first | refine blk_drewN ?_ _ | refine blk_drew ?_ | refine blk_alloc ?_ _));refine blk_far ?_ ae.out _;(with_reducible repeat (first | refine blk_drewN ?_ _ | refine blk_drew ?_ | refine blk_alloc ?_ _));exact ai.out) : p := h

def impl_SetJoin.j0 : Nat → List (S70) → List (S70) → Bool → Option ((List (S70)) × Bool)
 | 0,_,_,_ => none
 | k + 1,x0,x1,gf => if gf = true then (some (([] : List (S70)),false)) else ((impl_copySet.f x0).bind fun bg => (if bg.length + x1.length < 8796093022208 then ((impl_union.f k (bg ++ x1)).bind fun b5 => (some (b5,true))) else (none)))
def impl_SetJoin.f (k : Nat) (l0 : List (S70)) (l1 : List (S70)) : Option ((List (S70)) × Bool) := (impl_SetOk.f k l0).bind fun dC => (if dC = true then ((impl_SetOk.f k l1).bind fun b0 => (impl_SetJoin.j0 k l0 l1 (!b0))) else (impl_SetJoin.j0 k l0 l1 true))
theorem impl_SetJoin.calls (k : Nat) (A0 : Option Addr) (c0 : Nat) (l0 : List (S70)) (A1 : Option Addr) (c1 : Nat) (l1 : List (S70)) (r1 : List (S70)) (r2 : Bool) (w : World) (fA : Kd.C k70 w A0 l0.length l0) (fB : l0.length ≤ c0) (fC : Kd.C k70 w A1 l1.length l1) (fD : l1.length ≤ c1) (h : impl_SetJoin.f k l0 l1 = some (r1,r2)) :
  Calls Try.prog 59 #[.slice A0 l0.length c0,.slice A1 l1.length c1] w fun e w' => ∃ fE : Value,e = .returned (.tuple #[fE,.bool r2]) ∧ Kd.R k70 70 w' w.heap.size (fun _ => True) fE r1 ∧ Below w.heap.size w w' := by
 have gb := mkA fA
 have fj := mkA fB
 clear fA fB
 have fF := mkA fC
 have gg := mkA fD
 clear fC fD
 have HB := mkA (Below.refl w.heap.size w)
 have H := h
 unfold impl_SetJoin.f at H
 clear h
 have fk := mkA H
 clear H
 go_enter Try.func59,Try.ntmps59
 go_upto_region 1 with (fail)
 go_cut [13] (fun gh wc => ∃ (kq : Nat) (bj : Bool),gh = .bool bj ∧ Aside0 (impl_SetJoin.j0 kq l0 l1 bj = some (r1,r2)) ∧ Aside0 (kq ≤ k) ∧ Aside0 (Below w.heap.size w wc))
 case first =>
  have H := fk.out
  clear fk
  replace H := Option.bind_eq_some_iff.mp H
  obtain ⟨dC,d_,H⟩ := H
  try dsimp only at H
  have A4 := mkA d_
  clear d_
  by_cases c5 : dC = true
  ·subst c5
   rw [if_pos rfl] at H
   replace H := Option.bind_eq_some_iff.mp H
   obtain ⟨b0,fG,H⟩ := H
   try dsimp only at H
   have A6 := mkA fG
   clear fG
   have H' := mkA H
   clear H
   go_wp2_with (first | ((with_reducible refine gate_callee (f := 43) rfl ?_);refine goesL_ (some 7) rfl rfl Try.func43 (by kernel_rfl) rfl #[.slice A0 l0.length c0] rfl Z14x2 ?_;(with_reducible refine (impl_SetOk.calls k _ _ l0 true _ ?az ?a6 A4.out).mono ?_);(case az => exact Z14x6);(case a6 => exact fj.out);rintro e w7 ⟨rfl,hb⟩;refine ⟨_,rfl,?_⟩;have a7 := mkA (below_step Z14x1 hb);clear HB;have HB := a7;clear a7;(try clear hb);(try clear b6);(try clear hk);(try clear hi)) | (go_at_call 43;(with_reducible refine (impl_SetOk.calls k _ _ l1 b0 _ ?az ?a6 A6.out).mono ?_);(case az => repeat (first | exact (Kd.C_below fF.out HB.out) | (with_reducible refine Kd.C_alloc ?_ _) | (with_reducible refine Kd.C_drewN ?_ _) | (with_reducible refine Kd.C_drew ?_)));(case a6 => exact gg.out);rintro e w8 ⟨rfl,hb⟩;have a7 := mkA (below_step Z14x1 hb);clear HB;have HB := a7;clear a7;(try clear hb);(try clear b6);(try clear hk);(try clear hi)))
   (first | go_meet | (refine Met.intro ?_;go_step;(repeat apply Exists.intro);refine ⟨?rel,?eqs⟩;case eqs => ((try rw [show (!true) = true from by assumption]);(try rw [show (!true) = false from by assumption]);(try rw [show (!b0) = true from by assumption]);(try rw [show (!b0) = false from by assumption]);(try rfl))))
   case rel => exact ⟨_,(!b0),(by first | rfl | (simp;done) | (simp [*];done)),H',⟨by first | omega | exact Nat.le_refl _⟩,⟨Z14x1⟩⟩
  ·replace c5 := Bool.eq_false_iff.mpr c5
   subst c5
   rw [if_neg (show ¬ (false = true) by decide)] at H
   have H' := mkA H
   clear H
   go_wp2_with (first | ((with_reducible refine gate_callee (f := 43) rfl ?_);refine goesL_ (some 7) rfl rfl Try.func43 (by kernel_rfl) rfl #[.slice A0 l0.length c0] rfl Z14x2 ?_;(with_reducible refine (impl_SetOk.calls k _ _ l0 false _ ?az ?a6 A4.out).mono ?_);(case az => exact Z14x6);(case a6 => exact fj.out);rintro e w9 ⟨rfl,hb⟩;refine ⟨_,rfl,?_⟩;have a7 := mkA (below_step Z14x1 hb);clear HB;have HB := a7;clear a7;(try clear hb);(try clear b6);(try clear hk);(try clear hi)))
   (first | go_meet | (refine Met.intro ?_;go_step;(repeat apply Exists.intro);refine ⟨?rel,?eqs⟩;case eqs => ((try rw [show (!false) = true from by assumption]);(try rw [show (!false) = false from by assumption]);(try rfl))))
   case rel => exact ⟨_,(true),(by first | rfl | (simp;done) | (simp [*];done)),H',⟨by first | omega | exact Nat.le_refl _⟩,⟨Z14x1⟩⟩
 case rest =>
  clear fk
  try clear c1
  try clear p2
  try clear c4
  try clear c5
  obtain ⟨kq,bj,rfl,HA,gE,HB⟩ := hcut
  cases kq with
  | zero => exact absurd HA.out (by simp [impl_SetJoin.j0])
  | succ fH =>
   have H := HA.out
   clear HA
   simp only [impl_SetJoin.j0] at H
   by_cases c10 : bj = true
   ·subst c10
    rw [if_pos rfl] at H;simp only [Option.some.injEq,Prod.mk.injEq] at H;obtain ⟨rfl,rfl⟩ := H
    go_wp2
    go_ret2
    exact ⟨_,by first | rfl | (simp [errW_none,errW_some] <;> rfl) | (simp [*,errW_none,errW_some] <;> rfl),by first | exact Kd.R_nil _ _ _ _ _ | exact Kd.N_nil _ _ _ _ _ | exact Kd.V_nil _ _ _ _ _ | exact Kd.Q_nil _ _ _ _ _ | exact Kd.S_nil _ _ _ _ _,Z14x1⟩
   ·replace c10 := Bool.eq_false_iff.mpr c10
    subst c10;rw [if_neg (show ¬ (false = true) by decide)] at H;replace H := Option.bind_eq_some_iff.mp H;obtain ⟨bg,ea,H⟩ := H
    try dsimp only at H
    have gi := mkA ea;clear ea
    by_cases e3 : bg.length + l1.length < 8796093022208
    ·rw [if_pos e3] at H
     have eb := mkA e3;clear e3;obtain ⟨dD,bc⟩ : ∃ y_ : List (S70),y_ = (bg ++ l1) := ⟨_,rfl⟩
     replace H : ((impl_union.f fH dD).bind fun b5 => (some (b5,true))) = some (r1,r2) := by first | (rw [bc];with_reducible exact H) | (have dE := (Option.bind_some _ _).symm.trans H;rw [bc];with_reducible exact dE) | (have dE := (Option.bind_some _ _).symm.trans H;with_reducible exact dE) | with_reducible exact H | (rw [bc];exact H) | exact H
     have ec := mkA bc;clear bc;replace H := Option.bind_eq_some_iff.mp H;obtain ⟨b5,ed,H⟩ := H
     try dsimp only at H
     have gj := mkA ed;clear ed;simp only [Option.some.injEq,Prod.mk.injEq] at H;obtain ⟨rfl,rfl⟩ := H
     go_wp2_with (first | ((with_reducible refine gate_callee (f := 90) rfl ?_);refine goesL_ (some 15) rfl rfl Try.func90 (by kernel_rfl) rfl #[.slice A0 l0.length c0] rfl Z14x2 ?_;(with_reducible refine (impl_copySet.calls _ _ l0 bg _ ?az ?a6 gi.out).mono ?_);(case az => exact Z14x6);(case a6 => exact fj.out);rintro e gF ⟨fl,rfl,a_,hb⟩;refine ⟨_,rfl,?_⟩;have a7 := mkA (Kd.R_lower a_ (below_size Z14x1));have aM := mkA (below_step Z14x1 hb);clear HB;have dr := a7;have HB := aM;clear a7 aM;(try clear hb);(try clear b6);(try clear hk);(try clear hi);(try clear a_)) | ((with_reducible refine gate_builtin (b := .append) (xs := #[.tmp 15,.tmp 16]) rfl ?_);at_builtin;refine Kd.R_append_rows k70 (w0 := w) w.heap.size rfl (.tmp 15) (.tmp 16) 32 70 (.agg #[(vi 0),(vi 0)]) 16 rfl Try.underlying32 info70 rfl (by decide) (by omega) fl bg l1 _ _ _ (fun _ => True) (fun _ => False) rfl rfl ?aO ?aR (fun _ _ h => h) (fun _ h => h.elim) ?aF ?aB ?aS ?aL ?_;(case aR => repeat (first | exact (Kd.C_below fF.out HB.out) | (with_reducible refine Kd.C_alloc ?_ _) | (with_reducible refine Kd.C_drewN ?_ _) | (with_reducible refine Kd.C_drew ?_)));(case aB => exact Z14x1);(case aF => exact (fun _ _ => trivial));(case aO => exact (by (with_reducible repeat (first | apply Kd.R_alloc | apply Kd.R_drewN | apply Kd.R_drew));exact dr.out));(case aS => exact (below_size Z14x1));(case aL => have := eb.out;omega);intro gl gG ho hb hg hat;rw [← ec.out] at ho;have a7 := mkA (hb);have aM := mkA (ho);clear HB;clear dr;have HB := a7;have aV := aM;clear a7 aM;clear ho hb hg hat;obtain ⟨fm,fo,fp⟩ := Kd.R_slice aV.out;subst fp) | ((with_reducible refine gate_callee (f := 89) rfl ?_);refine goesL_ (some 18) rfl rfl Try.func89 (by kernel_rfl) rfl #[.slice fm dD.length fo] rfl Z14x2 ?_;(with_reducible refine (impl_union.calls fH _ _ dD b5 _ ?az ?a6 gj.out).mono ?_);(case az => repeat (first | exact (Kd.R_reads' aV.out).2.2 | (with_reducible refine Kd.C_alloc ?_ _) | (with_reducible refine Kd.C_drewN ?_ _) | (with_reducible refine Kd.C_drew ?_)));(case a6 => exact (Kd.R_reads' aV.out).2.1);rintro e gm ⟨gn,rfl,a_,hb⟩;refine ⟨_,rfl,?_⟩;have a7 := mkA (Kd.R_elder' (by (with_reducible repeat (first | apply Kd.R_alloc | apply Kd.R_drewN | apply Kd.R_drew));exact aV.out) (Kd.R_base a_) hb);have aM := mkA (Kd.R_lower (Kd.R_new' a_ (Kd.R_lt (by (with_reducible repeat (first | apply Kd.R_alloc | apply Kd.R_drewN | apply Kd.R_drew));exact aV.out))) (below_size Z14x1));have aT := mkA (below_step Z14x1 hb);clear aV;clear HB;have aV := a7;have ee := aM;have HB := aT;clear a7 aM aT;(try clear hb);(try clear b6);(try clear hk);(try clear hi);(try clear a_)))
     go_ret2
     exact ⟨_,by first | rfl | (simp [errW_none,errW_some] <;> rfl) | (simp [*,errW_none,errW_some] <;> rfl),by (with_reducible repeat (first | apply Kd.R_alloc | apply Kd.R_drewN | apply Kd.R_drew));exact Kd.R_mono ee.out (fun _ hk => trivial),Z14x1⟩
    ·rw [if_neg e3] at H
     exact absurd H (by simp)

def impl_copySketch.l0 : Nat → List (List Int) → Int → Int → Int → Int → Int → Int → List Int → List Int → List (List Int) → Option (Int × Int × Int × Int × List Int × List Int × (List (List Int)))
 | 0,_,_,_,_,_,_,_,_,_,_ => none
 | k + 1,fq,fI,ef,bk,bm,bn,bo,bp,bq,ba => if ef < fI then (if 0 ≤ ef then (if ef < (fq.length : Int) then ((impl_copyInts.f (rd_L3 fq ef)).bind fun bh => (if ba.length < 5864062014805 then (impl_copySketch.l0 k fq fI (wrap64 (ef + 1)) bk bm bn bo bp bq (ba ++ [bh])) else (none))) else (none)) else (none)) else (some (bk,bm,bn,bo,bp,bq,ba))
def impl_copySketch.f (k : Nat) (ag : Int) (ah : Int) (ak : Int) (al : Int) (ax : List Int) (au : List Int) (ao : List (List Int)) : Option (Int × Int × Int × Int × List Int × List Int × (List (List Int))) := (impl_copyInts.f ax).bind fun ar => ((impl_copyInts.f au).bind fun ay => (impl_copySketch.l0 k ao (ao.length : Int) 0 ag ah ak al ar ay ([] : List (List Int))))
def impl_copySketch.T8 : Bool × List (List Nat × List Nat) := (true,[([],[]),([0],[0]),([],[]),([2],[2]),([3],[3]),([1,4,3],[1,4]),([0,1,2,3,4,5],[]),([6,5,5,0,1,2,3,4,5],[5,6])])
def impl_copySketch.B8 : List Nat := [0,1,0,4,12,31,63,127]
theorem impl_copySketch.tab8 : rtab .any (opsOf Try.f36 8) = impl_copySketch.T8 := by kernel_rfl
theorem impl_copySketch.bits8 : waitsOk impl_copySketch.T8.2 impl_copySketch.B8 = true := by kernel_rfl
theorem impl_copySketch.calls (k : Nat) (ag : Int) (ah : Int) (ak : Int) (al : Int) (aE : Option Addr) (aG : Nat) (ax : List Int) (aC : Option Addr) (aD : Nat) (au : List Int) (aK : Option Addr) (aH : Nat) (ao : List (List Int)) (r1 : Int) (r2 : Int) (r3 : Int) (r4 : Int) (r5 : List Int) (r6 : List Int) (r7 : List (List Int)) (w : World) (dt : Kd.C (Kd.int .i64) w aE ax.length ax) (du : ax.length ≤ aG) (dv : Kd.C (Kd.int .i64) w aC au.length au) (dw : au.length ≤ aD) (dx : Kd.C (Kd.slice 3 (Kd.int .i64)) w aK ao.length ao) (dy : ao.length ≤ aH) (h : impl_copySketch.f k ag ah ak al ax au ao = some (r1,r2,r3,r4,r5,r6,r7)) :
  Calls Try.prog 36 #[.agg #[vi ag,vi ah,vi ak,vi al,.slice aE ax.length aG,.slice aC au.length aD,.slice aK ao.length aH]] w fun e w' => ∃ e7 e8 fJ : Value,e = .returned (.agg #[vi r1,vi r2,vi r3,vi r4,e7,e8,fJ]) ∧ Kd.R (Kd.int .i64) 3 w' w.heap.size (fun k_ => some k_ ≠ (e8 : Value).ownBlock) e7 r5 ∧ Kd.R (Kd.int .i64) 3 w' w.heap.size (fun k_ => some k_ ≠ (e7 : Value).ownBlock) e8 r6 ∧ Kd.S (Kd.slice 3 (Kd.int .i64)) 24 w' w.heap.size (fun k_ => some k_ ≠ (e7 : Value).ownBlock ∧ some k_ ≠ (e8 : Value).ownBlock) fJ r7 ∧ Below w.heap.size w w' := by
 have gp := Try.underlying27
 have eg := mkA dt
 have eh := mkA du
 clear dt du
 have ei := mkA dv
 have ej := mkA dw
 clear dv dw
 have ek := mkA dx
 have fK := mkA dy
 clear dx dy
 have HB := mkA (Below.refl w.heap.size w)
 have H := h
 unfold impl_copySketch.f at H
 clear h
 replace H := Option.bind_eq_some_iff.mp H
 obtain ⟨ar,fL,H⟩ := H
 try dsimp only at H
 have A2 := mkA fL
 clear fL
 replace H := Option.bind_eq_some_iff.mp H
 obtain ⟨ay,en,H⟩ := H
 try dsimp only at H
 have A3 := mkA en
 clear en
 have H' := mkA H
 clear H
 go_enter Try.func36,Try.ntmps36
 go_wp2_with (first | ((with_reducible refine gate_dst (N := 1) rfl ?_);refine box_event ?hg (N := 1) ?hd (cs := #[vi ag,vi ah,vi ak,vi al,.slice aE ax.length aG,.slice aC au.length aD,.slice aK ao.length aH]) (t := 27) ?hr ?_;(case hd => rfl);(case hg => rfl);(case hr => first | (go_simp;done) | (go_simp;rfl));intro av hg w4 hbox hb;have a7 := mkA (below_step Z14x1 hb);have aM := mkA (hbox);have aT := mkA ((by rw [hg];exact (below_size Z14x1) : w.heap.size ≤ av));have aW := mkA ((by rw [hg];exact (below_size Z14x1) : w.heap.size ≤ av));clear HB;have HB := a7;have af := aM;have fM := aT;have b4 := aW;clear a7 aM aT aW;clear hb hbox hg) | ((with_reducible refine gate_dst (N := 2) rfl ?_);refine box_event ?hg (N := 2) ?hd (cs := #[vi 0,vi 0,vi 0,vi 0,.slice none 0 0,.slice none 0 0,.slice none 0 0]) (t := 27) ?hr ?_;(case hd => rfl);(case hg => rfl);(case hr => first | (go_simp;done) | (go_simp;rfl));intro ab hg w5 hbox hb;have a7 := mkA (blk_below (g := av) (o := .cells #[vi ag,vi ah,vi ak,vi al,.slice aE ax.length aG,.slice aC au.length aD,.slice aK ao.length aH] 27 (0,0)) Z14x3 hb);have aM := mkA (below_step Z14x7 hb);have aT := mkA (hbox);have aW := mkA ((by rw [hg];exact (below_size Z14x7) : w.heap.size ≤ ab));have aX := mkA ((by rw [hg];exact (below_size Z14x7) : w.heap.size ≤ ab));have bd := mkA ((by rw [hg];exact Nat.ne_of_lt (blk_lt (g := av) (o := .cells #[vi ag,vi ah,vi ak,vi al,.slice aE ax.length aG,.slice aC au.length aD,.slice aK ao.length aH] 27 (0,0)) Z14x3) : av ≠ ab));have br := mkA ((by rw [hg];exact Nat.ne_of_gt (blk_lt (g := av) (o := .cells #[vi ag,vi ah,vi ak,vi al,.slice aE ax.length aG,.slice aC au.length aD,.slice aK ao.length aH] 27 (0,0)) Z14x3) : ab ≠ av));clear af;clear HB;have af := a7;have HB := aM;have ai := aT;have fN := aW;have dq := aX;have aY := bd;have aZ := br;clear a7 aM aT aW aX bd br;clear hb hbox hg;have gq := aY.out;have gr := aZ.out;obtain ⟨dF,dG,dH,dI,dJ,dK,dL⟩ := cz7 af.out;obtain ⟨dM,dN,dO,dP,dQ,dR,dS⟩ := fz7 af.out) | ((with_reducible refine gate_dst (N := 3) rfl ?_);refine box_event ?hg (N := 3) ?hd (cs := #[vi 0,vi 0,vi 0,vi 0,.slice none 0 0,.slice none 0 0,.slice none 0 0]) (t := 27) ?hr ?_;(case hd => rfl);(case hg => rfl);(case hr => first | (go_simp;done) | (go_simp;rfl));intro aj hg w8 hbox hb;have a7 := mkA (blk_below (g := av) (o := .cells #[vi ag,vi ah,vi ak,vi al,.slice aE ax.length aG,.slice aC au.length aD,.slice aK ao.length aH] 27 (0,0)) Z14x3 hb);have aM := mkA (blk_below (g := ab) (o := .cells #[vi 0,vi 0,vi 0,vi 0,.slice none 0 0,.slice none 0 0,.slice none 0 0] 27 (0,0)) Z14x4 hb);have aT := mkA (below_step Z14x5 hb);have aW := mkA (hbox);have aX := mkA ((by rw [hg];exact (below_size Z14x5) : w.heap.size ≤ aj));have bd := mkA ((by rw [hg];exact (below_size Z14x5) : w.heap.size ≤ aj));have br := mkA ((by rw [hg];exact Nat.ne_of_lt (blk_lt (g := av) (o := .cells #[vi ag,vi ah,vi ak,vi al,.slice aE ax.length aG,.slice aC au.length aD,.slice aK ao.length aH] 27 (0,0)) Z14x3) : av ≠ aj));have eo := mkA ((by rw [hg];exact Nat.ne_of_gt (blk_lt (g := av) (o := .cells #[vi ag,vi ah,vi ak,vi al,.slice aE ax.length aG,.slice aC au.length aD,.slice aK ao.length aH] 27 (0,0)) Z14x3) : aj ≠ av));have fO := mkA ((by rw [hg];exact Nat.ne_of_lt (blk_lt (g := ab) (o := .cells #[vi 0,vi 0,vi 0,vi 0,.slice none 0 0,.slice none 0 0,.slice none 0 0] 27 (0,0)) Z14x4) : ab ≠ aj));have fP := mkA ((by rw [hg];exact Nat.ne_of_gt (blk_lt (g := ab) (o := .cells #[vi 0,vi 0,vi 0,vi 0,.slice none 0 0,.slice none 0 0,.slice none 0 0] 27 (0,0)) Z14x4) : aj ≠ ab));clear af;clear ai;clear HB;have af := a7;have ai := aM;have HB := aT;have aa := aW;have fQ := aX;have dZ := bd;have ad := br;have aN := eo;have ae := fO;have aQ := fP;clear a7 aM aT aW aX bd br eo fO fP;clear hb hbox hg;have gu := aN.out;have gv := ad.out;have fR := aQ.out;have fS := ae.out;obtain ⟨b7,b8,b9,bA,bB,bC,bD⟩ := cz7 aa.out;obtain ⟨bE,bF,bG,bH,bI,bJ,bK⟩ := fz7 aa.out;obtain ⟨bL,bM,bN,bO,bP,bQ,bR⟩ := cz7 af.out;obtain ⟨bS,bT,bU,bV,bW,bX,bY⟩ := fz7 af.out) | ((with_reducible refine gate_callee (f := 71) rfl ?_);refine goesL_ (some 9) rfl rfl Try.func71 (by kernel_rfl) rfl #[.slice aE ax.length aG] rfl Z14x2 ?_;(with_reducible refine (impl_copyInts.calls _ _ ax ar _ ?az ?a6 A2.out).mono ?_);(case az => exact Kd.C_below eg.out Z14x0);(case a6 => exact eh.out);rintro e gH ⟨gw,rfl,a_,hb⟩;refine ⟨_,rfl,?_⟩;have a7 := mkA (Kd.R_lower a_ (below_size Z14x0));have aM := mkA (blk_below (g := av) (o := .cells #[vi ag,vi ah,vi ak,vi al,.slice aE ax.length aG,.slice aC au.length aD,.slice aK ao.length aH] 27 (0,0)) (by (with_reducible repeat (first | refine blk_drewN ?_ _ | refine blk_drew ?_ | refine blk_alloc ?_ _));refine blk_far ?_ ad.out _;(with_reducible repeat (first | refine blk_drewN ?_ _ | refine blk_drew ?_ | refine blk_alloc ?_ _));refine blk_far ?_ ad.out _;(with_reducible repeat (first | refine blk_drewN ?_ _ | refine blk_drew ?_ | refine blk_alloc ?_ _));refine blk_far ?_ ad.out _;(with_reducible repeat (first | refine blk_drewN ?_ _ | refine blk_drew ?_ | refine blk_alloc ?_ _));refine blk_far ?_ ad.out _;(with_reducible repeat (first | refine blk_drewN ?_ _ | refine blk_drew ?_ | refine blk_alloc ?_ _));refine blk_far ?_ ad.out _;(with_reducible repeat (first | refine blk_drewN ?_ _ | refine blk_drew ?_ | refine blk_alloc ?_ _));refine blk_far ?_ ad.out _;(with_reducible repeat (first | refine blk_drewN ?_ _ | refine blk_drew ?_ | refine blk_alloc ?_ _));refine blk_far ?_ ad.out _;(with_reducible repeat (first | refine blk_drewN ?_ _ | refine blk_drew ?_ | refine blk_alloc ?_ _));exact af.out) hb);have aT := mkA (blk_below (g := ab) (o := .cells #[vi 0,vi 0,vi 0,vi 0,.slice none 0 0,.slice none 0 0,.slice none 0 0] 27 (0,0)) (by (with_reducible repeat (first | refine blk_drewN ?_ _ | refine blk_drew ?_ | refine blk_alloc ?_ _));refine blk_far ?_ ae.out _;(with_reducible repeat (first | refine blk_drewN ?_ _ | refine blk_drew ?_ | refine blk_alloc ?_ _));refine blk_far ?_ ae.out _;(with_reducible repeat (first | refine blk_drewN ?_ _ | refine blk_drew ?_ | refine blk_alloc ?_ _));refine blk_far ?_ ae.out _;(with_reducible repeat (first | refine blk_drewN ?_ _ | refine blk_drew ?_ | refine blk_alloc ?_ _));refine blk_far ?_ ae.out _;(with_reducible repeat (first | refine blk_drewN ?_ _ | refine blk_drew ?_ | refine blk_alloc ?_ _));refine blk_far ?_ ae.out _;(with_reducible repeat (first | refine blk_drewN ?_ _ | refine blk_drew ?_ | refine blk_alloc ?_ _));refine blk_far ?_ ae.out _;(with_reducible repeat (first | refine blk_drewN ?_ _ | refine blk_drew ?_ | refine blk_alloc ?_ _));refine blk_far ?_ ae.out _;(with_reducible repeat (first | refine blk_drewN ?_ _ | refine blk_drew ?_ | refine blk_alloc ?_ _));exact ai.out) hb);have aW := mkA (blk_below (g := aj) (o := .cells #[vi ag,vi ah,vi ak,vi al,.slice aE ax.length aG,.slice aC au.length aD,.slice aK ao.length aH] 27 (0,0)) (by (with_reducible repeat (first | refine blk_drewN ?_ _ | refine blk_drew ?_ | refine blk_alloc ?_ _));refine blk_put (cs := #[vi ag,vi ah,vi ak,vi al,.slice aE ax.length aG,.slice aC au.length aD,.slice none 0 0]) ?_ 6 _ rfl;(with_reducible repeat (first | refine blk_drewN ?_ _ | refine blk_drew ?_ | refine blk_alloc ?_ _));refine blk_put (cs := #[vi ag,vi ah,vi ak,vi al,.slice aE ax.length aG,.slice none 0 0,.slice none 0 0]) ?_ 5 _ rfl;(with_reducible repeat (first | refine blk_drewN ?_ _ | refine blk_drew ?_ | refine blk_alloc ?_ _));refine blk_put (cs := #[vi ag,vi ah,vi ak,vi al,.slice none 0 0,.slice none 0 0,.slice none 0 0]) ?_ 4 _ rfl;(with_reducible repeat (first | refine blk_drewN ?_ _ | refine blk_drew ?_ | refine blk_alloc ?_ _));refine blk_put (cs := #[vi ag,vi ah,vi ak,vi 0,.slice none 0 0,.slice none 0 0,.slice none 0 0]) ?_ 3 _ rfl;(with_reducible repeat (first | refine blk_drewN ?_ _ | refine blk_drew ?_ | refine blk_alloc ?_ _));refine blk_put (cs := #[vi ag,vi ah,vi 0,vi 0,.slice none 0 0,.slice none 0 0,.slice none 0 0]) ?_ 2 _ rfl;(with_reducible repeat (first | refine blk_drewN ?_ _ | refine blk_drew ?_ | refine blk_alloc ?_ _));refine blk_put (cs := #[vi ag,vi 0,vi 0,vi 0,.slice none 0 0,.slice none 0 0,.slice none 0 0]) ?_ 1 _ rfl;(with_reducible repeat (first | refine blk_drewN ?_ _ | refine blk_drew ?_ | refine blk_alloc ?_ _));refine blk_put (cs := #[vi 0,vi 0,vi 0,vi 0,.slice none 0 0,.slice none 0 0,.slice none 0 0]) ?_ 0 _ rfl;(with_reducible repeat (first | refine blk_drewN ?_ _ | refine blk_drew ?_ | refine blk_alloc ?_ _));exact aa.out) hb);have aX := mkA (below_step Z14x0 hb);clear af;clear ai;clear aa;clear HB;have bb := a7;have af := aM;have ai := aT;have aa := aW;have HB := aX;clear a7 aM aT aW aX;(try clear hb);(try clear b6);(try clear hk);(try clear hi);(try clear a_);obtain ⟨a8,aA,fs⟩ := Kd.R_slice bb.out;subst fs;obtain ⟨bZ,b_,ca,cb,cc,cd,cf⟩ := cz7 aa.out;obtain ⟨cg,ch,cj,ck,cm,cn,cq⟩ := fz7 aa.out;obtain ⟨cr,ct,cu,cv,cw,cx,cy⟩ := cz7 af.out;obtain ⟨cz,cA,cB,cC,cD,cE,cF⟩ := fz7 af.out) | ((with_reducible refine gate_callee (f := 71) rfl ?_);refine goesL_ (some 13) rfl rfl Try.func71 (by kernel_rfl) rfl #[.slice aC au.length aD] rfl Z14x2 ?_;(with_reducible refine (impl_copyInts.calls _ _ au ay _ ?az ?a6 A3.out).mono ?_);(case az => exact Kd.C_below ei.out Z14x0);(case a6 => exact ej.out);rintro e gm ⟨gx,rfl,a_,hb⟩;refine ⟨_,rfl,?_⟩;have a7 := mkA (Kd.R_elder' Z14x10 (Kd.R_base a_) hb);have aM := mkA (Kd.R_lower (Kd.R_new' a_ (Kd.R_lt Z14x10)) (below_size Z14x0));have aT := mkA (blk_below (g := av) (o := .cells #[vi ag,vi ah,vi ak,vi al,.slice aE ax.length aG,.slice aC au.length aD,.slice aK ao.length aH] 27 (0,0)) Z14x11 hb);have aW := mkA (blk_below (g := ab) (o := .cells #[vi 0,vi 0,vi 0,vi 0,.slice none 0 0,.slice none 0 0,.slice none 0 0] 27 (0,0)) Z14x12 hb);have aX := mkA (blk_below (g := aj) (o := .cells #[vi ag,vi ah,vi ak,vi al,.slice a8 ar.length aA,.slice aC au.length aD,.slice aK ao.length aH] 27 (0,0)) (by (with_reducible repeat (first | refine blk_drewN ?_ _ | refine blk_drew ?_ | refine blk_alloc ?_ _));refine blk_put (cs := #[vi ag,vi ah,vi ak,vi al,.slice aE ax.length aG,.slice aC au.length aD,.slice aK ao.length aH]) ?_ 4 _ rfl;(with_reducible repeat (first | refine blk_drewN ?_ _ | refine blk_drew ?_ | refine blk_alloc ?_ _));exact aa.out) hb);have bd := mkA (below_step Z14x0 hb);clear bb;clear af;clear ai;clear aa;clear HB;have bb := a7;have dz := aM;have af := aT;have ai := aW;have aa := aX;have HB := bd;clear a7 aM aT aW aX bd;(try clear hb);(try clear b6);(try clear hk);(try clear hi);(try clear a_);obtain ⟨aI,aJ,ft⟩ := Kd.R_slice dz.out;subst ft;obtain ⟨cG,cH,cI,cJ,cK,cL,cM⟩ := cz7 aa.out;obtain ⟨cN,cO,cP,cQ,cR,cS,cT⟩ := fz7 aa.out;obtain ⟨cU,cV,cW,cX,cY,cZ,c_⟩ := cz7 af.out;obtain ⟨da,db,dc,dd,de,df,dg⟩ := fz7 af.out))
 go_loopg [19] k (fun kq gy w' => ∃ (aw : Int) (an : List (List Int)) (aq : Value),gy = vi aw ∧ Aside0 (impl_copySketch.l0 kq ao (ao.length : Int) aw ag ah ak al ar ay an = some (r1,r2,r3,r4,r5,r6,r7)) ∧ Aside0 (kq ≤ k) ∧ Aside0 (Kd.R (Kd.int .i64) 3 w' w.heap.size (fun k_ => some k_ ≠ ((.slice aI ay.length aJ) : Value).ownBlock) (.slice a8 ar.length aA) ar) ∧ Aside0 (Kd.R (Kd.int .i64) 3 w' w.heap.size (fun k_ => some k_ ≠ ((.slice a8 ar.length aA) : Value).ownBlock) (.slice aI ay.length aJ) ay) ∧ Aside0 (Kd.S (Kd.slice 3 (Kd.int .i64)) 24 w' w.heap.size (fun k_ => some k_ ≠ ((.slice a8 ar.length aA) : Value).ownBlock ∧ some k_ ≠ ((.slice aI ay.length aJ) : Value).ownBlock) aq an) ∧ Aside0 (w'.heap[av]? = some (.cells #[vi ag,vi ah,vi ak,vi al,(.slice aE ax.length aG),(.slice aC au.length aD),(.slice aK ao.length aH)] 27 (0,0))) ∧ Aside0 (w'.heap[ab]? = some (.cells #[vi 0,vi 0,vi 0,vi 0,(.slice none 0 0),(.slice none 0 0),(.slice none 0 0)] 27 (0,0))) ∧ Aside0 (w'.heap[aj]? = some (.cells #[vi ag,vi ah,vi ak,vi al,(.slice a8 ar.length aA),(.slice aI ay.length aJ),aq] 27 (0,0))) ∧ Aside0 (Below w.heap.size w w'))
 case atStart => exact ⟨(0),(([] : List (List Int))),(.slice none 0 0),(by first | rfl | (simp;done) | (simp [*];done)),H',⟨Nat.le_refl _⟩,⟨by (with_reducible repeat (first | apply Kd.R_alloc | apply Kd.R_drewN | apply Kd.R_drew));exact Kd.R_mono (Kd.R_far (p := ⟨aj,6,none⟩) (Kd.R_far (p := ⟨aj,5,none⟩) (Kd.R_types bb.out aa.out (by decide)) (fun _ hk => hk.2) (.slice aI ay.length aJ)) (fun _ hk => hk.2) (.slice none 0 0)) (fun _ hk => hk.1.2)⟩,⟨by (with_reducible repeat (first | apply Kd.R_alloc | apply Kd.R_drewN | apply Kd.R_drew));exact Kd.R_mono (Kd.R_far (p := ⟨aj,6,none⟩) (Kd.R_far (p := ⟨aj,5,none⟩) (Kd.R_types dz.out aa.out (by decide)) (fun _ hk => hk.2) (.slice aI ay.length aJ)) (fun _ hk => hk.2) (.slice none 0 0)) (fun _ hk => hk.1.2)⟩,⟨by first | exact Kd.S_nil _ _ _ _ _ | exact Kd.N_nil _ _ _ _ _ | exact Kd.V_nil _ _ _ _ _ | exact Kd.Q_nil _ _ _ _ _ | exact Kd.R_nil _ _ _ _ _⟩,⟨by (with_reducible repeat (first | refine blk_drewN ?_ _ | refine blk_drew ?_ | refine blk_alloc ?_ _));refine blk_far ?_ ad.out _;(with_reducible repeat (first | refine blk_drewN ?_ _ | refine blk_drew ?_ | refine blk_alloc ?_ _));refine blk_far ?_ ad.out _;(with_reducible repeat (first | refine blk_drewN ?_ _ | refine blk_drew ?_ | refine blk_alloc ?_ _));exact af.out⟩,⟨by (with_reducible repeat (first | refine blk_drewN ?_ _ | refine blk_drew ?_ | refine blk_alloc ?_ _));refine blk_far ?_ ae.out _;(with_reducible repeat (first | refine blk_drewN ?_ _ | refine blk_drew ?_ | refine blk_alloc ?_ _));refine blk_far ?_ ae.out _;(with_reducible repeat (first | refine blk_drewN ?_ _ | refine blk_drew ?_ | refine blk_alloc ?_ _));exact ai.out⟩,⟨by (with_reducible repeat (first | refine blk_drewN ?_ _ | refine blk_drew ?_ | refine blk_alloc ?_ _));refine blk_put (cs := #[vi ag,vi ah,vi ak,vi al,.slice a8 ar.length aA,.slice aI ay.length aJ,.slice aK ao.length aH]) ?_ 6 _ rfl;(with_reducible repeat (first | refine blk_drewN ?_ _ | refine blk_drew ?_ | refine blk_alloc ?_ _));refine blk_put (cs := #[vi ag,vi ah,vi ak,vi al,.slice a8 ar.length aA,.slice aC au.length aD,.slice aK ao.length aH]) ?_ 5 _ rfl;(with_reducible repeat (first | refine blk_drewN ?_ _ | refine blk_drew ?_ | refine blk_alloc ?_ _));exact aa.out⟩,⟨Z14x0⟩⟩
 case round =>
  clear H'
  try clear c1
  try clear p2
  try clear c3
  try clear c6
  try clear c7
  try clear c9
  try clear c10
  try clear b7 b8 b9 bA bB bC bD
  try clear bL bM bN bO bP bQ bR
  try clear bZ b_ ca cb cc cd cf
  try clear cr ct cu cv cw cx cy
  try clear cG cH cI cJ cK cL cM
  try clear cU cV cW cX cY cZ c_
  try clear dF dG dH dI dJ dK dL
  try clear bE bF bG bH bI bJ bK
  try clear bS bT bU bV bW bX bY
  try clear cg ch cj ck cm cn cq
  try clear cz cA cB cC cD cE cF
  try clear cN cO cP cQ cR cS cT
  try clear da db dc dd de df dg
  try clear dM dN dO dP dQ dR dS
  (try clear af)
  (try clear ai)
  (try clear aa)
  obtain ⟨aw,an,aq,rfl,HA,fT,HO_428004,HO_428005,HO_428006,af,ai,aa,HB⟩ := hrel
  cases gk with
  | zero => exact absurd HA.out (by simp [impl_copySketch.l0])
  | succ k1 =>
   have H := HA.out
   clear HA
   simp only [impl_copySketch.l0] at H
   by_cases dY : aw < (ao.length : Int)
   ·rw [if_pos dY] at H
    have c21b0 : decide (aw < (ao.length : Int)) = true := decide_eq_true dY;clear dY
    by_cases e9 : 0 ≤ aw
    ·rw [if_pos e9] at H
     have c22b0 : decide (0 ≤ aw) = true := decide_eq_true e9;clear e9
     by_cases eA : aw < (ao.length : Int)
     ·rw [if_pos eA] at H
      have c23b0 : decide (aw < (ao.length : Int)) = true := decide_eq_true eA;clear eA;replace H := Option.bind_eq_some_iff.mp H;obtain ⟨bh,ep,H⟩ := H
      try dsimp only at H
      have gz := mkA ep;clear ep
      by_cases eB : an.length < 5864062014805
      ·rw [if_pos eB] at H
       have er := mkA eB;clear eB;obtain ⟨b1,bf⟩ : ∃ y_ : List (List Int),y_ = (an ++ [bh]) := ⟨_,rfl⟩
       replace H : (impl_copySketch.l0 k1 ao (ao.length : Int) (wrap64 (aw + 1)) ag ah ak al ar ay b1) = some (r1,r2,r3,r4,r5,r6,r7) := by first | (rw [bf];with_reducible exact H) | (have dE := (Option.bind_some _ _).symm.trans H;rw [bf];with_reducible exact dE) | (have dE := (Option.bind_some _ _).symm.trans H;with_reducible exact dE) | with_reducible exact H | (rw [bf];exact H) | exact H
       have et := mkA bf;clear bf;have H' := mkA H;clear H;have dT : 0 ≤ (aw : Int) := of_decide_eq_true (by first | (with_reducible assumption) | assumption);have dU : aw < (ao.length : Int) := of_decide_eq_true (by first | (with_reducible assumption) | assumption);obtain ⟨dA,dV,dW,fu,bs,bu,bw⟩ := at_L3 ek.out aw dT dU
       cases fu
       replace bs := czB HB.out bs;have dh := mkA bw;have di := mkA bu;clear bw bu;replace dT := eq_true dT;replace dU := eq_true dU
       try go_wp2
       have a7 := mkA (Kd.R_drew HO_428004.out);have aM := mkA (Kd.R_drew HO_428005.out);have aT := mkA (Kd.S_drew HO_428006.out);have aW := mkA (blk_drew af.out);have aX := mkA (blk_drew ai.out);have bd := mkA (blk_drew aa.out);have br := mkA (below_drew1 HB.out);clear HO_428004;clear HO_428005;clear HO_428006;clear af;clear ai;clear aa;clear HB;have HO_428004 := a7;have HO_428005 := aM;have HO_428006 := aT;have af := aW;have ai := aX;have aa := bd;have HB := br;clear a7 aM aT aW aX bd br;refine start_ (n := 8) (S := fun w' => w'.cell? ⟨aj,0,none⟩ = some (vi ag) ∧ w'.cell? ⟨aj,1,none⟩ = some (vi ah) ∧ w'.cell? ⟨aj,2,none⟩ = some (vi ak) ∧ w'.cell? ⟨aj,3,none⟩ = some (vi al) ∧ w'.cell? ⟨aj,4,none⟩ = some (.slice a8 ar.length aA) ∧ w'.cell? ⟨aj,5,none⟩ = some (.slice aI ay.length aJ) ∧ w'.cell? ⟨aj,6,none⟩ = some (aq)) (ds := [7]) #[false,false,false,false,false,false,false,false] (by kernel_rfl) rfl rfl ⟨(blk_cell aa.out 0).trans rfl,(blk_cell aa.out 1).trans rfl,(blk_cell aa.out 2).trans rfl,(blk_cell aa.out 3).trans rfl,(blk_cell aa.out 4).trans rfl,(blk_cell aa.out 5).trans rfl,(blk_cell aa.out 6).trans rfl⟩ (fun hHeld => ?_);refine with_tabW impl_copySketch.tab8 impl_copySketch.bits8 (fun HT_ HW_ => ?_);generalize wr.drew = gI at HO_428004 HO_428005 HO_428006 af ai aa HB hHeld ⊢;refine pure_ (i := 0) (N := some 23) (v := ?_) (a' := ?_) #[true,false,false,false,false,false,false,false] rfl rfl (any_of HT_.out (by kernel_rfl)) (fun _ _ _ h => h) (Or.inl ⟨by rfl,?_⟩) ?_ ?_
       rotate_left
       ·intro w'
        go_simp
        with_reducible rfl
       rotate_left
       ·simp only [czP]
        rfl
       refine pure_ (i := 2) (N := some 25) (v := ?_) (a' := ?_) #[true,false,true,false,false,false,false,false] rfl rfl (any_of HT_.out (by kernel_rfl)) (fun _ _ _ h => h) (Or.inl ⟨by rfl,?_⟩) ?_ ?_
       rotate_left
       ·intro w'
        go_simp
        with_reducible rfl
       rotate_left
       ·simp only [czP]
        rfl
       refine take_ (i := 1) (N := some 24) (v := ?_) (a' := ?_) #[true,true,true,false,false,false,false,false] rfl rfl (take_ofW HT_.out HW_.out (by kernel_rfl)) (fun _ _ _ h => h) (Or.inl ⟨by rfl,?_⟩) hHeld ?_ ?_
       rotate_left
       ·rintro w' ⟨s0,s1,s2,s3,s4,s5,s6⟩
        go_simp
        with_reducible rfl
       rotate_left
       ·simp only [czP]
        rfl
       refine one_ (i := 3) (N := some 26) #[true,true,true,true,false,false,false,false] rfl rfl (one_of HT_.out (by kernel_rfl)) (by decide) (fun K hK => ?_);refine goes_ Try.func71 (by kernel_rfl) rfl #[.slice dV (rd_L3 ao aw).length dW] (by rfl) rfl rfl Z14x2 ?_
       with_reducible refine (impl_copyInts.calls _ _ (rd_L3 ao aw) bh _ ?az ?a6 gz.out).mono ?_
       (case az => repeat (first | exact (Kd.C_below dh.out HB.out) | (with_reducible refine Kd.C_alloc ?_ _) | (with_reducible refine Kd.C_drewN ?_ _) | (with_reducible refine Kd.C_drew ?_)))
       (case a6 => exact di.out)
       rintro e gJ ⟨gA,rfl,a_,hb⟩
       refine ⟨_,rfl,?_⟩;have a7 := mkA (Kd.R_elder' Z14x8 (Kd.R_base a_) hb);have aM := mkA (Kd.R_elder' Z14x9 (Kd.R_base a_) hb);have aT := mkA (Kd.S_elder' (by (with_reducible repeat (first | apply Kd.S_alloc | apply Kd.S_drewN | apply Kd.S_drew));exact HO_428006.out) (Kd.R_base a_) hb);have aW := mkA (Kd.R_lower (Kd.R_new' (Kd.R_new' a_ (Kd.R_lt Z14x8)) (Kd.R_lt Z14x9)) (below_size Z14x0));have aX := mkA (blk_below (g := av) (o := .cells #[vi ag,vi ah,vi ak,vi al,.slice aE ax.length aG,.slice aC au.length aD,.slice (some dA) ao.length aH] 27 (0,0)) Z14x3 hb);have bd := mkA (blk_below (g := ab) (o := .cells #[vi 0,vi 0,vi 0,vi 0,.slice none 0 0,.slice none 0 0,.slice none 0 0] 27 (0,0)) Z14x4 hb);have br := mkA (blk_below (g := aj) (o := .cells #[vi ag,vi ah,vi ak,vi al,.slice a8 ar.length aA,.slice aI ay.length aJ,aq] 27 (0,0)) (by (with_reducible repeat (first | refine blk_drewN ?_ _ | refine blk_drew ?_ | refine blk_alloc ?_ _));exact aa.out) hb);have eo := mkA (below_step Z14x0 hb);clear HO_428004;clear HO_428005;clear HO_428006;clear af;clear ai;clear aa;clear HB;have HO_428004 := a7;have HO_428005 := aM;have HO_428006 := aT;have bz := aW;have af := aX;have ai := bd;have aa := br;have HB := eo;clear a7 aM aT aW aX bd br eo
       (try clear hb)
       (try clear b6)
       (try clear hk)
       (try clear hi)
       (try clear a_)
       obtain ⟨eu,ev,ew⟩ := Kd.R_slice bz.out
       (first | subst ew | (injection ew with ey fv ez;have fw := ey.symm;have fx := ez.symm;clear ey fv ez;subst fw;subst fx))
       refine hK.out _ _ ⟨(blk_cell aa.out 0).trans rfl,(blk_cell aa.out 1).trans rfl,(blk_cell aa.out 2).trans rfl,(blk_cell aa.out 3).trans rfl,(blk_cell aa.out 4).trans rfl,(blk_cell aa.out 5).trans rfl,(blk_cell aa.out 6).trans rfl⟩ (fun hHeld => ?_);clear hK K;refine norm_ (a' := ?_) ?_ ?_
       rotate_left
       ·show Act.put _ (some 26) _ = _
        simp only [czP]
        rfl
       refine one_ (i := 4) (N := some 27) #[true,true,true,true,true,false,false,false] rfl rfl (one_of HT_.out (by kernel_rfl)) (by decide) (fun K hK => ?_);refine value_ (w1 := ?_) (v := ?_) (by rfl) rfl ?_ ?_
       rotate_left 2
       ·go_simp
        constructor
        ·rfl
        ·rfl
       refine hK.out _ _ ⟨(blk_cell (blk_alloc aa.out _) 0).trans rfl,(blk_cell (blk_alloc aa.out _) 1).trans rfl,(blk_cell (blk_alloc aa.out _) 2).trans rfl,(blk_cell (blk_alloc aa.out _) 3).trans rfl,(blk_cell (blk_alloc aa.out _) 4).trans rfl,(blk_cell (blk_alloc aa.out _) 5).trans rfl,(blk_cell (blk_alloc aa.out _) 6).trans rfl⟩ (fun hHeld => ?_);clear hK K;refine norm_ (a' := ?_) ?_ ?_
       rotate_left
       ·show Act.put _ (some 27) _ = _
        simp only [czP]
        rfl
       refine one_ (i := 5) (N := some 28) #[true,true,true,true,true,true,false,false] rfl rfl (one_of HT_.out (by kernel_rfl)) (by decide) (fun K hK => ?_);refine Kd.S_append_step (Kd.slice 3 (Kd.int .i64)) (w0 := w) w.heap.size (by rfl) (.tmp 24) (.tmp 27) 25 24 (.slice none 0 0) 24 rfl Try.underlying25 info24 rfl (by decide) (by omega) aq an bh [.slice eu bh.length ev] (fun k_ => some k_ ≠ (.slice a8 ar.length aA : Value).ownBlock ∧ some k_ ≠ (.slice aI ay.length aJ : Value).ownBlock) (fun k_ => some k_ = (.slice eu bh.length ev : Value).ownBlock) rfl rfl ?aP (fun k_ hk_ => ((Kd.R_mono (ok' := fun k_ => ((fun k_ => some k_ ≠ (.slice a8 ar.length aA : Value).ownBlock ∧ some k_ ≠ (.slice aI ay.length aJ : Value).ownBlock)) k_ ∧ some k_ ≠ (aq : Value).ownBlock) (Kd.R_apart' (bz.out) (Kd.S_typed HO_428006.out) (by decide)) (fun k_ hk => ⟨⟨hk.1.1.2,hk.1.2⟩,hk.2⟩))).1 k_ hk_.symm) ?aF ?aO ?aB ?aS ?aL ?_
       (case aP => exact Kd.M_row (Kd.R_mono (Kd.R_tight rfl (Kd.R_mono (ok' := fun k_ => ((fun k_ => some k_ ≠ (.slice a8 ar.length aA : Value).ownBlock ∧ some k_ ≠ (.slice aI ay.length aJ : Value).ownBlock)) k_ ∧ some k_ ≠ (aq : Value).ownBlock) (Kd.R_apart' (bz.out) (Kd.S_typed HO_428006.out) (by decide)) (fun k_ hk => ⟨⟨hk.1.1.2,hk.1.2⟩,hk.2⟩))) (fun _ h_ => h_)))
       (case aB => exact Z14x0)
       (case aF => exact (fun k_ hk => ⟨Kd.fresh' (Kd.R_lt Z14x8) k_ hk,Kd.fresh' (Kd.R_lt Z14x9) k_ hk⟩))
       (case aO => exact (by (with_reducible repeat (first | apply Kd.S_alloc | apply Kd.S_drewN | apply Kd.S_drew));exact Kd.S_mono HO_428006.out (fun k_ hk => ⟨⟨hk.1.1,hk.1.2⟩,fun e_ => hk.2 e_⟩)))
       (case aS => exact (below_size Z14x0))
       (case aL => have := er.out;omega)
       intro gB gC ho hb hg hat;rw [← et.out] at ho;have a7 := mkA (Kd.R_over' Z14x8 (Kd.S_typed (by (with_reducible repeat (first | apply Kd.S_alloc | apply Kd.S_drewN | apply Kd.S_drew));exact HO_428006.out)) (by decide) hg);have aM := mkA (Kd.R_over' Z14x9 (Kd.S_typed (by (with_reducible repeat (first | apply Kd.S_alloc | apply Kd.S_drewN | apply Kd.S_drew));exact HO_428006.out)) (by decide) hg);have aT := mkA (blk_grown (g := av) (o := .cells #[vi ag,vi ah,vi ak,vi al,.slice aE ax.length aG,.slice aC au.length aD,.slice (some dA) ao.length aH] 27 (0,0)) Z14x3 hg (Kd.S_ne HO_428006.out af.out (by decide)));have aW := mkA (blk_grown (g := ab) (o := .cells #[vi 0,vi 0,vi 0,vi 0,.slice none 0 0,.slice none 0 0,.slice none 0 0] 27 (0,0)) Z14x4 hg (Kd.S_ne HO_428006.out ai.out (by decide)));have aX := mkA (blk_grown (g := aj) (o := .cells #[vi ag,vi ah,vi ak,vi al,.slice a8 ar.length aA,.slice aI ay.length aJ,aq] 27 (0,0)) (by (with_reducible repeat (first | refine blk_drewN ?_ _ | refine blk_drew ?_ | refine blk_alloc ?_ _));exact aa.out) hg (Kd.S_ne HO_428006.out aa.out (by decide)));have bd := mkA (hb);have br := mkA (ho);clear HO_428004;clear HO_428005;clear af;clear ai;clear aa;clear HB;clear HO_428006;clear bz;have HO_428004 := a7;have HO_428005 := aM;have af := aT;have ai := aW;have aa := aX;have HB := bd;have dB := br;clear a7 aM aT aW aX bd br;clear ho hb hg hat;obtain ⟨dj,dk,e0⟩ := Kd.S_slice dB.out
       (first | subst e0 | (injection e0 with ey fv ez;have fw := ey.symm;have fx := ez.symm;clear ey fv ez;subst fw;subst fx))
       refine hK.out _ _ ⟨(blk_cell aa.out 0).trans rfl,(blk_cell aa.out 1).trans rfl,(blk_cell aa.out 2).trans rfl,(blk_cell aa.out 3).trans rfl,(blk_cell aa.out 4).trans rfl,(blk_cell aa.out 5).trans rfl,(blk_cell aa.out 6).trans rfl⟩ (fun hHeld => ?_);clear hK K;refine norm_ (a' := ?_) ?_ ?_
       rotate_left
       ·show Act.put _ (some 28) _ = _
        simp only [czP]
        rfl
       refine pure_ (i := 6) (N := some 29) (v := ?_) (a' := ?_) #[true,true,true,true,true,true,true,false] rfl rfl (any_of HT_.out (by kernel_rfl)) (fun _ _ _ h => h) (Or.inl ⟨by rfl,?_⟩) ?_ ?_
       rotate_left
       ·intro w'
        go_simp
        with_reducible rfl
       rotate_left
       ·simp only [czP]
        rfl
       refine last_ (i := 7) (N := none) #[true,true,true,true,true,true,true,true] rfl rfl (one_of HT_.out (by kernel_rfl)) (by decide) (fun K hK => ?_);have gD : gC.cell? ⟨aj,6,none⟩ = some (aq) := (blk_cell aa.out 6).trans rfl;have fU := blk_frozen aa.out 6;have eC := ad.out;have eD := ae.out;have eE := aN.out;have eF := aQ.out;refine skip_ (w1 := ?_) (by rfl) rfl ?_ ?_
       rotate_left
       ·go_simp
        rfl
       refine hK.out _ _ ?_;clear hK K;refine done_ (done_of HT_.out (by kernel_rfl)) ?_
       try go_wp2
       go_roundg k1
       case measure => have := fT.out;omega
       case rel => exact ⟨(wrap64 (aw + 1)),(b1),(.slice dj b1.length dk),(by first | rfl | (simp;done) | (simp [*];done)),H',⟨by have := fT.out;omega⟩,⟨by (with_reducible repeat (first | apply Kd.R_alloc | apply Kd.R_drewN | apply Kd.R_drew));exact Kd.R_mono (Kd.R_far (p := ⟨aj,6,none⟩) (Kd.R_types HO_428004.out aa.out (by decide)) (fun _ hk => hk.2) (.slice dj b1.length dk)) (fun _ hk => hk.1.1)⟩,⟨by (with_reducible repeat (first | apply Kd.R_alloc | apply Kd.R_drewN | apply Kd.R_drew));exact Kd.R_mono (Kd.R_far (p := ⟨aj,6,none⟩) (Kd.R_types HO_428005.out aa.out (by decide)) (fun _ hk => hk.2) (.slice dj b1.length dk)) (fun _ hk => hk.1.1)⟩,⟨by (with_reducible repeat (first | apply Kd.S_alloc | apply Kd.S_drewN | apply Kd.S_drew));exact Kd.S_mono (Kd.S_far (p := ⟨aj,6,none⟩) (Kd.S_types dB.out aa.out (by decide)) (fun _ hk => hk.2) (.slice dj b1.length dk)) (fun _ hk => ⟨hk.1.1,hk.1.2⟩)⟩,⟨Z14x11⟩,⟨Z14x12⟩,⟨by (with_reducible repeat (first | refine blk_drewN ?_ _ | refine blk_drew ?_ | refine blk_alloc ?_ _));refine blk_put (cs := #[vi ag,vi ah,vi ak,vi al,.slice a8 ar.length aA,.slice aI ay.length aJ,aq]) ?_ 6 _ rfl;(with_reducible repeat (first | refine blk_drewN ?_ _ | refine blk_drew ?_ | refine blk_alloc ?_ _));exact aa.out⟩,⟨Z14x0⟩⟩
      ·rw [if_neg eB] at H
       exact absurd H (by simp)
     ·rw [if_neg eA] at H
      exact absurd H (by simp)
    ·rw [if_neg e9] at H
     exact absurd H (by simp)
   ·rw [if_neg dY] at H
    have c21b0 : decide (aw < (ao.length : Int)) = false := decide_eq_false dY;clear dY;simp only [Option.some.injEq,Prod.mk.injEq] at H;obtain ⟨rfl,rfl,rfl,rfl,rfl,rfl,rfl⟩ := H;have fV := aN.out;have fW := ad.out;have fX := aQ.out;have fY := ae.out;obtain ⟨eG,eH,eI,eJ,eK,eL,eM⟩ := cz7 aa.out;obtain ⟨eN,eO,eP,eQ,eR,eS,eT⟩ := fz7 aa.out;have fZ := aZ.out;have f_ := aY.out;obtain ⟨eU,eV,eW,eX,eY,eZ,fa⟩ := cz7 ai.out;obtain ⟨fb,fc,fe,ff,fg,fh,fi⟩ := fz7 ai.out;obtain ⟨dm,dn,fy⟩ := Kd.S_slice HO_428006.out;subst fy
    go_wp2
    refine bodyPost_ret (results_cell_row rfl _ _ ab 27 #[vi ag,vi ah,vi ak,vi al,.slice a8 ar.length aA,.slice aI ay.length aJ,.slice dm an.length dn] (0,0) _ rfl (by (with_reducible repeat (first | refine blk_drewN ?_ _ | refine blk_drew ?_ | refine blk_alloc ?_ _));refine blk_put (cs := #[vi ag,vi ah,vi ak,vi al,.slice a8 ar.length aA,.slice aI ay.length aJ,.slice none 0 0]) ?_ 6 _ rfl;(with_reducible repeat (first | refine blk_drewN ?_ _ | refine blk_drew ?_ | refine blk_alloc ?_ _));refine blk_put (cs := #[vi ag,vi ah,vi ak,vi al,.slice a8 ar.length aA,.slice none 0 0,.slice none 0 0]) ?_ 5 _ rfl;(with_reducible repeat (first | refine blk_drewN ?_ _ | refine blk_drew ?_ | refine blk_alloc ?_ _));refine blk_put (cs := #[vi ag,vi ah,vi ak,vi al,.slice none 0 0,.slice none 0 0,.slice none 0 0]) ?_ 4 _ rfl;(with_reducible repeat (first | refine blk_drewN ?_ _ | refine blk_drew ?_ | refine blk_alloc ?_ _));refine blk_put (cs := #[vi ag,vi ah,vi ak,vi 0,.slice none 0 0,.slice none 0 0,.slice none 0 0]) ?_ 3 _ rfl;(with_reducible repeat (first | refine blk_drewN ?_ _ | refine blk_drew ?_ | refine blk_alloc ?_ _));refine blk_put (cs := #[vi ag,vi ah,vi 0,vi 0,.slice none 0 0,.slice none 0 0,.slice none 0 0]) ?_ 2 _ rfl;(with_reducible repeat (first | refine blk_drewN ?_ _ | refine blk_drew ?_ | refine blk_alloc ?_ _));refine blk_put (cs := #[vi ag,vi 0,vi 0,vi 0,.slice none 0 0,.slice none 0 0,.slice none 0 0]) ?_ 1 _ rfl;(with_reducible repeat (first | refine blk_drewN ?_ _ | refine blk_drew ?_ | refine blk_alloc ?_ _));refine blk_put (cs := #[vi 0,vi 0,vi 0,vi 0,.slice none 0 0,.slice none 0 0,.slice none 0 0]) ?_ 0 _ rfl;(with_reducible repeat (first | refine blk_drewN ?_ _ | refine blk_drew ?_ | refine blk_alloc ?_ _));exact ai.out) Try.underlying27 rfl (by kernel_rfl)) rfl ?_;exact ⟨_,_,_,by first | rfl | (simp [errW_none,errW_some] <;> rfl) | (simp [*,errW_none,errW_some] <;> rfl),by (with_reducible repeat (first | apply Kd.R_alloc | apply Kd.R_drewN | apply Kd.R_drew));exact Kd.R_mono (Kd.R_far (p := ⟨ab,6,none⟩) (Kd.R_far (p := ⟨ab,5,none⟩) (Kd.R_far (p := ⟨ab,4,none⟩) (Kd.R_far (p := ⟨ab,3,none⟩) (Kd.R_far (p := ⟨ab,2,none⟩) (Kd.R_far (p := ⟨ab,1,none⟩) (Kd.R_far (p := ⟨ab,0,none⟩) (Kd.R_types HO_428004.out ai.out (by decide)) (fun _ hk => hk.2) (vi ag)) (fun _ hk => hk.2) (vi ah)) (fun _ hk => hk.2) (vi ak)) (fun _ hk => hk.2) (vi al)) (fun _ hk => hk.2) (.slice a8 ar.length aA)) (fun _ hk => hk.2) (.slice aI ay.length aJ)) (fun _ hk => hk.2) (.slice dm an.length dn)) (fun _ hk => hk.1),by (with_reducible repeat (first | apply Kd.R_alloc | apply Kd.R_drewN | apply Kd.R_drew));exact Kd.R_mono (Kd.R_far (p := ⟨ab,6,none⟩) (Kd.R_far (p := ⟨ab,5,none⟩) (Kd.R_far (p := ⟨ab,4,none⟩) (Kd.R_far (p := ⟨ab,3,none⟩) (Kd.R_far (p := ⟨ab,2,none⟩) (Kd.R_far (p := ⟨ab,1,none⟩) (Kd.R_far (p := ⟨ab,0,none⟩) (Kd.R_types HO_428005.out ai.out (by decide)) (fun _ hk => hk.2) (vi ag)) (fun _ hk => hk.2) (vi ah)) (fun _ hk => hk.2) (vi ak)) (fun _ hk => hk.2) (vi al)) (fun _ hk => hk.2) (.slice a8 ar.length aA)) (fun _ hk => hk.2) (.slice aI ay.length aJ)) (fun _ hk => hk.2) (.slice dm an.length dn)) (fun _ hk => hk.1),by (with_reducible repeat (first | apply Kd.S_alloc | apply Kd.S_drewN | apply Kd.S_drew));exact Kd.S_mono (Kd.S_far (p := ⟨ab,6,none⟩) (Kd.S_far (p := ⟨ab,5,none⟩) (Kd.S_far (p := ⟨ab,4,none⟩) (Kd.S_far (p := ⟨ab,3,none⟩) (Kd.S_far (p := ⟨ab,2,none⟩) (Kd.S_far (p := ⟨ab,1,none⟩) (Kd.S_far (p := ⟨ab,0,none⟩) (Kd.S_types HO_428006.out ai.out (by decide)) (fun _ hk => hk.2) (vi ag)) (fun _ hk => hk.2) (vi ah)) (fun _ hk => hk.2) (vi ak)) (fun _ hk => hk.2) (vi al)) (fun _ hk => hk.2) (.slice a8 ar.length aA)) (fun _ hk => hk.2) (.slice aI ay.length aJ)) (fun _ hk => hk.2) (.slice dm an.length dn)) (fun _ hk => ⟨hk.1.1,hk.1.2⟩),Z14x0⟩

def impl_limited.f (a0 : Int) (a1 : Int) (a2 : Int) : Option (Int) := some (mn (mx a0 a1) a2)
theorem impl_limited.calls (a0 : Int) (a1 : Int) (a2 : Int) (r : Int) (w : World) (h : impl_limited.f a0 a1 a2 = some r) :
  Calls Try.prog 105 #[vi a0,vi a1,vi a2] w fun e w' => e = .returned (vi r) ∧ Below w.heap.size w w' := by
 have HB := mkA (Below.refl w.heap.size w)
 have H : (some (mn (mx a0 a1) a2)) = some r := h
 clear h
 obtain ⟨e1,dp⟩ : ∃ j_ : Int,(mx a0 a1) = j_ := ⟨_,rfl⟩
 replace H : (some (mn (e1) a2)) = some r := by first | (rw [dp] at H;exact H) | (simp only [dp] at H ⊢;exact H)
 have ga : (if a0 < a1 then a1 else a0) = e1 := dp
 obtain ⟨dX,aU⟩ : ∃ j_ : Int,(mn (e1) a2) = j_ := ⟨_,rfl⟩
 replace H : (some dX) = some r := by first | (rw [aU] at H;exact H) | (simp only [aU] at H ⊢;exact H)
 have e2 : (if a2 < (e1) then a2 else (e1)) = dX := aU
 obtain rfl := Option.some.inj H
 simp only [Option.some.injEq,Prod.mk.injEq] at H
 obtain ⟨rfl⟩ := H
 go_enter Try.func105,Try.ntmps105
 go_wp2
 go_ret
 exact ⟨by first | rfl | (simp [errW_none,errW_some] <;> rfl) | (simp only [← dp,← aU];first | rfl | (simp [errW_none,errW_some] <;> rfl)) | (simp [*,errW_none,errW_some] <;> rfl),Z14x1⟩

def impl_Add.f (a0 : Int) (a1 : Int) : Option (Int) := (impl_limited.f a0 0 1000000000).bind fun b2 => ((impl_limited.f a1 0 1000000000).bind fun b3 => (some (mn (wrap64 (b2 + b3)) 1000000000)))
theorem impl_Add.calls (a0 : Int) (a1 : Int) (r : Int) (w : World) (h : impl_Add.f a0 a1 = some r) :
  Calls Try.prog 91 #[vi a0,vi a1] w fun e w' => e = .returned (vi r) ∧ Below w.heap.size w w' := by
 have HB := mkA (Below.refl w.heap.size w)
 have H := h
 unfold impl_Add.f at H
 clear h
 replace H := Option.bind_eq_some_iff.mp H
 obtain ⟨b2,en,H⟩ := H
 try dsimp only at H
 have A3 := mkA en
 clear en
 replace H := Option.bind_eq_some_iff.mp H
 obtain ⟨b3,d_,H⟩ := H
 try dsimp only at H
 have A4 := mkA d_
 clear d_
 obtain ⟨dX,aU⟩ : ∃ j_ : Int,(mn (wrap64 (b2 + b3)) 1000000000) = j_ := ⟨_,rfl⟩
 replace H : (some dX) = some r := by first | (rw [aU] at H;exact H) | (simp only [aU] at H ⊢;exact H)
 (try rw [aU] at A3)
 (try rw [aU] at A4)
 (try (have hji5h : dX ≤ 1000000000 := by (rw [← aU];unfold mn;(repeat' split) <;> omega)))
 (try (have hji5g : dX ≤ 64 := by omega))
 have e2 : (if 1000000000 < (wrap64 (b2 + b3)) then 1000000000 else (wrap64 (b2 + b3))) = dX := aU
 obtain rfl := Option.some.inj H
 simp only [Option.some.injEq,Prod.mk.injEq] at H
 obtain ⟨rfl⟩ := H
 go_enter Try.func91,Try.ntmps91
 go_wp2_with (first | ((with_reducible refine gate_callee (f := 105) rfl ?_);refine goesL_ (some 6) rfl rfl Try.func105 (by kernel_rfl) rfl #[vi a0,vi 0,vi 1000000000] rfl Z14x2 ?_;(with_reducible refine (impl_limited.calls a0 0 1000000000 b2 _ A3.out).mono ?_);rintro e w6 ⟨rfl,hb⟩;refine ⟨_,rfl,?_⟩;have a7 := mkA (below_step Z14x1 hb);clear HB;have HB := a7;clear a7;(try clear hb);(try clear b6);(try clear hk);(try clear hi)) | ((with_reducible refine gate_callee (f := 105) rfl ?_);refine goesL_ (some 8) rfl rfl Try.func105 (by kernel_rfl) rfl #[vi a1,vi 0,vi 1000000000] rfl Z14x2 ?_;(with_reducible refine (impl_limited.calls a1 0 1000000000 b3 _ A4.out).mono ?_);rintro e w7 ⟨rfl,hb⟩;refine ⟨_,rfl,?_⟩;have a7 := mkA (below_step Z14x1 hb);clear HB;have HB := a7;clear a7;(try clear hb);(try clear b6);(try clear hk);(try clear hi)))
 go_ret
 exact ⟨by first | rfl | (simp [errW_none,errW_some] <;> rfl) | (simp only [← aU];first | rfl | (simp [errW_none,errW_some] <;> rfl)) | (simp [*,errW_none,errW_some] <;> rfl),Z14x1⟩

end Go.Proofs.Ytdciagkholijlaa.PFnEntries
