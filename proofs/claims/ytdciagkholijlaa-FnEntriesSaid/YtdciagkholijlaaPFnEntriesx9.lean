-- Written by this session's changed copy of the kit's printer (wip/patch_print.py): not the kit's own print.
import Derived.Test.YtdciagkholijlaaPFnEntriesx0
import Derived.Test.YtdciagkholijlaaPFnEntriesx4
import Derived.Test.YtdciagkholijlaaPFnEntriesx6
import Derived.Test.YtdciagkholijlaaPFnEntriesx7
import Derived.Test.YtdciagkholijlaaPFnEntriesx8
namespace Go.Proofs.Ytdciagkholijlaa.PFnEntries
open Go.RowKit Go.Proofs.YtdciagkholijlaaW.PrintWords Go.Proofs.YtdciagkholijlaaW.PrintLast Go.Proofs.YtdciagkholijlaaW.PrintMore
attribute [local go_sem] max2_int min2_int max_two min_two max_three min_three max_four min_four   -- for this text's walks alone
set_option linter.unusedVariables false
set_option linter.unusedSimpArgs false
set_option maxHeartbeats 8000000
set_option maxRecDepth 100000
theorem Z9x0 {p : Prop} (h : p := by repeat (first | (with_reducible first | exact aA.out | apply IsS95.alloc | apply IsS95.drewN | apply IsS95.drew | apply IsS95.set_1 | apply IsS95.set_2) | exact aA.out)) : p := h
theorem Z9x1 {p : Prop} (h : p := by repeat (first | (with_reducible first | exact HK.out | apply KeepBut.set_ | apply keep_drewN | apply keep_drew | apply keep_alloc) | exact HK.out)) : p := h
theorem Z9x2 {p : Prop} (h : p := by repeat (first | (with_reducible first | exact HB.out | apply below_alloc | apply pw_below_drewN | apply below_drew1 | refine below_set ?_ (IsS95.ge aA.out)) | exact HB.out)) : p := h
theorem Z9x3 {p : Prop} (h : p := by repeat (first | (with_reducible first | exact HK.out | apply KeepBut.set_ | apply keep_drewN | apply keep_drew | apply keep_alloc | refine keep_far ?_ dm.out _) | exact HK.out)) : p := h
theorem Z9x4 {p : Prop} (h : p := by (try simp only [List.map_toArray,List.map_cons,List.map_nil]);first | done | rfl | (simp only [List.length_drop,List.length_take];rfl)) : p := h
theorem Z9x5 {p : Prop} (h : p := by repeat (first | (with_reducible first | exact aA.out | apply IsS95.alloc | apply IsS95.drewN | apply IsS95.drew | apply IsS95.set_1 | apply IsS95.set_2 | refine IsS95.far ?_ b4.out _) | exact aA.out)) : p := h
theorem Z9x6 {p : Prop} (h : p := by repeat (first | (with_reducible first | exact HB.out | apply below_alloc | apply pw_below_drewN | apply below_drew1 | refine below_set ?_ (IsS95.ge aA.out) | refine below_set ?_ dn.out) | exact HB.out)) : p := h
theorem Z9x7 {p : Prop} (h : p := by repeat (first | (with_reducible first | exact HB.out | apply below_alloc | apply pw_below_drewN | apply below_drew1 | refine below_set ?_ cD.out | refine below_set ?_ dp.out) | exact HB.out)) : p := h
theorem Z9x8 {p : Prop} (h : p := by (with_reducible repeat (first | refine blk_drewN ?_ _ | refine blk_drew ?_ | refine blk_alloc ?_ _));refine blk_far ?_ al.out _;(with_reducible repeat (first | refine blk_drewN ?_ _ | refine blk_drew ?_ | refine blk_alloc ?_ _));refine blk_far ?_ al.out _;(with_reducible repeat (first | refine blk_drewN ?_ _ | refine blk_drew ?_ | refine blk_alloc ?_ _));refine blk_far ?_ al.out _;(with_reducible repeat (first | refine blk_drewN ?_ _ | refine blk_drew ?_ | refine blk_alloc ?_ _));refine blk_far ?_ al.out _;(with_reducible repeat (first | refine blk_drewN ?_ _ | refine blk_drew ?_ | refine blk_alloc ?_ _));refine blk_far ?_ al.out _;(with_reducible repeat (first | refine blk_drewN ?_ _ | refine blk_drew ?_ | refine blk_alloc ?_ _));refine blk_far ?_ al.out _;(with_reducible repeat (first | refine blk_drewN ?_ _ | refine blk_drew ?_ | refine blk_alloc ?_ _));refine blk_far ?_ al.out _;(with_reducible repeat (first | refine blk_drewN ?_ _ | refine blk_drew ?_ | refine blk_alloc ?_ _));exact av.out) : p := h
theorem Z9x9 {p : Prop} (h : p := by repeat (first | (with_reducible first | exact HB.out | apply below_alloc | apply pw_below_drewN | apply below_drew1 | refine below_set ?_ cD.out) | exact HB.out)) : p := h
theorem Z9x10 {p : Prop} (h : p := by (with_reducible repeat (first | refine blk_drewN ?_ _ | refine blk_drew ?_ | refine blk_alloc ?_ _));exact aw.out) : p := h
theorem Z9x11 {p : Prop} (h : p := by (with_reducible repeat (first | refine blk_drewN ?_ _ | refine blk_drew ?_ | refine blk_alloc ?_ _));exact av.out) : p := h
theorem Z9x12 {p : Prop} (h : p := by (with_reducible repeat (first | apply Kd.R_alloc | apply Kd.R_drewN | apply Kd.R_drew));exact HO_3.out) : p := h
theorem Z9x13 {p : Prop} (h : p := by (with_reducible repeat (first | apply Kd.R_alloc | apply Kd.R_drewN | apply Kd.R_drew));exact HO_238004.out) : p := h
theorem Z9x14 {p : Prop} (h : p := by (with_reducible repeat (first | apply Kd.R_alloc | apply Kd.R_drewN | apply Kd.R_drew));exact HO_238005.out) : p := h
theorem Z9x15 {p : Prop} (h : p := by (with_reducible repeat (first | apply Kd.R_alloc | apply Kd.R_drewN | apply Kd.R_drew));exact bf.out) : p := h
theorem Z9x16 {p : Prop} (h : p := by first | rfl | (simp [errW_none,errW_some] <;> rfl) | (simp [*,errW_none,errW_some] <;> rfl)) : p := h
theorem Z9x17 {p : Prop} (h : p := by repeat (first | (with_reducible first | exact HB.out | apply below_alloc | apply pw_below_drewN | apply below_drew1) | exact HB.out)) : p := h

def spec_Sketched.l0 : Nat → List Int → Int → Int → Int → Int → Int → List Int → List Int → List (List Int) → Option (Int × Int × Int × Int × List Int × List Int × (List (List Int)))
 | 0,_,_,_,_,_,_,_,_,_ => none
 | k + 1,x0,x4,b5,b6,b7,b8,b9,bA,bB => if x4 < (x0.length : Int) then (if 0 ≤ x4 then ((spec_Insert.f k b5 b6 b7 b8 b9 bA bB (rd x0 x4)).bind fun aY => (spec_Sketched.l0 k x0 (wrap64 (x4 + 1)) aY.1 aY.2.1 aY.2.2.1 aY.2.2.2.1 aY.2.2.2.2.1 aY.2.2.2.2.2.1 aY.2.2.2.2.2.2.1)) else (none)) else (some (b5,b6,b7,b8,b9,bA,bB))
def spec_Sketched.f (k : Nat) (l0 : List Int) : Option (Int × Int × Int × Int × List Int × List Int × (List (List Int))) := (spec_SketchNew.f).bind fun aZ => (spec_Sketched.l0 k l0 0 aZ.1 aZ.2.1 aZ.2.2.1 aZ.2.2.2.1 aZ.2.2.2.2.1 aZ.2.2.2.2.2.1 aZ.2.2.2.2.2.2)
def spec_Sketched.T5 : Bool × List (List Nat × List Nat) := (true,[([],[]),([],[]),([],[]),([1,2],[1,2]),([3],[3]),([0,4],[0,4]),([5],[5]),([6],[6]),([6],[6]),([7,5,0,1,2,3,4,5,6,7],[7])])
def spec_Sketched.B5 : List Nat := [0,0,0,6,14,31,63,127,127,255]
theorem spec_Sketched.tab5 : rtab .any (opsOf Try.f96 5) = spec_Sketched.T5 := by kernel_rfl
theorem spec_Sketched.bits5 : waitsOk spec_Sketched.T5.2 spec_Sketched.B5 = true := by kernel_rfl
theorem spec_Sketched.calls (k : Nat) (A0 : Option Addr) (c0 : Nat) (l0 : List Int) (r1 : Int) (r2 : Int) (r3 : Int) (r4 : Int) (r5 : List Int) (r6 : List Int) (r7 : List (List Int)) (w : World) (fF : Kd.C (Kd.int .i64) w A0 l0.length l0) (fG : l0.length ≤ c0) (h : spec_Sketched.f k l0 = some (r1,r2,r3,r4,r5,r6,r7)) :
  Calls Try.prog 96 #[.slice A0 l0.length c0] w fun e w' => ∃ dY dZ fH : Value,e = .returned (.agg #[vi r1,vi r2,vi r3,vi r4,dY,dZ,fH]) ∧ Kd.R (Kd.int .i64) 3 w' w.heap.size (fun k_ => some k_ ≠ (dZ : Value).ownBlock) dY r5 ∧ Kd.R (Kd.int .i64) 3 w' w.heap.size (fun k_ => some k_ ≠ (dY : Value).ownBlock) dZ r6 ∧ Kd.S (Kd.slice 3 (Kd.int .i64)) 24 w' w.heap.size (fun k_ => some k_ ≠ (dY : Value).ownBlock ∧ some k_ ≠ (dZ : Value).ownBlock) fH r7 ∧ Below w.heap.size w w' := by
 have gh := Try.underlying27
 have gi := mkA fF
 have gP := mkA fG
 clear fF fG
 have HB := mkA (Below.refl w.heap.size w)
 have H := h
 unfold spec_Sketched.f at H
 clear h
 replace H := Option.bind_eq_some_iff.mp H
 obtain ⟨⟨t224,t225,t226,t227,t228,t231,t234⟩,cE,H⟩ := H
 try dsimp only at H
 have A2 := mkA cE
 clear cE
 have H' := mkA H
 clear H
 go_enter Try.func96,Try.ntmps96
 go_wp2_with (first | ((with_reducible refine gate_dst (N := 2) rfl ?_);refine box_event ?hg (N := 2) ?hd (cs := #[vi 0,vi 0,vi 0,vi 0,.slice none 0 0,.slice none 0 0,.slice none 0 0]) (t := 27) ?hr ?_;(case hd => rfl);(case hg => rfl);(case hr => first | (go_simp;done) | (go_simp;rfl));intro an hg w3 hbox hb;have ax := mkA (below_step Z9x17 hb);have ay := mkA (hbox);have az := mkA ((by rw [hg];exact (below_size Z9x17) : w.heap.size ≤ an));have a6 := mkA ((by rw [hg];exact (below_size Z9x17) : w.heap.size ≤ an));clear HB;have HB := ax;have av := ay;have fI := az;have cD := a6;clear ax ay az a6;clear hb hbox hg) | ((with_reducible refine gate_callee (f := 111) rfl ?_);refine goesL_ (some 5) rfl rfl Try.func111 (by kernel_rfl) rfl #[] rfl Z9x4 ?_;(with_reducible refine (spec_SketchNew.calls  t224 t225 t226 t227 t228 t231 t234 _ A2.out).mono ?_);rintro e w4 ⟨v229,v232,gj,rfl,b1,bN,cr,hb⟩;refine ⟨_,rfl,?_⟩;have ax := mkA (Kd.R_lower b1 (below_size Z9x9));have ay := mkA (Kd.R_lower bN (below_size Z9x9));have az := mkA (Kd.S_lower cr (below_size Z9x9));have a6 := mkA (blk_below (g := an) (o := .cells #[vi 0,vi 0,vi 0,vi 0,.slice none 0 0,.slice none 0 0,.slice none 0 0] 27 (0,0)) Z9x11 hb);have aK := mkA (below_step Z9x9 hb);clear av;clear HB;have bn := ax;have bo := ay;have bp := az;have av := a6;have HB := aK;clear ax ay az a6 aK;(try clear hb);(try clear bO);(try clear hk);(try clear hi);(try clear b1);(try clear bN);(try clear cr)) | ((with_reducible refine gate_dst (N := 3) rfl ?_);refine box_event ?hg (N := 3) ?hd (cs := #[vi 0,vi 0,vi 0,vi 0,.slice none 0 0,.slice none 0 0,.slice none 0 0]) (t := 27) ?hr ?_;(case hd => rfl);(case hg => rfl);(case hr => first | (go_simp;done) | (go_simp;rfl));intro aa hg w5 hbox hb;have ax := mkA (Kd.R_below (by (with_reducible repeat (first | apply Kd.R_alloc | apply Kd.R_drewN | apply Kd.R_drew));exact bn.out) hb);have ay := mkA (Kd.R_below (by (with_reducible repeat (first | apply Kd.R_alloc | apply Kd.R_drewN | apply Kd.R_drew));exact bo.out) hb);have az := mkA (Kd.S_below (by (with_reducible repeat (first | apply Kd.S_alloc | apply Kd.S_drewN | apply Kd.S_drew));exact bp.out) hb);have a6 := mkA (blk_below (g := an) (o := .cells #[vi 0,vi 0,vi 0,vi 0,.slice none 0 0,.slice none 0 0,.slice none 0 0] 27 (0,0)) Z9x11 hb);have aK := mkA (below_step Z9x9 hb);have bC := mkA (hbox);have bP := mkA ((by rw [hg];exact (below_size Z9x9) : w.heap.size ≤ aa));have bQ := mkA ((by rw [hg];exact (below_size Z9x9) : w.heap.size ≤ aa));have dq := mkA ((by rw [hg];exact Nat.ne_of_lt (blk_lt (g := an) (o := .cells #[vi 0,vi 0,vi 0,vi 0,.slice none 0 0,.slice none 0 0,.slice none 0 0] 27 (0,0)) Z9x11) : an ≠ aa));have fJ := mkA ((by rw [hg];exact Nat.ne_of_gt (blk_lt (g := an) (o := .cells #[vi 0,vi 0,vi 0,vi 0,.slice none 0 0,.slice none 0 0,.slice none 0 0] 27 (0,0)) Z9x11) : aa ≠ an));clear bn;clear bo;clear bp;clear av;clear HB;have bn := ax;have bo := ay;have bp := az;have av := a6;have HB := aK;have ab := bC;have fK := bP;have dp := bQ;have al := dq;have aq := fJ;clear ax ay az a6 aK bC bP bQ dq fJ;clear hb hbox hg;have gl := aq.out;have gm := al.out;obtain ⟨cP,cQ,cR,cS,cT,cU,cV⟩ := cz7 ab.out;obtain ⟨cW,cX,cY,cZ,c_,da,db⟩ := fz7 ab.out;obtain ⟨di,dj,gn⟩ := Kd.R_slice bn.out;subst gn;obtain ⟨dr,dt,gp⟩ := Kd.R_slice bo.out;subst gp;obtain ⟨ct,cu,fk⟩ := Kd.S_slice bp.out;subst fk))
 go_loopg [4] k (fun kq v4 w' => ∃ (aG : Int) (ad : Int) (ae : Int) (af : Int) (ag : Int) (ah : List Int) (ai : List Int) (aj : List (List Int)) (aM : Value) (aN : Value) (bg : Value),v4 = vi aG ∧ Aside0 (spec_Sketched.l0 kq l0 aG ad ae af ag ah ai aj = some (r1,r2,r3,r4,r5,r6,r7)) ∧ Aside0 (kq ≤ k) ∧ Aside0 (Kd.R (Kd.int .i64) 3 w' w.heap.size (fun k_ => some k_ ≠ (aN : Value).ownBlock) aM ah) ∧ Aside0 (Kd.R (Kd.int .i64) 3 w' w.heap.size (fun k_ => some k_ ≠ (aM : Value).ownBlock) aN ai) ∧ Aside0 (Kd.S (Kd.slice 3 (Kd.int .i64)) 24 w' w.heap.size (fun k_ => some k_ ≠ (aM : Value).ownBlock ∧ some k_ ≠ (aN : Value).ownBlock) bg aj) ∧ Aside0 (w'.heap[an]? = some (.cells #[vi 0,vi 0,vi 0,vi 0,(.slice none 0 0),(.slice none 0 0),(.slice none 0 0)] 27 (0,0))) ∧ Aside0 (w'.heap[aa]? = some (.cells #[vi ad,vi ae,vi af,vi ag,aM,aN,bg] 27 (0,0))) ∧ Aside0 (Below w.heap.size w w'))
 case atStart => exact ⟨(0),(t224),(t225),(t226),(t227),(t228),(t231),(t234),(.slice di t228.length dj),(.slice dr t231.length dt),(.slice ct t234.length cu),(by first | rfl | (simp;done) | (simp [*];done)),H',⟨Nat.le_refl _⟩,⟨by (with_reducible repeat (first | apply Kd.R_alloc | apply Kd.R_drewN | apply Kd.R_drew));exact Kd.R_mono (Kd.R_far (p := ⟨aa,6,none⟩) (Kd.R_far (p := ⟨aa,5,none⟩) (Kd.R_far (p := ⟨aa,4,none⟩) (Kd.R_far (p := ⟨aa,3,none⟩) (Kd.R_far (p := ⟨aa,2,none⟩) (Kd.R_far (p := ⟨aa,1,none⟩) (Kd.R_far (p := ⟨aa,0,none⟩) (Kd.R_types bn.out ab.out (by decide)) (fun _ hk => hk.2) (vi t224)) (fun _ hk => hk.2) (vi t225)) (fun _ hk => hk.2) (vi t226)) (fun _ hk => hk.2) (vi t227)) (fun _ hk => hk.2) (.slice di t228.length dj)) (fun _ hk => hk.2) (.slice dr t231.length dt)) (fun _ hk => hk.2) (.slice ct t234.length cu)) (fun _ hk => hk.1)⟩,⟨by (with_reducible repeat (first | apply Kd.R_alloc | apply Kd.R_drewN | apply Kd.R_drew));exact Kd.R_mono (Kd.R_far (p := ⟨aa,6,none⟩) (Kd.R_far (p := ⟨aa,5,none⟩) (Kd.R_far (p := ⟨aa,4,none⟩) (Kd.R_far (p := ⟨aa,3,none⟩) (Kd.R_far (p := ⟨aa,2,none⟩) (Kd.R_far (p := ⟨aa,1,none⟩) (Kd.R_far (p := ⟨aa,0,none⟩) (Kd.R_types bo.out ab.out (by decide)) (fun _ hk => hk.2) (vi t224)) (fun _ hk => hk.2) (vi t225)) (fun _ hk => hk.2) (vi t226)) (fun _ hk => hk.2) (vi t227)) (fun _ hk => hk.2) (.slice di t228.length dj)) (fun _ hk => hk.2) (.slice dr t231.length dt)) (fun _ hk => hk.2) (.slice ct t234.length cu)) (fun _ hk => hk.1)⟩,⟨by (with_reducible repeat (first | apply Kd.S_alloc | apply Kd.S_drewN | apply Kd.S_drew));exact Kd.S_mono (Kd.S_far (p := ⟨aa,6,none⟩) (Kd.S_far (p := ⟨aa,5,none⟩) (Kd.S_far (p := ⟨aa,4,none⟩) (Kd.S_far (p := ⟨aa,3,none⟩) (Kd.S_far (p := ⟨aa,2,none⟩) (Kd.S_far (p := ⟨aa,1,none⟩) (Kd.S_far (p := ⟨aa,0,none⟩) (Kd.S_types bp.out ab.out (by decide)) (fun _ hk => hk.2) (vi t224)) (fun _ hk => hk.2) (vi t225)) (fun _ hk => hk.2) (vi t226)) (fun _ hk => hk.2) (vi t227)) (fun _ hk => hk.2) (.slice di t228.length dj)) (fun _ hk => hk.2) (.slice dr t231.length dt)) (fun _ hk => hk.2) (.slice ct t234.length cu)) (fun _ hk => ⟨hk.1.1,hk.1.2⟩)⟩,⟨Z9x8⟩,⟨by (with_reducible repeat (first | refine blk_drewN ?_ _ | refine blk_drew ?_ | refine blk_alloc ?_ _));refine blk_put (cs := #[vi t224,vi t225,vi t226,vi t227,.slice di t228.length dj,.slice dr t231.length dt,.slice none 0 0]) ?_ 6 _ rfl;(with_reducible repeat (first | refine blk_drewN ?_ _ | refine blk_drew ?_ | refine blk_alloc ?_ _));refine blk_put (cs := #[vi t224,vi t225,vi t226,vi t227,.slice di t228.length dj,.slice none 0 0,.slice none 0 0]) ?_ 5 _ rfl;(with_reducible repeat (first | refine blk_drewN ?_ _ | refine blk_drew ?_ | refine blk_alloc ?_ _));refine blk_put (cs := #[vi t224,vi t225,vi t226,vi t227,.slice none 0 0,.slice none 0 0,.slice none 0 0]) ?_ 4 _ rfl;(with_reducible repeat (first | refine blk_drewN ?_ _ | refine blk_drew ?_ | refine blk_alloc ?_ _));refine blk_put (cs := #[vi t224,vi t225,vi t226,vi 0,.slice none 0 0,.slice none 0 0,.slice none 0 0]) ?_ 3 _ rfl;(with_reducible repeat (first | refine blk_drewN ?_ _ | refine blk_drew ?_ | refine blk_alloc ?_ _));refine blk_put (cs := #[vi t224,vi t225,vi 0,vi 0,.slice none 0 0,.slice none 0 0,.slice none 0 0]) ?_ 2 _ rfl;(with_reducible repeat (first | refine blk_drewN ?_ _ | refine blk_drew ?_ | refine blk_alloc ?_ _));refine blk_put (cs := #[vi t224,vi 0,vi 0,vi 0,.slice none 0 0,.slice none 0 0,.slice none 0 0]) ?_ 1 _ rfl;(with_reducible repeat (first | refine blk_drewN ?_ _ | refine blk_drew ?_ | refine blk_alloc ?_ _));refine blk_put (cs := #[vi 0,vi 0,vi 0,vi 0,.slice none 0 0,.slice none 0 0,.slice none 0 0]) ?_ 0 _ rfl;(with_reducible repeat (first | refine blk_drewN ?_ _ | refine blk_drew ?_ | refine blk_alloc ?_ _));exact ab.out⟩,⟨Z9x7⟩⟩
 case round =>
  clear H'
  try clear c1
  try clear p2
  try clear c6
  try clear c9
  try clear cP cQ cR cS cT cU cV
  try clear cW cX cY cZ c_ da db
  (try clear av)
  (try clear ab)
  obtain ⟨aG,ad,ae,af,ag,ah,ai,aj,aM,aN,bg,rfl,HA,du,HO_238004,HO_238005,HO_238006,av,ab,HB⟩ := hrel
  cases gk with
  | zero => exact absurd HA.out (by simp [spec_Sketched.l0])
  | succ k1 =>
   have H := HA.out
   clear HA
   simp only [spec_Sketched.l0] at H
   by_cases dk : aG < (l0.length : Int)
   ·rw [if_pos dk] at H
    have c11b0 : decide (aG < (l0.length : Int)) = true := decide_eq_true dk;clear dk
    by_cases d_ : 0 ≤ aG
    ·rw [if_pos d_] at H
     have c12b0 : decide (0 ≤ aG) = true := decide_eq_true d_;clear d_;replace H := Option.bind_eq_some_iff.mp H;obtain ⟨⟨t239,t240,t241,t242,t243,t246,t249,fl⟩,dv,H⟩ := H
     try dsimp only at H
     have gq := mkA dv;clear dv;have H' := mkA H;clear H
     try go_wp2
     have ax := mkA (Kd.R_drew HO_238004.out);have ay := mkA (Kd.R_drew HO_238005.out);have az := mkA (Kd.S_drew HO_238006.out);have a6 := mkA (blk_drew av.out);have aK := mkA (blk_drew ab.out);have bC := mkA (below_drew1 HB.out);clear HO_238004;clear HO_238005;clear HO_238006;clear av;clear ab;clear HB;have HO_238004 := ax;have HO_238005 := ay;have HO_238006 := az;have av := a6;have ab := aK;have HB := bC;clear ax ay az a6 aK bC;have dc : 0 ≤ (aG : Int) := of_decide_eq_true (by first | (with_reducible assumption) | assumption);have dd : aG < (l0.length : Int) := of_decide_eq_true (by first | (with_reducible assumption) | assumption);obtain ⟨dw,fm,aW⟩ := Kd.at_int gi.out aG dc dd;have aX := aW
     cases fm
     replace aW := czB HB.out aW;replace dc := eq_true dc;replace dd := eq_true dd;obtain ⟨bh,bj,dx⟩ := Kd.R_slice HO_238004.out
     (first | subst dx | (injection dx with bq bR br;have bS := bq.symm;have bT := br.symm;clear bq bR br;subst bS;subst bT))
     obtain ⟨aH,aI,cv⟩ := Kd.R_slice HO_238005.out
     (first | subst cv | (injection cv with bq bR br;have bS := bq.symm;have bT := br.symm;clear bq bR br;subst bS;subst bT))
     obtain ⟨aB,aC,cw⟩ := Kd.S_slice HO_238006.out
     (first | subst cw | (injection cw with bq bR br;have bS := bq.symm;have bT := br.symm;clear bq bR br;subst bS;subst bT))
     refine start_ (n := 10) (S := fun w' => w'.cell? ⟨aa,0,none⟩ = some (vi ad) ∧ w'.cell? ⟨aa,1,none⟩ = some (vi ae) ∧ w'.cell? ⟨aa,2,none⟩ = some (vi af) ∧ w'.cell? ⟨aa,3,none⟩ = some (vi ag) ∧ w'.cell? ⟨aa,4,none⟩ = some (.slice bh ah.length bj) ∧ w'.cell? ⟨aa,5,none⟩ = some (.slice aH ai.length aI) ∧ w'.cell? ⟨aa,6,none⟩ = some (.slice aB aj.length aC) ∧ w'.cell? (dw.add (aG).toNat) = some (vi (rd l0 aG))) (ds := [9]) #[false,false,false,false,false,false,false,false,false,false] (by kernel_rfl) rfl rfl ⟨(blk_cell ab.out 0).trans rfl,(blk_cell ab.out 1).trans rfl,(blk_cell ab.out 2).trans rfl,(blk_cell ab.out 3).trans rfl,(blk_cell ab.out 4).trans rfl,(blk_cell ab.out 5).trans rfl,(blk_cell ab.out 6).trans rfl,((HB.out.cell (World.block_lt_of_cell? w _ aX)).trans aX)⟩ (fun hHeld => ?_);refine with_tabW spec_Sketched.tab5 spec_Sketched.bits5 (fun HT_ HW_ => ?_);generalize wr.drew = gr at HO_238004 HO_238005 HO_238006 av ab HB aW hHeld ⊢;refine pure_ (i := 1) (N := some 14) (v := ?_) (a' := ?_) #[false,true,false,false,false,false,false,false,false,false] rfl rfl (any_of HT_.out (by kernel_rfl)) (fun _ _ _ h => h) (Or.inl ⟨by rfl,?_⟩) ?_ ?_
     rotate_left
     ·intro w'
      go_simp
      with_reducible rfl
     rotate_left
     ·simp only [czP]
      rfl
     refine pure_ (i := 2) (N := some 15) (v := ?_) (a' := ?_) #[false,true,true,false,false,false,false,false,false,false] rfl rfl (any_of HT_.out (by kernel_rfl)) (fun _ _ _ h => h) (Or.inl ⟨by rfl,?_⟩) ?_ ?_
     rotate_left
     ·intro w'
      go_simp
      with_reducible rfl
     rotate_left
     ·simp only [czP]
      rfl
     refine pure_ (i := 3) (N := some 16) (v := ?_) (a' := ?_) #[false,true,true,true,false,false,false,false,false,false] rfl rfl (any_of HT_.out (by kernel_rfl)) (fun _ _ _ h => h) (Or.inl ⟨by rfl,?_⟩) ?_ ?_
     rotate_left
     ·intro w'
      go_simp
      with_reducible rfl
     rotate_left
     ·simp only [czP]
      rfl
     refine take_ (i := 0) (N := some 13) (v := ?_) (a' := ?_) #[true,true,true,true,false,false,false,false,false,false] rfl rfl (take_ofW HT_.out HW_.out (by kernel_rfl)) (fun _ _ _ h => h) (Or.inl ⟨by rfl,?_⟩) hHeld ?_ ?_
     rotate_left
     ·rintro w' ⟨s0,s1,s2,s3,s4,s5,s6,s7⟩
      go_simp
      with_reducible rfl
     rotate_left
     ·simp only [czP]
      rfl
     refine take_ (i := 4) (N := some 17) (v := ?_) (a' := ?_) #[true,true,true,true,true,false,false,false,false,false] rfl rfl (take_ofW HT_.out HW_.out (by kernel_rfl)) (fun _ _ _ h => h) (Or.inl ⟨by rfl,?_⟩) hHeld ?_ ?_
     rotate_left
     ·rintro w' ⟨s0,s1,s2,s3,s4,s5,s6,s7⟩
      go_simp
      with_reducible rfl
     rotate_left
     ·simp only [czP]
      rfl
     refine one_ (i := 5) (N := some 18) #[true,true,true,true,true,true,false,false,false,false] rfl rfl (one_of HT_.out (by kernel_rfl)) (by decide) (fun K hK => ?_);refine goes_ Try.func112 (by kernel_rfl) rfl #[.agg #[vi ad,vi ae,vi af,vi ag,.slice bh ah.length bj,.slice aH ai.length aI,.slice aB aj.length aC],vi (rd l0 aG)] (by rfl) rfl rfl Z9x4 ?_
     with_reducible refine (spec_Insert.calls k1 ad ae af ag _ _ ah _ _ ai _ _ aj (rd l0 aG) t239 t240 t241 t242 t243 t246 t249 fl _ ?ar ?au ?bU ?bV ?bW ?dy gq.out).mono ?_
     (case ar => repeat (first | exact (Kd.R_reads' HO_238004.out).2.2 | (with_reducible refine Kd.C_alloc ?_ _) | (with_reducible refine Kd.C_drewN ?_ _) | (with_reducible refine Kd.C_drew ?_)))
     (case au => exact (Kd.R_reads' HO_238004.out).2.1)
     (case bU => repeat (first | exact (Kd.R_reads' HO_238005.out).2.2 | (with_reducible refine Kd.C_alloc ?_ _) | (with_reducible refine Kd.C_drewN ?_ _) | (with_reducible refine Kd.C_drew ?_)))
     (case bV => exact (Kd.R_reads' HO_238005.out).2.1)
     (case bW => repeat (first | exact (Kd.S_reads' HO_238006.out).2.2 | (with_reducible refine Kd.C_alloc ?_ _) | (with_reducible refine Kd.C_drewN ?_ _) | (with_reducible refine Kd.C_drew ?_)))
     (case dy => exact (Kd.S_reads' HO_238006.out).2.1)
     rintro e de ⟨gu,gv,gw,rfl,b1,bN,cr,hb⟩
     refine ⟨_,rfl,?_⟩;have ax := mkA (Kd.R_mono (Kd.R_told (Kd.R_told (Kd.R_old Z9x13 hb) (Kd.R_base b1)) (Kd.R_base bN)) (fun _ h_ => h_.1));have ay := mkA (Kd.R_mono (Kd.R_told (Kd.R_told (Kd.R_old Z9x14 hb) (Kd.R_base b1)) (Kd.R_base bN)) (fun _ h_ => h_.1));have az := mkA (Kd.S_mono (Kd.S_told (Kd.S_told (Kd.S_told (Kd.S_old (by (with_reducible repeat (first | apply Kd.S_alloc | apply Kd.S_drewN | apply Kd.S_drew));exact HO_238006.out) hb) (Kd.R_base b1)) (Kd.R_base bN)) (Kd.S_base cr)) (fun _ h_ => h_.1));have a6 := mkA (Kd.R_lower (Kd.R_new' (Kd.R_new' b1 (Kd.R_lt Z9x13)) (Kd.R_lt Z9x14)) (below_size Z9x7));have aK := mkA (Kd.R_lower (Kd.R_new' (Kd.R_new' bN (Kd.R_lt Z9x13)) (Kd.R_lt Z9x14)) (below_size Z9x7));have bC := mkA (Kd.S_lower (Kd.S_new' (Kd.S_new' (Kd.S_new' cr (Kd.R_lt Z9x13)) (Kd.R_lt Z9x14)) (Kd.S_lt (by (with_reducible repeat (first | apply Kd.S_alloc | apply Kd.S_drewN | apply Kd.S_drew));exact HO_238006.out))) (below_size Z9x7));have bP := mkA (blk_below (g := an) (o := .cells #[vi 0,vi 0,vi 0,vi 0,.slice none 0 0,.slice none 0 0,.slice none 0 0] 27 (0,0)) Z9x11 hb);have bQ := mkA (blk_below (g := aa) (o := .cells #[vi ad,vi ae,vi af,vi ag,.slice bh ah.length bj,.slice aH ai.length aI,.slice aB aj.length aC] 27 (0,0)) (by (with_reducible repeat (first | refine blk_drewN ?_ _ | refine blk_drew ?_ | refine blk_alloc ?_ _));exact ab.out) hb);have dq := mkA (below_step Z9x7 hb);clear HO_238004;clear HO_238005;clear HO_238006;clear av;clear ab;clear HB;have HO_238004 := ax;have HO_238005 := ay;have HO_238006 := az;have cF := a6;have cG := aK;have cH := bC;have av := bP;have ab := bQ;have HB := dq;clear ax ay az a6 aK bC bP bQ dq
     (try clear hb)
     (try clear bO)
     (try clear hk)
     (try clear hi)
     (try clear b1)
     (try clear bN)
     (try clear cr)
     obtain ⟨bE,bF,dz⟩ := Kd.R_slice cF.out
     (first | subst dz | (injection dz with bq bR br;have bS := bq.symm;have bT := br.symm;clear bq bR br;subst bS;subst bT))
     obtain ⟨bX,bY,dA⟩ := Kd.R_slice cG.out
     (first | subst dA | (injection dA with bq bR br;have bS := bq.symm;have bT := br.symm;clear bq bR br;subst bS;subst bT))
     obtain ⟨cx,cy,dB⟩ := Kd.S_slice cH.out
     (first | subst dB | (injection dB with bq bR br;have bS := bq.symm;have bT := br.symm;clear bq bR br;subst bS;subst bT))
     refine hK.out _ _ ⟨(blk_cell ab.out 0).trans rfl,(blk_cell ab.out 1).trans rfl,(blk_cell ab.out 2).trans rfl,(blk_cell ab.out 3).trans rfl,(blk_cell ab.out 4).trans rfl,(blk_cell ab.out 5).trans rfl,(blk_cell ab.out 6).trans rfl,((HB.out.cell (World.block_lt_of_cell? w _ aX)).trans aX)⟩ (fun hHeld => ?_);clear hK K;refine norm_ (a' := ?_) ?_ ?_
     rotate_left
     ·show Act.put _ (some 18) _ = _
      simp only [czP]
      rfl
     refine pure_ (i := 6) (N := some 12) (v := ?_) (a' := ?_) #[true,true,true,true,true,true,true,false,false,false] rfl rfl (any_of HT_.out (by kernel_rfl)) (fun _ _ _ h => h) (Or.inl ⟨by rfl,?_⟩) ?_ ?_
     rotate_left
     ·intro w'
      go_simp
      with_reducible rfl
     rotate_left
     ·simp only [czP]
      rfl
     refine pure_ (i := 7) (N := some 19) (v := ?_) (a' := ?_) #[true,true,true,true,true,true,true,true,false,false] rfl rfl (any_of HT_.out (by kernel_rfl)) (fun _ _ _ h => h) (Or.inl ⟨by rfl,?_⟩) ?_ ?_
     rotate_left
     ·intro w'
      go_simp
      with_reducible rfl
     rotate_left
     ·simp only [czP]
      rfl
     refine pure_ (i := 8) (N := some 20) (v := ?_) (a' := ?_) #[true,true,true,true,true,true,true,true,true,false] rfl rfl (any_of HT_.out (by kernel_rfl)) (fun _ _ _ h => h) (Or.inl ⟨by rfl,?_⟩) ?_ ?_
     rotate_left
     ·intro w'
      go_simp
      with_reducible rfl
     rotate_left
     ·simp only [czP]
      rfl
     refine last_ (i := 9) (N := none) #[true,true,true,true,true,true,true,true,true,true] rfl rfl (one_of HT_.out (by kernel_rfl)) (by decide) (fun K hK => ?_);have gx : de.cell? ⟨aa,0,none⟩ = some (vi ad) := (blk_cell ab.out 0).trans rfl;have fL := blk_frozen ab.out 0;have ea := al.out;have eb := aq.out;have gy : de.cell? ⟨aa,1,none⟩ = some (vi ae) := (blk_cell ab.out 1).trans rfl;have fM := blk_frozen ab.out 1;have ec := al.out;have ed := aq.out;have gz : de.cell? ⟨aa,2,none⟩ = some (vi af) := (blk_cell ab.out 2).trans rfl;have fN := blk_frozen ab.out 2;have ee := al.out;have ef := aq.out;have gA : de.cell? ⟨aa,3,none⟩ = some (vi ag) := (blk_cell ab.out 3).trans rfl;have fO := blk_frozen ab.out 3;have eg := al.out;have eh := aq.out;have gB : de.cell? ⟨aa,4,none⟩ = some (.slice bh ah.length bj) := (blk_cell ab.out 4).trans rfl;have fP := blk_frozen ab.out 4;have ei := al.out;have ej := aq.out;have gC : de.cell? ⟨aa,5,none⟩ = some (.slice aH ai.length aI) := (blk_cell ab.out 5).trans rfl;have fQ := blk_frozen ab.out 5;have ek := al.out;have en := aq.out;have gD : de.cell? ⟨aa,6,none⟩ = some (.slice aB aj.length aC) := (blk_cell ab.out 6).trans rfl;have fR := blk_frozen ab.out 6;have eo := al.out;have ep := aq.out;refine skip_ (w1 := ?_) (by rfl) rfl ?_ ?_
     rotate_left
     ·go_simp
      rfl
     refine hK.out _ _ ?_;clear hK K;refine done_ (done_of HT_.out (by kernel_rfl)) ?_
     try go_wp2
     go_roundg k1
     case measure => have := du.out;omega
     case rel => exact ⟨(wrap64 (aG + 1)),(t239),(t240),(t241),(t242),(t243),(t246),(t249),(.slice bE t243.length bF),(.slice bX t246.length bY),(.slice cx t249.length cy),(by first | rfl | (simp;done) | (simp [*];done)),H',⟨by have := du.out;omega⟩,⟨by (with_reducible repeat (first | apply Kd.R_alloc | apply Kd.R_drewN | apply Kd.R_drew));exact Kd.R_mono (Kd.R_far (p := ⟨aa,6,none⟩) (Kd.R_far (p := ⟨aa,5,none⟩) (Kd.R_far (p := ⟨aa,4,none⟩) (Kd.R_far (p := ⟨aa,3,none⟩) (Kd.R_far (p := ⟨aa,2,none⟩) (Kd.R_far (p := ⟨aa,1,none⟩) (Kd.R_far (p := ⟨aa,0,none⟩) (Kd.R_types cF.out ab.out (by decide)) (fun _ hk => hk.2) (vi t239)) (fun _ hk => hk.2) (vi t240)) (fun _ hk => hk.2) (vi t241)) (fun _ hk => hk.2) (vi t242)) (fun _ hk => hk.2) (.slice bE t243.length bF)) (fun _ hk => hk.2) (.slice bX t246.length bY)) (fun _ hk => hk.2) (.slice cx t249.length cy)) (fun _ hk => hk.1.1.1)⟩,⟨by (with_reducible repeat (first | apply Kd.R_alloc | apply Kd.R_drewN | apply Kd.R_drew));exact Kd.R_mono (Kd.R_far (p := ⟨aa,6,none⟩) (Kd.R_far (p := ⟨aa,5,none⟩) (Kd.R_far (p := ⟨aa,4,none⟩) (Kd.R_far (p := ⟨aa,3,none⟩) (Kd.R_far (p := ⟨aa,2,none⟩) (Kd.R_far (p := ⟨aa,1,none⟩) (Kd.R_far (p := ⟨aa,0,none⟩) (Kd.R_types cG.out ab.out (by decide)) (fun _ hk => hk.2) (vi t239)) (fun _ hk => hk.2) (vi t240)) (fun _ hk => hk.2) (vi t241)) (fun _ hk => hk.2) (vi t242)) (fun _ hk => hk.2) (.slice bE t243.length bF)) (fun _ hk => hk.2) (.slice bX t246.length bY)) (fun _ hk => hk.2) (.slice cx t249.length cy)) (fun _ hk => hk.1.1.1)⟩,⟨by (with_reducible repeat (first | apply Kd.S_alloc | apply Kd.S_drewN | apply Kd.S_drew));exact Kd.S_mono (Kd.S_far (p := ⟨aa,6,none⟩) (Kd.S_far (p := ⟨aa,5,none⟩) (Kd.S_far (p := ⟨aa,4,none⟩) (Kd.S_far (p := ⟨aa,3,none⟩) (Kd.S_far (p := ⟨aa,2,none⟩) (Kd.S_far (p := ⟨aa,1,none⟩) (Kd.S_far (p := ⟨aa,0,none⟩) (Kd.S_types cH.out ab.out (by decide)) (fun _ hk => hk.2) (vi t239)) (fun _ hk => hk.2) (vi t240)) (fun _ hk => hk.2) (vi t241)) (fun _ hk => hk.2) (vi t242)) (fun _ hk => hk.2) (.slice bE t243.length bF)) (fun _ hk => hk.2) (.slice bX t246.length bY)) (fun _ hk => hk.2) (.slice cx t249.length cy)) (fun _ hk => ⟨hk.1.1.1.1.1,hk.1.1.1.1.2⟩)⟩,⟨Z9x8⟩,⟨by (with_reducible repeat (first | refine blk_drewN ?_ _ | refine blk_drew ?_ | refine blk_alloc ?_ _));refine blk_put (cs := #[vi t239,vi t240,vi t241,vi t242,.slice bE t243.length bF,.slice bX t246.length bY,.slice aB aj.length aC]) ?_ 6 _ rfl;(with_reducible repeat (first | refine blk_drewN ?_ _ | refine blk_drew ?_ | refine blk_alloc ?_ _));refine blk_put (cs := #[vi t239,vi t240,vi t241,vi t242,.slice bE t243.length bF,.slice aH ai.length aI,.slice aB aj.length aC]) ?_ 5 _ rfl;(with_reducible repeat (first | refine blk_drewN ?_ _ | refine blk_drew ?_ | refine blk_alloc ?_ _));refine blk_put (cs := #[vi t239,vi t240,vi t241,vi t242,.slice bh ah.length bj,.slice aH ai.length aI,.slice aB aj.length aC]) ?_ 4 _ rfl;(with_reducible repeat (first | refine blk_drewN ?_ _ | refine blk_drew ?_ | refine blk_alloc ?_ _));refine blk_put (cs := #[vi t239,vi t240,vi t241,vi ag,.slice bh ah.length bj,.slice aH ai.length aI,.slice aB aj.length aC]) ?_ 3 _ rfl;(with_reducible repeat (first | refine blk_drewN ?_ _ | refine blk_drew ?_ | refine blk_alloc ?_ _));refine blk_put (cs := #[vi t239,vi t240,vi af,vi ag,.slice bh ah.length bj,.slice aH ai.length aI,.slice aB aj.length aC]) ?_ 2 _ rfl;(with_reducible repeat (first | refine blk_drewN ?_ _ | refine blk_drew ?_ | refine blk_alloc ?_ _));refine blk_put (cs := #[vi t239,vi ae,vi af,vi ag,.slice bh ah.length bj,.slice aH ai.length aI,.slice aB aj.length aC]) ?_ 1 _ rfl;(with_reducible repeat (first | refine blk_drewN ?_ _ | refine blk_drew ?_ | refine blk_alloc ?_ _));refine blk_put (cs := #[vi ad,vi ae,vi af,vi ag,.slice bh ah.length bj,.slice aH ai.length aI,.slice aB aj.length aC]) ?_ 0 _ rfl;(with_reducible repeat (first | refine blk_drewN ?_ _ | refine blk_drew ?_ | refine blk_alloc ?_ _));exact ab.out⟩,⟨Z9x7⟩⟩
    ·rw [if_neg d_] at H
     exact absurd H (by simp)
   ·rw [if_neg dk] at H
    have c11b0 : decide (aG < (l0.length : Int)) = false := decide_eq_false dk;clear dk;simp only [Option.some.injEq,Prod.mk.injEq] at H;obtain ⟨rfl,rfl,rfl,rfl,rfl,rfl,rfl⟩ := H;have fS := aq.out;have fT := al.out;obtain ⟨er,et,eu,ev,ew,ey,ez⟩ := cz7 ab.out;obtain ⟨e0,e1,e2,e3,e7,e8,e9⟩ := fz7 ab.out;obtain ⟨eA,eB,eC,eD,eE,eF,eG⟩ := cz7 av.out;obtain ⟨eH,eI,eJ,eK,eL,eM,eN⟩ := fz7 av.out;obtain ⟨bG,bH,fo⟩ := Kd.R_slice HO_238004.out;subst fo;obtain ⟨bZ,b_,fp⟩ := Kd.R_slice HO_238005.out;subst fp;obtain ⟨cz,cA,fq⟩ := Kd.S_slice HO_238006.out;subst fq
    go_wp2
    refine bodyPost_ret (results_cell_row rfl _ _ an 27 #[vi ad,vi ae,vi af,vi ag,.slice bG ah.length bH,.slice bZ ai.length b_,.slice cz aj.length cA] (0,0) _ rfl (by (with_reducible repeat (first | refine blk_drewN ?_ _ | refine blk_drew ?_ | refine blk_alloc ?_ _));refine blk_put (cs := #[vi ad,vi ae,vi af,vi ag,.slice bG ah.length bH,.slice bZ ai.length b_,.slice none 0 0]) ?_ 6 _ rfl;(with_reducible repeat (first | refine blk_drewN ?_ _ | refine blk_drew ?_ | refine blk_alloc ?_ _));refine blk_put (cs := #[vi ad,vi ae,vi af,vi ag,.slice bG ah.length bH,.slice none 0 0,.slice none 0 0]) ?_ 5 _ rfl;(with_reducible repeat (first | refine blk_drewN ?_ _ | refine blk_drew ?_ | refine blk_alloc ?_ _));refine blk_put (cs := #[vi ad,vi ae,vi af,vi ag,.slice none 0 0,.slice none 0 0,.slice none 0 0]) ?_ 4 _ rfl;(with_reducible repeat (first | refine blk_drewN ?_ _ | refine blk_drew ?_ | refine blk_alloc ?_ _));refine blk_put (cs := #[vi ad,vi ae,vi af,vi 0,.slice none 0 0,.slice none 0 0,.slice none 0 0]) ?_ 3 _ rfl;(with_reducible repeat (first | refine blk_drewN ?_ _ | refine blk_drew ?_ | refine blk_alloc ?_ _));refine blk_put (cs := #[vi ad,vi ae,vi 0,vi 0,.slice none 0 0,.slice none 0 0,.slice none 0 0]) ?_ 2 _ rfl;(with_reducible repeat (first | refine blk_drewN ?_ _ | refine blk_drew ?_ | refine blk_alloc ?_ _));refine blk_put (cs := #[vi ad,vi 0,vi 0,vi 0,.slice none 0 0,.slice none 0 0,.slice none 0 0]) ?_ 1 _ rfl;(with_reducible repeat (first | refine blk_drewN ?_ _ | refine blk_drew ?_ | refine blk_alloc ?_ _));refine blk_put (cs := #[vi 0,vi 0,vi 0,vi 0,.slice none 0 0,.slice none 0 0,.slice none 0 0]) ?_ 0 _ rfl;(with_reducible repeat (first | refine blk_drewN ?_ _ | refine blk_drew ?_ | refine blk_alloc ?_ _));exact av.out) Try.underlying27 rfl (by kernel_rfl)) rfl ?_;exact ⟨_,_,_,Z9x16,by (with_reducible repeat (first | apply Kd.R_alloc | apply Kd.R_drewN | apply Kd.R_drew));exact Kd.R_mono (Kd.R_far (p := ⟨an,6,none⟩) (Kd.R_far (p := ⟨an,5,none⟩) (Kd.R_far (p := ⟨an,4,none⟩) (Kd.R_far (p := ⟨an,3,none⟩) (Kd.R_far (p := ⟨an,2,none⟩) (Kd.R_far (p := ⟨an,1,none⟩) (Kd.R_far (p := ⟨an,0,none⟩) (Kd.R_types HO_238004.out av.out (by decide)) (fun _ hk => hk.2) (vi ad)) (fun _ hk => hk.2) (vi ae)) (fun _ hk => hk.2) (vi af)) (fun _ hk => hk.2) (vi ag)) (fun _ hk => hk.2) (.slice bG ah.length bH)) (fun _ hk => hk.2) (.slice bZ ai.length b_)) (fun _ hk => hk.2) (.slice cz aj.length cA)) (fun _ hk => hk.1),by (with_reducible repeat (first | apply Kd.R_alloc | apply Kd.R_drewN | apply Kd.R_drew));exact Kd.R_mono (Kd.R_far (p := ⟨an,6,none⟩) (Kd.R_far (p := ⟨an,5,none⟩) (Kd.R_far (p := ⟨an,4,none⟩) (Kd.R_far (p := ⟨an,3,none⟩) (Kd.R_far (p := ⟨an,2,none⟩) (Kd.R_far (p := ⟨an,1,none⟩) (Kd.R_far (p := ⟨an,0,none⟩) (Kd.R_types HO_238005.out av.out (by decide)) (fun _ hk => hk.2) (vi ad)) (fun _ hk => hk.2) (vi ae)) (fun _ hk => hk.2) (vi af)) (fun _ hk => hk.2) (vi ag)) (fun _ hk => hk.2) (.slice bG ah.length bH)) (fun _ hk => hk.2) (.slice bZ ai.length b_)) (fun _ hk => hk.2) (.slice cz aj.length cA)) (fun _ hk => hk.1),by (with_reducible repeat (first | apply Kd.S_alloc | apply Kd.S_drewN | apply Kd.S_drew));exact Kd.S_mono (Kd.S_far (p := ⟨an,6,none⟩) (Kd.S_far (p := ⟨an,5,none⟩) (Kd.S_far (p := ⟨an,4,none⟩) (Kd.S_far (p := ⟨an,3,none⟩) (Kd.S_far (p := ⟨an,2,none⟩) (Kd.S_far (p := ⟨an,1,none⟩) (Kd.S_far (p := ⟨an,0,none⟩) (Kd.S_types HO_238006.out av.out (by decide)) (fun _ hk => hk.2) (vi ad)) (fun _ hk => hk.2) (vi ae)) (fun _ hk => hk.2) (vi af)) (fun _ hk => hk.2) (vi ag)) (fun _ hk => hk.2) (.slice bG ah.length bH)) (fun _ hk => hk.2) (.slice bZ ai.length b_)) (fun _ hk => hk.2) (.slice cz aj.length cA)) (fun _ hk => ⟨hk.1.1,hk.1.2⟩),Z9x7⟩

def spec_l3Values.l0 : Nat → List Int → Int → Int → List Int → Int → Int → Option (List Int × Int × Int)
 | 0,_,_,_,_,_,_ => none
 | k + 1,x3,x4,x5,ca,cI,cJ => if x5 < x4 then ((spec_l1Byte.f ca cI cJ).bind fun cb => ((spec_l1PickInt.f ca cb.2.1 cb.2.2 (([0,1,7,8,100,5000,1000000,cb.1,1000001,(-1)] : List Int))).bind fun a_ => (if x3.length < 17592186044416 then (spec_l3Values.l0 k (x3 ++ [a_.1]) x4 (wrap64 (x5 + 1)) ca a_.2.1 a_.2.2) else (none)))) else (some (x3,cI,cJ))
def spec_l3Values.f (k : Nat) (ao : List Int) (a7 : Int) (a8 : Int) : Option (List Int × Int × Int) := (spec_l1Below.f ao a7 a8 6).bind fun ba => (spec_l3Values.l0 k (([] : List Int)) ba.1 0 ao ba.2.1 ba.2.2)
theorem spec_l3Values.calls (k : Nat) (g : Nat) (ao : List Int) (a7 : Int) (a8 : Int) (r1 : List Int) (r2 : Int) (r3 : Int) (w0 w : World) (hI : IsS95 w0 w g ao a7 a8) (hB : Below w0.heap.size w0 w) (h : spec_l3Values.f k ao a7 a8 = some (r1,r2,r3)) :
  Calls Try.prog 97 #[.pointer (some ⟨g,0,none⟩)] w fun e w' => ∃ fU : Value,e = .returned (fU) ∧ Kd.R (Kd.int .i64) 3 w' w.heap.size (fun _ => True) fU r1 ∧ IsS95 w0 w' g ao r2 r3 ∧ Below w0.heap.size w0 w' ∧ KeepBut w w' g none := by
 have aA := mkA hI
 have HK := mkA (KeepBut.refl w g none)
 have HL := mkA hB.size
 clear hI
 have fs := mkA hB.size
 have HB := mkA hB
 clear hB
 have H := h
 unfold spec_l3Values.f at H
 clear h
 obtain ⟨dC,bs⟩ : ∃ y_ : List Int,y_ = (([] : List Int)) := ⟨_,rfl⟩
 replace H : ((spec_l1Below.f ao a7 a8 6).bind fun ba => (spec_l3Values.l0 k dC ba.1 0 ao ba.2.1 ba.2.2)) = some (r1,r2,r3) := by first | (rw [bs];with_reducible exact H) | (have cc := (Option.bind_some _ _).symm.trans H;rw [bs];with_reducible exact cc) | (have cc := (Option.bind_some _ _).symm.trans H;with_reducible exact cc) | with_reducible exact H | (rw [bs];exact H) | exact H
 have cK := mkA bs
 clear bs
 replace H := Option.bind_eq_some_iff.mp H
 obtain ⟨⟨b2,dD,dE⟩,cE,H⟩ := H
 try dsimp only at H
 have A2 := mkA cE
 clear cE
 have H' := mkA H
 clear H
 go_enter Try.func97,Try.ntmps97
 go_wp2_with (first | ((with_reducible refine gate_dst (N := 6) rfl ?_);refine Kd.R_lit (Kd.int .i64) _ 3 ?hg (N := 6) ?hd (xs := ([] : List Int)) (inner := []) (ok := fun _ => True) (okp := fun _ => True) ?hr ?hp (fun _ hk => hk) trivial (Below.refl _ _) (Nat.le_refl _) (by simp) ?_;(case hd => rfl);(case hg => rfl);(case hr => first | (go_simp;done) | (go_simp;rfl));(case hp => exact (Reps.none _ _));intro gE w3 dF hb hg_ hnew_;clear hg_ hnew_;(first | rw [← cK.out] at dF | (simp only [Int.reduceToNat] at dF;rw [← cK.out] at dF));have ax := mkA (Kd.R_lower dF (keep_size (w := w) (g := g) (row := none) Z9x1));have ay := mkA (IsS95.below Z9x0 hb);have az := mkA (KeepBut.trans Z9x1 (KeepBut.of_below hb g none) (.inl rfl));have a6 := mkA (below_step Z9x2 hb);clear aA;clear HK;clear HB;have bD := ax;have aA := ay;have HK := az;have HB := a6;clear ax ay az a6;clear hb dF) | ((with_reducible refine gate_callee (f := 34) rfl ?_);refine goesL_ (some 8) rfl rfl Try.func34 (by kernel_rfl) rfl #[.pointer (some ⟨g,0,none⟩),vi 6] rfl Z9x4 ?_;(with_reducible refine (spec_l1Below.calls g ao a7 a8 6 b2 dD dE w0 _ ?ar ?au A2.out).mono ?_);(case ar => exact Z9x0);(case au => exact Z9x2);rintro e w5 ⟨rfl,hi,hb,hk⟩;refine ⟨_,rfl,?_⟩;have ax := mkA (Kd.R_mono (Kd.R_keep (IsS95.apart (show IsS95 w0 _ g ao a7 a8 from Z9x0) (by (with_reducible repeat (first | apply Kd.R_alloc | apply Kd.R_drewN | apply Kd.R_drew));exact bD.out) (by decide)) hk (fun _ h => h.2)) (fun _ h => h.1));have ay := mkA (KeepBut.trans Z9x1 hk (.inl rfl));have az := mkA (hb);have a6 := mkA (hi);clear bD;clear HK;clear HB;clear aA;have bD := ax;have HK := ay;have HB := az;have aA := a6;clear ax ay az a6;(try clear hb);(try clear bO);(try clear hk);(try clear hi)))
 go_loopg [3,5] k (fun kq v3 v5 w' => ∃ (bu : List Int) (bk : Int) (aQ : Int) (aR : Int),v5 = vi bk ∧ Aside0 (spec_l3Values.l0 kq bu b2 bk ao aQ aR = some (r1,r2,r3)) ∧ Aside0 (kq ≤ k) ∧ Aside0 (Kd.R (Kd.int .i64) 3 w' w.heap.size (fun _ => True) v3 bu) ∧ Aside0 (IsS95 w0 w' g ao aQ aR) ∧ Aside0 (KeepBut w w' g none) ∧ Aside0 (Below w0.heap.size w0 w'))
 case atStart => exact ⟨(dC),(0),(dD),(dE),(by first | rfl | (simp;done) | (simp [*];done)),H',⟨Nat.le_refl _⟩,⟨by (with_reducible repeat (first | apply Kd.R_alloc | apply Kd.R_drewN | apply Kd.R_drew));exact bD.out⟩,⟨Z9x0⟩,⟨Z9x1⟩,⟨Z9x2⟩⟩
 case round =>
  clear H'
  try clear p2
  try clear c3
  obtain ⟨bu,bk,aQ,aR,rfl,HA,du,HO_3,aA,HK,HB⟩ := hrel
  cases gk with
  | zero => exact absurd HA.out (by simp [spec_l3Values.l0])
  | succ k1 =>
   have H := HA.out
   clear HA
   simp only [spec_l3Values.l0] at H
   by_cases c6 : bk < b2
   ·rw [if_pos c6] at H
    have c6b0 : decide (bk < b2) = true := decide_eq_true c6;clear c6;replace H := Option.bind_eq_some_iff.mp H;obtain ⟨⟨bI,cd,cf⟩,dG,H⟩ := H
    try dsimp only at H
    have A7 := mkA dG;clear dG;obtain ⟨cB,bw⟩ : ∃ y_ : List Int,y_ = (([0,1,7,8,100,5000,1000000,bI,1000001,(-1)] : List Int)) := ⟨_,rfl⟩
    replace H : ((spec_l1PickInt.f ao cd cf cB).bind fun a_ => (if bu.length < 17592186044416 then (spec_l3Values.l0 k1 (bu ++ [a_.1]) b2 (wrap64 (bk + 1)) ao a_.2.1 a_.2.2) else (none))) = some (r1,r2,r3) := by first | (rw [bw];with_reducible exact H) | (have cc := (Option.bind_some _ _).symm.trans H;rw [bw];with_reducible exact cc) | (have cc := (Option.bind_some _ _).symm.trans H;with_reducible exact cc) | with_reducible exact H | (rw [bw];exact H) | exact H
    have cL := mkA bw;clear bw;replace H := Option.bind_eq_some_iff.mp H;obtain ⟨⟨cC,df,dg⟩,fV,H⟩ := H
    try dsimp only at H
    have A8 := mkA fV;clear fV
    by_cases c9 : bu.length < 17592186044416
    ·rw [if_pos c9] at H
     have ft := mkA c9;clear c9;obtain ⟨dH,bz⟩ : ∃ y_ : List Int,y_ = (bu ++ [cC]) := ⟨_,rfl⟩
     replace H : (spec_l3Values.l0 k1 dH b2 (wrap64 (bk + 1)) ao df dg) = some (r1,r2,r3) := by first | (rw [bz];with_reducible exact H) | (have cc := (Option.bind_some _ _).symm.trans H;rw [bz];with_reducible exact cc) | (have cc := (Option.bind_some _ _).symm.trans H;with_reducible exact cc) | with_reducible exact H | (rw [bz];exact H) | exact H
     have dI := mkA bz;clear bz;have H' := mkA H;clear H
     go_wp2_with (first | ((with_reducible refine gate_callee (f := 68) rfl ?_);refine goesL_ (some 17) rfl rfl Try.func68 (by kernel_rfl) rfl #[.pointer (some ⟨g,0,none⟩)] rfl Z9x4 ?_;(with_reducible refine (spec_l1Byte.calls g ao aQ aR bI cd cf w0 _ ?ar ?au A7.out).mono ?_);(case ar => exact Z9x0);(case au => exact Z9x2);rintro e gF ⟨rfl,hi,hb,hk⟩;refine ⟨_,rfl,?_⟩;have ax := mkA (Kd.R_mono (Kd.R_keep (IsS95.apart (show IsS95 w0 _ g ao aQ aR from Z9x0) Z9x12 (by decide)) hk (fun _ h => h.2)) (fun _ h => h.1));have ay := mkA (KeepBut.trans Z9x1 hk (.inl rfl));have az := mkA (hb);have a6 := mkA (hi);clear HO_3;clear HK;clear HB;clear aA;have HO_3 := ax;have HK := ay;have HB := az;have aA := a6;clear ax ay az a6;(try clear hb);(try clear bO);(try clear hk);(try clear hi)) | ((with_reducible refine gate_dst (N := 18) rfl ?_);refine Kd.R_lit (Kd.int .i64) _ 3 ?hg (N := 18) ?hd (xs := ([0,1,7,8,100,5000,1000000,bI,1000001,(-1)] : List Int)) (inner := [vi 0,vi 1,vi 7,vi 8,vi 100,vi 5000,vi 1000000,vi bI,vi 1000001,vi (-1)]) (ok := fun _ => True) (okp := fun _ => True) ?hr ?hp (fun _ hk => hk) trivial (Below.refl _ _) (Nat.le_refl _) (by simp) ?_;(case hd => rfl);(case hg => rfl);(case hr => first | (go_simp;done) | (go_simp;rfl));(case hp => exact (Reps.one (show Kd.M (Kd.int .i64) _ _ _ 0 [vi 0] from rfl) (Reps.one (show Kd.M (Kd.int .i64) _ _ _ 1 [vi 1] from rfl) (Reps.one (show Kd.M (Kd.int .i64) _ _ _ 7 [vi 7] from rfl) (Reps.one (show Kd.M (Kd.int .i64) _ _ _ 8 [vi 8] from rfl) (Reps.one (show Kd.M (Kd.int .i64) _ _ _ 100 [vi 100] from rfl) (Reps.one (show Kd.M (Kd.int .i64) _ _ _ 5000 [vi 5000] from rfl) (Reps.one (show Kd.M (Kd.int .i64) _ _ _ 1000000 [vi 1000000] from rfl) (Reps.one (show Kd.M (Kd.int .i64) _ _ _ bI [vi bI] from rfl) (Reps.one (show Kd.M (Kd.int .i64) _ _ _ 1000001 [vi 1000001] from rfl) (Reps.one (show Kd.M (Kd.int .i64) _ _ _ (-1) [vi (-1)] from rfl) (Reps.none _ _))))))))))));intro gG gH bJ hb hg_ hnew_;clear hg_ hnew_;(first | rw [← cL.out] at bJ | (simp only [Int.reduceToNat] at bJ;rw [← cL.out] at bJ));have ax := mkA (Kd.R_elder' Z9x12 (Kd.R_base bJ) hb);have ay := mkA (Kd.R_lower (Kd.R_new' bJ (Kd.R_lt Z9x12)) (keep_size (w := w) (g := g) (row := none) Z9x1));have az := mkA (IsS95.below Z9x0 hb);have a6 := mkA (KeepBut.trans Z9x1 (KeepBut.of_below hb g none) (.inl rfl));have aK := mkA (below_step Z9x2 hb);clear HO_3;clear aA;clear HK;clear HB;have HO_3 := ax;have aD := ay;have aA := az;have HK := a6;have HB := aK;clear ax ay az a6 aK;clear hb bJ;obtain ⟨dJ,dK,fu⟩ := Kd.R_slice aD.out;subst fu) | ((with_reducible refine gate_callee (f := 39) rfl ?_);refine goesL_ (some 19) rfl rfl Try.func39 (by kernel_rfl) rfl #[.pointer (some ⟨g,0,none⟩),.slice dJ cB.length dK] rfl Z9x4 ?_;(with_reducible refine (spec_l1PickInt.calls g ao cd cf _ _ cB cC df dg w0 _ ?ar ?au ?bU ?bV ?bW A8.out).mono ?_);(case ar => exact Z9x0);(case au => exact Z9x2);(case bU => repeat (first | exact (Kd.R_reads' aD.out).2.2 | (with_reducible refine Kd.C_alloc ?_ _) | (with_reducible refine Kd.C_drewN ?_ _) | (with_reducible refine Kd.C_drew ?_)));(case bV => exact (Kd.R_reads' aD.out).2.1);(case bW => exact far_slice (IsS95.own_ne aA.out aD.out (by decide)));rintro e gr ⟨rfl,hi,hb,hk⟩;refine ⟨_,rfl,?_⟩;have ax := mkA (Kd.R_mono (Kd.R_keep (IsS95.apart (show IsS95 w0 _ g ao cd cf from Z9x0) Z9x12 (by decide)) hk (fun _ h => h.2)) (fun _ h => h.1));have ay := mkA (Kd.R_mono (Kd.R_keep (IsS95.apart (show IsS95 w0 _ g ao cd cf from Z9x0) (by (with_reducible repeat (first | apply Kd.R_alloc | apply Kd.R_drewN | apply Kd.R_drew));exact aD.out) (by decide)) hk (fun _ h => h.2)) (fun _ h => h.1));have az := mkA (KeepBut.trans Z9x1 hk (.inl rfl));have a6 := mkA (hb);have aK := mkA (hi);clear HO_3;clear aD;clear HK;clear HB;clear aA;have HO_3 := ax;have aD := ay;have HK := az;have HB := a6;have aA := aK;clear ax ay az a6 aK;(try clear hb);(try clear bO);(try clear hk);(try clear hi)) | ((with_reducible refine gate_builtin (b := .append) (xs := #[.tmp 14,.tmp 20]) rfl ?_);at_builtin;refine Kd.R_append (Kd.int .i64) w.heap.size rfl (.tmp 14) (.tmp 20) 24 3 (vi 0) 8 rfl Try.underlying24 info3 rfl (by decide) (by omega) u3 bu cC [vi cC] (fun k_ => some k_ ≠ (.slice dJ cB.length dK : Value).ownBlock) (fun _ => False) rfl rfl ?aP (fun _ hk => hk.elim) ?aF ?aO (Below.refl _ _) ?aS ?aL ?_;(case aP => exact rfl);(case aF => exact (fun k_ hk => Kd.fresh' (Kd.R_lt (by (with_reducible repeat (first | apply Kd.R_alloc | apply Kd.R_drewN | apply Kd.R_drew));exact aD.out)) k_ hk));(case aO => exact (by (with_reducible repeat (first | apply Kd.R_alloc | apply Kd.R_drewN | apply Kd.R_drew));exact Kd.R_mono HO_3.out (fun _ hk => hk.2)));(case aS => exact (keep_size (w := w) (g := g) (row := none) Z9x1));(case aL => have := ft.out;omega);intro gI gJ ho hb hg hat;rw [← dI.out] at ho;have ax := mkA (IsS95.grown Z9x0 hg (IsS95.own_ne aA.out HO_3.out (by decide)));have ay := mkA (Kd.R_after (ok := (fun _ => True)) (by (with_reducible repeat (first | apply Kd.R_alloc | apply Kd.R_drewN | apply Kd.R_drew));exact aD.out) hg hat);have az := mkA (below_weaken Z9x2 HL.out hb);have a6 := mkA (KeepBut.trans Z9x1 (KeepBut.of_grown hg g) (Kd.R_base2 HO_3.out));have aK := mkA (ho);clear aA;clear aD;clear HB;clear HK;clear HO_3;have aA := ax;have aD := ay;have HB := az;have HK := a6;have dL := aK;clear ax ay az a6 aK;clear ho hb hg hat))
     go_roundg k1
     case measure => have := du.out;omega
     case rel => exact ⟨(dH),(wrap64 (bk + 1)),(df),(dg),(by first | rfl | (simp;done) | (simp [*];done)),H',⟨by have := du.out;omega⟩,⟨by (with_reducible repeat (first | apply Kd.R_alloc | apply Kd.R_drewN | apply Kd.R_drew));exact Kd.R_mono dL.out (fun _ hk => trivial)⟩,⟨Z9x0⟩,⟨Z9x1⟩,⟨Z9x2⟩⟩
    ·rw [if_neg c9] at H
     exact absurd H (by simp)
   ·rw [if_neg c6] at H
    have c6b0 : decide (bk < b2) = false := decide_eq_false c6;clear c6;simp only [Option.some.injEq,Prod.mk.injEq] at H;obtain ⟨rfl,rfl,rfl⟩ := H
    go_wp2
    go_ret
    exact ⟨_,Z9x16,Z9x12,Z9x0,Z9x2,Z9x1⟩

def spec_l6Right.f (k : Nat) (ao : List Int) (a7 : Int) (a8 : Int) : Option (Int × Int × Int × Int × Int × Int × Int × Int × List Int × List Int × (List (List Int)) × Int × Int) := (spec_l1Below.f ao a7 a8 8).bind fun cg => ((spec_l1Below.f ao cg.2.1 cg.2.2 2).bind fun ch => ((spec_l1Below.f ao ch.2.1 ch.2.2 2).bind fun cj => ((spec_l1Below.f ao cj.2.1 cj.2.2 3).bind fun ck => ((spec_l3Values.f k ao ck.2.1 ck.2.2).bind fun cm => ((spec_Sketched.f k cm.1).bind fun bb => (some (wrap64 (1 + cg.1),ch.1,cj.1,ck.1,bb.1,bb.2.1,bb.2.2.1,bb.2.2.2.1,bb.2.2.2.2.1,bb.2.2.2.2.2.1,bb.2.2.2.2.2.2,cm.2.1,cm.2.2)))))))
theorem spec_l6Right.calls (k : Nat) (g : Nat) (ao : List Int) (a7 : Int) (a8 : Int) (r1 : Int) (r2 : Int) (r3 : Int) (r4 : Int) (r5 : Int) (r6 : Int) (r7 : Int) (r8 : Int) (r9 : List Int) (fW : List Int) (fX : List (List Int)) (fY : Int) (fZ : Int) (w0 w : World) (hI : IsS95 w0 w g ao a7 a8) (hB : Below w0.heap.size w0 w) (h : spec_l6Right.f k ao a7 a8 = some (r1,r2,r3,r4,r5,r6,r7,r8,r9,fW,fX,fY,fZ)) :
  Calls Try.prog 69 #[.pointer (some ⟨g,0,none⟩)] w fun e w' => ∃ eO eP dM : Value,e = .returned (.agg #[vi r1,vi r2,vi r3,vi r4,vi r5,vi r6,vi r7,vi r8,eO,eP,dM]) ∧ Kd.R (Kd.int .i64) 3 w' w.heap.size (fun k_ => some k_ ≠ (eP : Value).ownBlock) eO r9 ∧ Kd.R (Kd.int .i64) 3 w' w.heap.size (fun k_ => some k_ ≠ (eO : Value).ownBlock) eP fW ∧ Kd.S (Kd.slice 3 (Kd.int .i64)) 24 w' w.heap.size (fun k_ => some k_ ≠ (eO : Value).ownBlock ∧ some k_ ≠ (eP : Value).ownBlock) dM fX ∧ IsS95 w0 w' g ao fY fZ ∧ Below w0.heap.size w0 w' ∧ KeepBut w w' g none := by
 have gK := Try.underlying29
 have aA := mkA hI
 have HK := mkA (KeepBut.refl w g none)
 have HL := mkA hB.size
 clear hI
 have fs := mkA hB.size
 have HB := mkA hB
 clear hB
 have H := h
 unfold spec_l6Right.f at H
 clear h
 replace H := Option.bind_eq_some_iff.mp H
 obtain ⟨⟨aJ,dN,dO⟩,cE,H⟩ := H
 try dsimp only at H
 have A2 := mkA cE
 clear cE
 replace H := Option.bind_eq_some_iff.mp H
 obtain ⟨⟨aT,dP,dQ⟩,dR,H⟩ := H
 try dsimp only at H
 have A3 := mkA dR
 clear dR
 replace H := Option.bind_eq_some_iff.mp H
 obtain ⟨⟨aU,dS,dT⟩,f_,H⟩ := H
 try dsimp only at H
 have A4 := mkA f_
 clear f_
 replace H := Option.bind_eq_some_iff.mp H
 obtain ⟨⟨aV,dU,dV⟩,ga,H⟩ := H
 try dsimp only at H
 have A5 := mkA ga
 clear ga
 replace H := Option.bind_eq_some_iff.mp H
 obtain ⟨⟨dh,fv,fw⟩,gb,H⟩ := H
 try dsimp only at H
 have A6 := mkA gb
 clear gb
 replace H := Option.bind_eq_some_iff.mp H
 obtain ⟨⟨bc,bd,bm,b0,b3,bK,cn⟩,dG,H⟩ := H
 try dsimp only at H
 have A7 := mkA dG
 clear dG
 simp only [Option.some.injEq,Prod.mk.injEq] at H
 obtain ⟨rfl,rfl,rfl,rfl,rfl,rfl,rfl,rfl,rfl,rfl,rfl,rfl,rfl⟩ := H
 go_enter Try.func69,Try.ntmps69
 go_wp2_with (first | ((with_reducible refine gate_dst (N := 2) rfl ?_);refine box_event ?hg (N := 2) ?hd (cs := #[vi 0,vi 0,vi 0,vi 0,vi 0,vi 0,vi 0,vi 0,.slice none 0 0,.slice none 0 0,.slice none 0 0]) (t := 29) ?hr ?_;(case hd => rfl);(case hg => rfl);(case hr => first | (go_simp;done) | (go_simp;rfl));intro ak hg w8 hbox hb;have ax := mkA (IsS95.below Z9x0 hb);have ay := mkA (KeepBut.trans Z9x1 (KeepBut.of_below hb g none) (.inl rfl));have az := mkA (below_step Z9x2 hb);have a6 := mkA (hbox);have aK := mkA ((by rw [hg];exact (keep_size (w := w) (g := g) (row := none) Z9x1) : w.heap.size ≤ ak));have bC := mkA ((Nat.le_trans fs.out (by rw [hg];exact (keep_size (w := w) (g := g) (row := none) Z9x1) : w.heap.size ≤ ak) : w0.heap.size ≤ ak));have bP := mkA ((by rw [hg];exact Nat.ne_of_lt (IsS95.lt (show IsS95 w0 _ g ao a7 a8 from Z9x0)) : g ≠ ak));have bQ := mkA ((by rw [hg];exact Nat.ne_of_gt (IsS95.lt (show IsS95 w0 _ g ao a7 a8 from Z9x0)) : ak ≠ g));clear aA;clear HK;clear HB;have aA := ax;have HK := ay;have HB := az;have aw := a6;have dm := aK;have dn := bC;have b4 := bP;have aE := bQ;clear ax ay az a6 aK bC bP bQ;clear hb hbox hg) | ((with_reducible refine gate_callee (f := 34) rfl ?_);refine goesL_ (some 4) rfl rfl Try.func34 (by kernel_rfl) rfl #[.pointer (some ⟨g,0,none⟩),vi 8] rfl Z9x4 ?_;(with_reducible refine (spec_l1Below.calls g ao a7 a8 8 aJ dN dO w0 _ ?ar ?au A2.out).mono ?_);(case ar => exact Z9x5);(case au => exact Z9x6);rintro e w9 ⟨rfl,hi,hb,hk⟩;refine ⟨_,rfl,?_⟩;have ax := mkA (KeepBut.blk hk (g' := ak) (o := .cells #[vi 0,vi 0,vi 0,vi 0,vi 0,vi 0,vi 0,vi 0,.slice none 0 0,.slice none 0 0,.slice none 0 0] 29 (0,0)) Z9x10 aE.out (by simp));have ay := mkA (KeepBut.trans Z9x3 hk (.inl rfl));have az := mkA (hb);have a6 := mkA (hi);clear aw;clear HK;clear HB;clear aA;have aw := ax;have HK := ay;have HB := az;have aA := a6;clear ax ay az a6;(try clear hb);(try clear bO);(try clear hk);(try clear hi)) | ((with_reducible refine gate_callee (f := 34) rfl ?_);refine goesL_ (some 7) rfl rfl Try.func34 (by kernel_rfl) rfl #[.pointer (some ⟨g,0,none⟩),vi 2] rfl Z9x4 ?_;(with_reducible refine (spec_l1Below.calls g ao dN dO 2 aT dP dQ w0 _ ?ar ?au A3.out).mono ?_);(case ar => exact Z9x5);(case au => exact Z9x6);rintro e gF ⟨rfl,hi,hb,hk⟩;refine ⟨_,rfl,?_⟩;have ax := mkA (KeepBut.blk hk (g' := ak) (o := .cells #[vi 0,vi 0,vi 0,vi 0,vi 0,vi 0,vi 0,vi 0,.slice none 0 0,.slice none 0 0,.slice none 0 0] 29 (0,0)) Z9x10 aE.out (by simp));have ay := mkA (KeepBut.trans Z9x3 hk (.inl rfl));have az := mkA (hb);have a6 := mkA (hi);clear aw;clear HK;clear HB;clear aA;have aw := ax;have HK := ay;have HB := az;have aA := a6;clear ax ay az a6;(try clear hb);(try clear bO);(try clear hk);(try clear hi)) | ((with_reducible refine gate_callee (f := 34) rfl ?_);refine goesL_ (some 9) rfl rfl Try.func34 (by kernel_rfl) rfl #[.pointer (some ⟨g,0,none⟩),vi 2] rfl Z9x4 ?_;(with_reducible refine (spec_l1Below.calls g ao dP dQ 2 aU dS dT w0 _ ?ar ?au A4.out).mono ?_);(case ar => exact Z9x5);(case au => exact Z9x6);rintro e gH ⟨rfl,hi,hb,hk⟩;refine ⟨_,rfl,?_⟩;have ax := mkA (KeepBut.blk hk (g' := ak) (o := .cells #[vi 0,vi 0,vi 0,vi 0,vi 0,vi 0,vi 0,vi 0,.slice none 0 0,.slice none 0 0,.slice none 0 0] 29 (0,0)) Z9x10 aE.out (by simp));have ay := mkA (KeepBut.trans Z9x3 hk (.inl rfl));have az := mkA (hb);have a6 := mkA (hi);clear aw;clear HK;clear HB;clear aA;have aw := ax;have HK := ay;have HB := az;have aA := a6;clear ax ay az a6;(try clear hb);(try clear bO);(try clear hk);(try clear hi)) | ((with_reducible refine gate_callee (f := 34) rfl ?_);refine goesL_ (some 11) rfl rfl Try.func34 (by kernel_rfl) rfl #[.pointer (some ⟨g,0,none⟩),vi 3] rfl Z9x4 ?_;(with_reducible refine (spec_l1Below.calls g ao dS dT 3 aV dU dV w0 _ ?ar ?au A5.out).mono ?_);(case ar => exact Z9x5);(case au => exact Z9x6);rintro e gQ ⟨rfl,hi,hb,hk⟩;refine ⟨_,rfl,?_⟩;have ax := mkA (KeepBut.blk hk (g' := ak) (o := .cells #[vi 0,vi 0,vi 0,vi 0,vi 0,vi 0,vi 0,vi 0,.slice none 0 0,.slice none 0 0,.slice none 0 0] 29 (0,0)) Z9x10 aE.out (by simp));have ay := mkA (KeepBut.trans Z9x3 hk (.inl rfl));have az := mkA (hb);have a6 := mkA (hi);clear aw;clear HK;clear HB;clear aA;have aw := ax;have HK := ay;have HB := az;have aA := a6;clear ax ay az a6;(try clear hb);(try clear bO);(try clear hk);(try clear hi)) | ((with_reducible refine gate_callee (f := 97) rfl ?_);refine goesL_ (some 13) rfl rfl Try.func97 (by kernel_rfl) rfl #[.pointer (some ⟨g,0,none⟩)] rfl Z9x4 ?_;(with_reducible refine (spec_l3Values.calls k g ao dU dV dh fv fw w0 _ ?ar ?au A6.out).mono ?_);(case ar => exact Z9x5);(case au => exact Z9x6);rintro e gR ⟨gL,rfl,b1,hi,hb,hk⟩;refine ⟨_,rfl,?_⟩;have ax := mkA (KeepBut.blk hk (g' := ak) (o := .cells #[vi 0,vi 0,vi 0,vi 0,vi 0,vi 0,vi 0,vi 0,.slice none 0 0,.slice none 0 0,.slice none 0 0] 29 (0,0)) Z9x10 aE.out (by simp));have ay := mkA (Kd.R_lower b1 (keep_size (w := w) (g := g) (row := none) Z9x3));have az := mkA (KeepBut.trans Z9x3 hk (.inl rfl));have a6 := mkA (hb);have aK := mkA (hi);clear aw;clear HK;clear HB;clear aA;have aw := ax;have bf := ay;have HK := az;have HB := a6;have aA := aK;clear ax ay az a6 aK;(try clear hb);(try clear bO);(try clear hk);(try clear hi);(try clear b1);obtain ⟨fx,fy,fA⟩ := Kd.R_slice bf.out;subst fA) | ((with_reducible refine gate_callee (f := 96) rfl ?_);refine goesL_ (some 14) rfl rfl Try.func96 (by kernel_rfl) rfl #[.slice fx dh.length fy] rfl Z9x4 ?_;(with_reducible refine (spec_Sketched.calls k _ _ dh bc bd bm b0 b3 bK cn _ ?ar ?au A7.out).mono ?_);(case ar => repeat (first | exact (Kd.R_reads' bf.out).2.2 | (with_reducible refine Kd.C_alloc ?_ _) | (with_reducible refine Kd.C_drewN ?_ _) | (with_reducible refine Kd.C_drew ?_)));(case au => exact (Kd.R_reads' bf.out).2.1);rintro e gJ ⟨gM,gN,gO,rfl,b1,bN,cr,hb⟩;refine ⟨_,rfl,?_⟩;have ax := mkA (Kd.R_mono (Kd.R_told (Kd.R_told (Kd.R_old Z9x15 hb) (Kd.R_base b1)) (Kd.R_base bN)) (fun _ h_ => h_.1));have ay := mkA (Kd.R_lower (Kd.R_new' b1 (Kd.R_lt Z9x15)) (keep_size (w := w) (g := g) (row := none) Z9x3));have az := mkA (Kd.R_lower (Kd.R_new' bN (Kd.R_lt Z9x15)) (keep_size (w := w) (g := g) (row := none) Z9x3));have a6 := mkA (Kd.S_lower (Kd.S_new' cr (Kd.R_lt Z9x15)) (keep_size (w := w) (g := g) (row := none) Z9x3));have aK := mkA (IsS95.below Z9x5 hb);have bC := mkA (blk_below (g := ak) (o := .cells #[vi 0,vi 0,vi 0,vi 0,vi 0,vi 0,vi 0,vi 0,.slice none 0 0,.slice none 0 0,.slice none 0 0] 29 (0,0)) Z9x10 hb);have bP := mkA (KeepBut.trans Z9x3 (KeepBut.of_below hb g none) (.inl rfl));have bQ := mkA (below_step Z9x6 hb);clear bf;clear aA;clear aw;clear HK;clear HB;have bf := ax;have cM := ay;have cN := az;have cO := a6;have aA := aK;have aw := bC;have HK := bP;have HB := bQ;clear ax ay az a6 aK bC bP bQ;(try clear hb);(try clear bO);(try clear hk);(try clear hi);(try clear b1);(try clear bN);(try clear cr);obtain ⟨aH,aI,cv⟩ := Kd.S_slice cO.out;subst cv;obtain ⟨aB,aC,cw⟩ := Kd.R_slice cN.out;subst cw;obtain ⟨bL,bM,fB⟩ := Kd.R_slice cM.out;subst fB;have gf := aE.out;have gg := b4.out;obtain ⟨eQ,eR,eS,eT,eU,eV,eW,eX,eY,eZ,dW⟩ := cz11 aw.out;obtain ⟨e_,fa,fb,fc,fe,ff,fg,fh,fi,fj,dX⟩ := fz11 aw.out))
 refine bodyPost_ret (results_cell_row rfl _ _ ak 29 #[vi (wrap64 (1 + aJ)),vi aT,vi aU,vi aV,vi bc,vi bd,vi bm,vi b0,.slice bL b3.length bM,.slice aB bK.length aC,.slice aH cn.length aI] (0,0) _ rfl (by (with_reducible repeat (first | refine blk_drewN ?_ _ | refine blk_drew ?_ | refine blk_alloc ?_ _));refine blk_put (cs := #[vi (wrap64 (1 + aJ)),vi aT,vi aU,vi aV,vi bc,vi bd,vi bm,vi b0,.slice bL b3.length bM,.slice aB bK.length aC,.slice none 0 0]) ?_ 10 _ rfl;(with_reducible repeat (first | refine blk_drewN ?_ _ | refine blk_drew ?_ | refine blk_alloc ?_ _));refine blk_put (cs := #[vi (wrap64 (1 + aJ)),vi aT,vi aU,vi aV,vi bc,vi bd,vi bm,vi b0,.slice bL b3.length bM,.slice none 0 0,.slice none 0 0]) ?_ 9 _ rfl;(with_reducible repeat (first | refine blk_drewN ?_ _ | refine blk_drew ?_ | refine blk_alloc ?_ _));refine blk_put (cs := #[vi (wrap64 (1 + aJ)),vi aT,vi aU,vi aV,vi bc,vi bd,vi bm,vi b0,.slice none 0 0,.slice none 0 0,.slice none 0 0]) ?_ 8 _ rfl;(with_reducible repeat (first | refine blk_drewN ?_ _ | refine blk_drew ?_ | refine blk_alloc ?_ _));refine blk_put (cs := #[vi (wrap64 (1 + aJ)),vi aT,vi aU,vi aV,vi bc,vi bd,vi bm,vi 0,.slice none 0 0,.slice none 0 0,.slice none 0 0]) ?_ 7 _ rfl;(with_reducible repeat (first | refine blk_drewN ?_ _ | refine blk_drew ?_ | refine blk_alloc ?_ _));refine blk_put (cs := #[vi (wrap64 (1 + aJ)),vi aT,vi aU,vi aV,vi bc,vi bd,vi 0,vi 0,.slice none 0 0,.slice none 0 0,.slice none 0 0]) ?_ 6 _ rfl;(with_reducible repeat (first | refine blk_drewN ?_ _ | refine blk_drew ?_ | refine blk_alloc ?_ _));refine blk_put (cs := #[vi (wrap64 (1 + aJ)),vi aT,vi aU,vi aV,vi bc,vi 0,vi 0,vi 0,.slice none 0 0,.slice none 0 0,.slice none 0 0]) ?_ 5 _ rfl;(with_reducible repeat (first | refine blk_drewN ?_ _ | refine blk_drew ?_ | refine blk_alloc ?_ _));refine blk_put (cs := #[vi (wrap64 (1 + aJ)),vi aT,vi aU,vi aV,vi 0,vi 0,vi 0,vi 0,.slice none 0 0,.slice none 0 0,.slice none 0 0]) ?_ 4 _ rfl;(with_reducible repeat (first | refine blk_drewN ?_ _ | refine blk_drew ?_ | refine blk_alloc ?_ _));refine blk_put (cs := #[vi (wrap64 (1 + aJ)),vi aT,vi aU,vi 0,vi 0,vi 0,vi 0,vi 0,.slice none 0 0,.slice none 0 0,.slice none 0 0]) ?_ 3 _ rfl;(with_reducible repeat (first | refine blk_drewN ?_ _ | refine blk_drew ?_ | refine blk_alloc ?_ _));refine blk_put (cs := #[vi (wrap64 (1 + aJ)),vi aT,vi 0,vi 0,vi 0,vi 0,vi 0,vi 0,.slice none 0 0,.slice none 0 0,.slice none 0 0]) ?_ 2 _ rfl;(with_reducible repeat (first | refine blk_drewN ?_ _ | refine blk_drew ?_ | refine blk_alloc ?_ _));refine blk_put (cs := #[vi (wrap64 (1 + aJ)),vi 0,vi 0,vi 0,vi 0,vi 0,vi 0,vi 0,.slice none 0 0,.slice none 0 0,.slice none 0 0]) ?_ 1 _ rfl;(with_reducible repeat (first | refine blk_drewN ?_ _ | refine blk_drew ?_ | refine blk_alloc ?_ _));refine blk_put (cs := #[vi 0,vi 0,vi 0,vi 0,vi 0,vi 0,vi 0,vi 0,.slice none 0 0,.slice none 0 0,.slice none 0 0]) ?_ 0 _ rfl;(with_reducible repeat (first | refine blk_drewN ?_ _ | refine blk_drew ?_ | refine blk_alloc ?_ _));exact aw.out) Try.underlying29 rfl (by kernel_rfl)) rfl ?_
 exact ⟨_,_,_,Z9x16,by (with_reducible repeat (first | apply Kd.R_alloc | apply Kd.R_drewN | apply Kd.R_drew));exact Kd.R_mono (Kd.R_far (p := ⟨ak,10,none⟩) (Kd.R_far (p := ⟨ak,9,none⟩) (Kd.R_far (p := ⟨ak,8,none⟩) (Kd.R_far (p := ⟨ak,7,none⟩) (Kd.R_far (p := ⟨ak,6,none⟩) (Kd.R_far (p := ⟨ak,5,none⟩) (Kd.R_far (p := ⟨ak,4,none⟩) (Kd.R_far (p := ⟨ak,3,none⟩) (Kd.R_far (p := ⟨ak,2,none⟩) (Kd.R_far (p := ⟨ak,1,none⟩) (Kd.R_far (p := ⟨ak,0,none⟩) (Kd.R_types cM.out aw.out (by decide)) (fun _ hk => hk.2) (vi (wrap64 (1 + aJ)))) (fun _ hk => hk.2) (vi aT)) (fun _ hk => hk.2) (vi aU)) (fun _ hk => hk.2) (vi aV)) (fun _ hk => hk.2) (vi bc)) (fun _ hk => hk.2) (vi bd)) (fun _ hk => hk.2) (vi bm)) (fun _ hk => hk.2) (vi b0)) (fun _ hk => hk.2) (.slice bL b3.length bM)) (fun _ hk => hk.2) (.slice aB bK.length aC)) (fun _ hk => hk.2) (.slice aH cn.length aI)) (fun _ hk => hk.1.1),by (with_reducible repeat (first | apply Kd.R_alloc | apply Kd.R_drewN | apply Kd.R_drew));exact Kd.R_mono (Kd.R_far (p := ⟨ak,10,none⟩) (Kd.R_far (p := ⟨ak,9,none⟩) (Kd.R_far (p := ⟨ak,8,none⟩) (Kd.R_far (p := ⟨ak,7,none⟩) (Kd.R_far (p := ⟨ak,6,none⟩) (Kd.R_far (p := ⟨ak,5,none⟩) (Kd.R_far (p := ⟨ak,4,none⟩) (Kd.R_far (p := ⟨ak,3,none⟩) (Kd.R_far (p := ⟨ak,2,none⟩) (Kd.R_far (p := ⟨ak,1,none⟩) (Kd.R_far (p := ⟨ak,0,none⟩) (Kd.R_types cN.out aw.out (by decide)) (fun _ hk => hk.2) (vi (wrap64 (1 + aJ)))) (fun _ hk => hk.2) (vi aT)) (fun _ hk => hk.2) (vi aU)) (fun _ hk => hk.2) (vi aV)) (fun _ hk => hk.2) (vi bc)) (fun _ hk => hk.2) (vi bd)) (fun _ hk => hk.2) (vi bm)) (fun _ hk => hk.2) (vi b0)) (fun _ hk => hk.2) (.slice bL b3.length bM)) (fun _ hk => hk.2) (.slice aB bK.length aC)) (fun _ hk => hk.2) (.slice aH cn.length aI)) (fun _ hk => hk.1.1),by (with_reducible repeat (first | apply Kd.S_alloc | apply Kd.S_drewN | apply Kd.S_drew));exact Kd.S_mono (Kd.S_far (p := ⟨ak,10,none⟩) (Kd.S_far (p := ⟨ak,9,none⟩) (Kd.S_far (p := ⟨ak,8,none⟩) (Kd.S_far (p := ⟨ak,7,none⟩) (Kd.S_far (p := ⟨ak,6,none⟩) (Kd.S_far (p := ⟨ak,5,none⟩) (Kd.S_far (p := ⟨ak,4,none⟩) (Kd.S_far (p := ⟨ak,3,none⟩) (Kd.S_far (p := ⟨ak,2,none⟩) (Kd.S_far (p := ⟨ak,1,none⟩) (Kd.S_far (p := ⟨ak,0,none⟩) (Kd.S_types cO.out aw.out (by decide)) (fun _ hk => hk.2) (vi (wrap64 (1 + aJ)))) (fun _ hk => hk.2) (vi aT)) (fun _ hk => hk.2) (vi aU)) (fun _ hk => hk.2) (vi aV)) (fun _ hk => hk.2) (vi bc)) (fun _ hk => hk.2) (vi bd)) (fun _ hk => hk.2) (vi bm)) (fun _ hk => hk.2) (vi b0)) (fun _ hk => hk.2) (.slice bL b3.length bM)) (fun _ hk => hk.2) (.slice aB bK.length aC)) (fun _ hk => hk.2) (.slice aH cn.length aI)) (fun _ hk => ⟨hk.1.1.1,hk.1.1.2⟩),Z9x5,Z9x6,Z9x3⟩

def spec_l1Once.f (ao : List Int) (a7 : Int) (a8 : Int) (a1 : Int) : Option (Bool × Int × Int) := (spec_l1Below.f ao a7 a8 a1).bind fun cq => (some ((cq.1 == 0),cq.2.1,cq.2.2))
theorem spec_l1Once.calls (g : Nat) (ao : List Int) (a7 : Int) (a8 : Int) (a1 : Int) (r1 : Bool) (r2 : Int) (r3 : Int) (w0 w : World) (hI : IsS95 w0 w g ao a7 a8) (hB : Below w0.heap.size w0 w) (h : spec_l1Once.f ao a7 a8 a1 = some (r1,r2,r3)) :
  Calls Try.prog 87 #[.pointer (some ⟨g,0,none⟩),vi a1] w fun e w' => e = .returned (.bool r1) ∧ IsS95 w0 w' g ao r2 r3 ∧ Below w0.heap.size w0 w' ∧ KeepBut w w' g none := by
 have aA := mkA hI
 have HK := mkA (KeepBut.refl w g none)
 have HL := mkA hB.size
 clear hI
 have fs := mkA hB.size
 have HB := mkA hB
 clear hB
 have H := h
 unfold spec_l1Once.f at H
 clear h
 replace H := Option.bind_eq_some_iff.mp H
 obtain ⟨⟨fC,fD,fE⟩,dR,H⟩ := H
 try dsimp only at H
 have A3 := mkA dR
 clear dR
 simp only [Option.some.injEq,Prod.mk.injEq] at H
 obtain ⟨rfl,rfl,rfl⟩ := H
 go_enter Try.func87,Try.ntmps87
 go_wp2_with (first | ((with_reducible refine gate_callee (f := 34) rfl ?_);refine goesL_ (some 7) rfl rfl Try.func34 (by kernel_rfl) rfl #[.pointer (some ⟨g,0,none⟩),vi a1] rfl Z9x4 ?_;(with_reducible refine (spec_l1Below.calls g ao a7 a8 a1 fC fD fE w0 _ ?ar ?au A3.out).mono ?_);(case ar => exact Z9x0);(case au => exact Z9x2);rintro e w4 ⟨rfl,hi,hb,hk⟩;refine ⟨_,rfl,?_⟩;have ax := mkA (KeepBut.trans Z9x1 hk (.inl rfl));have ay := mkA (hb);have az := mkA (hi);clear HK;clear HB;clear aA;have HK := ax;have HB := ay;have aA := az;clear ax ay az;(try clear hb);(try clear bO);(try clear hk);(try clear hi)))
 go_ret
 exact ⟨Z9x16,Z9x0,Z9x2,Z9x1⟩

end Go.Proofs.Ytdciagkholijlaa.PFnEntries
