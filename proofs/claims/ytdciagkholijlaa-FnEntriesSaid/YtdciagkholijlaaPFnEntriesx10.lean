-- Written by this session's changed copy of the kit's printer (wip/patch_print.py): not the kit's own print.
import Derived.Test.YtdciagkholijlaaPFnEntriesx0
import Derived.Test.YtdciagkholijlaaPFnEntriesx4
import Derived.Test.YtdciagkholijlaaPFnEntriesx6
import Derived.Test.YtdciagkholijlaaPFnEntriesx9
namespace Go.Proofs.Ytdciagkholijlaa.PFnEntries
open Go.RowKit Go.Proofs.YtdciagkholijlaaW.PrintWords Go.Proofs.YtdciagkholijlaaW.PrintLast Go.Proofs.YtdciagkholijlaaW.PrintMore
attribute [local go_sem] max2_int min2_int max_two min_two max_three min_three max_four min_four   -- for this text's walks alone
set_option linter.unusedVariables false
set_option linter.unusedSimpArgs false
set_option maxHeartbeats 8000000
set_option maxRecDepth 100000

structure Cu (w0 w : World) (g : Nat) (l : List Int) (p r : Int) : Prop where
  i : IsS95 w0 w g l p r
  b : Below w0.heap.size w0 w
theorem Cu.below {w0 w W : World} {g : Nat} {l : List Int} {p r : Int} (c : Cu w0 w g l p r) (hb : Below w.heap.size w W) : Cu w0 W g l p r := ⟨c.i.below hb,below_step c.b hb⟩
theorem Cu.own {w0 w W : World} {g a b : Nat} {l : List Int} {p r : Int} (c : Cu w0 w g l p r) (k : Kp w W a b) (hg : g < a) (hw : w0.heap.size ≤ a) : Cu w0 W g l p r := ⟨c.i.kept k.kept (fun h => by omega),below_kp c.b k hw c.b.size⟩
theorem Cu.kp {w0 w W : World} {g : Nat} {l : List Int} {p r p' r' : Int} (c : Cu w0 w g l p r) (d : Cu w0 W g l p' r') (k : KeepBut w W g none) : Kp w W g (g + 1) :=
  ⟨d.b.os.trans c.b.os.symm,d.b.tape.trans c.b.tape.symm,d.b.output.trans c.b.output.symm,⟨k.1,fun i hi hs => k.2 i hi (fun e => hs (by omega)) (by simp)⟩⟩
theorem keep_below {w W X : World} {g : Nat} (k : KeepBut w W g none) (hb : Below W.heap.size W X) : KeepBut w X g none := ⟨Nat.le_trans k.1 hb.size,fun i hi h1 h2 => (hb.block i (Nat.lt_of_lt_of_le hi k.1)).trans (k.2 i hi h1 h2)⟩
theorem keep_own {w W X : World} {g a b : Nat} (k : KeepBut w W g none) (h : Kp W X a b) (ha : w.heap.size ≤ a) : KeepBut w X g none := ⟨Nat.le_trans k.1 h.kept.1,fun i hi h1 h2 => (h.kept.2 i (Nat.lt_of_lt_of_le hi k.1) (fun e => by omega)).trans (k.2 i hi h1 h2)⟩
theorem keep_cur {w W X : World} {g : Nat} (k : KeepBut w W g none) (h : KeepBut W X g none) : KeepBut w X g none := ⟨Nat.le_trans k.1 h.1,fun i hi h1 h2 => (h.2 i (Nat.lt_of_lt_of_le hi k.1) h1 h2).trans (k.2 i hi h1 h2)⟩
theorem below_cu {w0 w : World} {g : Nat} {l : List Int} {p r a1 r1 r2 r3 : Int} (c : Cu w0 w g l p r) (h : spec_l1Below.f l p r a1 = some (r1,r2,r3)) :
    Calls Try.prog 34 #[.pointer (some ⟨g,0,none⟩),vi a1] w fun e w' => e = .returned (vi r1) ∧ Cu w0 w' g l r2 r3 ∧ KeepBut w w' g none := by
  refine (spec_l1Below.calls g l p r a1 r1 r2 r3 w0 w c.i c.b h).mono ?_
  rintro e w' ⟨rfl,h1,h2,h3⟩
  exact ⟨rfl,⟨h1,h2⟩,h3⟩
theorem pick_cu {w0 w : World} {g : Nat} {A : Option Addr} {cp : Nat} {l L : List Int} {p r r1 r2 r3 : Int} (c : Cu w0 w g l p r) (C : (Kd.int .i64).C w A L.length L) (hl : L.length ≤ cp) (hA : ∀ ad,A = some ad → 0 < L.length → ad.block ≠ g) (h : spec_l1PickInt.f l p r L = some (r1,r2,r3)) :
    Calls Try.prog 39 #[.pointer (some ⟨g,0,none⟩),.slice A L.length cp] w fun e w' => e = .returned (vi r1) ∧ Cu w0 w' g l r2 r3 ∧ KeepBut w w' g none := by
  refine (spec_l1PickInt.calls g l p r A cp L r1 r2 r3 w0 w c.i c.b C hl hA h).mono ?_
  rintro e w' ⟨rfl,h1,h2,h3⟩
  exact ⟨rfl,⟨h1,h2⟩,h3⟩
theorem once_cu {w0 w : World} {g : Nat} {l : List Int} {p r a1 r2 r3 : Int} {t : Bool} (c : Cu w0 w g l p r) (h : spec_l1Once.f l p r a1 = some (t,r2,r3)) :
    Calls Try.prog 87 #[.pointer (some ⟨g,0,none⟩),vi a1] w fun e w' => e = .returned (.bool t) ∧ Cu w0 w' g l r2 r3 ∧ KeepBut w w' g none := by
  refine (spec_l1Once.calls g l p r a1 t r2 r3 w0 w c.i c.b h).mono ?_
  rintro e w' ⟨rfl,h1,h2,h3⟩
  exact ⟨rfl,⟨h1,h2⟩,h3⟩
theorem Cu.ge {w0 w : World} {g : Nat} {l : List Int} {p r : Int} (c : Cu w0 w g l p r) : w0.heap.size ≤ g := by
  obtain ⟨_,_,_,h,_⟩ := c.i
  exact h
theorem Cu.lt {w0 w : World} {g : Nat} {l : List Int} {p r : Int} (c : Cu w0 w g l p r) : g < w.heap.size := by
  obtain ⟨_,_,h,_⟩ := c.i
  exact blk_lt h
def SkP (w : World) (a : Nat) (P : Nat → Prop) (x y z : Sl) (h r : List Int) (R : List (List Int)) : Prop :=
  Kd.R (Kd.int .i64) 3 w a (fun k => P k) (.slice x.A x.n x.c) h ∧ Kd.R (Kd.int .i64) 3 w a (fun k => P k ∧ some k ≠ (Value.slice x.A x.n x.c).ownBlock) (.slice y.A y.n y.c) r ∧
  Kd.S (Kd.slice 3 (Kd.int .i64)) 24 w a (fun k => P k ∧ some k ≠ (Value.slice x.A x.n x.c).ownBlock ∧ some k ≠ (Value.slice y.A y.n y.c).ownBlock) (.slice z.A z.n z.c) R
structure Dr (w0 w W : World) (g : Nat) (l : List Int) (p q : Int) (a : Nat) (P : Nat → Prop) (gx T : Nat) (Z B : Array Value) (x y z : Sl) (h r : List Int) (R : List (List Int)) : Prop where
  S : SkP W a P x y z h r R
  X : Bx W gx T B
  O : Bx W w.heap.size T Z
  C : Cu w0 W g l p q
  K : KeepBut w W g none
  n1 : w.heap.size < a
  n2 : w.heap.size < gx
  n3 : g < w.heap.size
  n4 : ∀ k,P k → k ≠ gx
section
variable {w0 w W W1 : World} {g : Nat} {l : List Int} {p q p' q' : Int} {a b : Nat} {P : Nat → Prop} {gx T : Nat} {Z B B' : Array Value} {x y z : Sl} {h r h' r' : List Int} {R R' : List (List Int)}
theorem SkP.step (s : SkP W a P x y z h r R) (hm : ∀ k,a ≤ k → P k → k < W.heap.size → W1.heap[k]? = W.heap[k]?) : SkP W1 a P x y z h r R :=
  ⟨Kd.R_mono (Kd.R_move (Kd.R_bound s.1) (fun k hk => hm k hk.2.1 hk.1 hk.2.2.1)) (fun _ hk => hk.1),Kd.R_mono (Kd.R_move (Kd.R_bound s.2.1) (fun k hk => hm k hk.2.1 hk.1.1 hk.2.2.1)) (fun _ hk => hk.1),Kd.S_mono (Kd.S_move (Kd.S_bound s.2.2) (fun k hk => hm k hk.2.1 hk.1.1 hk.2.2.1)) (fun _ hk => hk.1)⟩
theorem SkP.kd {base : Nat} (s : SkP W a P x y z h r R) (hb : base ≤ a) :
    Kd.R (Kd.int .i64) 3 W base (fun k => some k ≠ (Value.slice y.A y.n y.c).ownBlock) (.slice x.A x.n x.c) h ∧ Kd.R (Kd.int .i64) 3 W base (fun k => some k ≠ (Value.slice x.A x.n x.c).ownBlock) (.slice y.A y.n y.c) r ∧
    Kd.S (Kd.slice 3 (Kd.int .i64)) 24 W base (fun k => some k ≠ (Value.slice x.A x.n x.c).ownBlock ∧ some k ≠ (Value.slice y.A y.n y.c).ownBlock) (.slice z.A z.n z.c) R := by
  obtain ⟨s1,s2,s3⟩ := s
  exact ⟨Kd.R_lower (Kd.R_reok rfl s1 (fun k hk e => (s2.1 k e.symm).2 hk.symm)) hb,Kd.R_lower (Kd.R_mono s2 (fun _ hk => hk.2)) hb,Kd.S_lower (Kd.S_mono s3 (fun _ hk => hk.2)) hb⟩
theorem Dr.below (d : Dr w0 w W g l p q a P gx T Z B x y z h r R) (hb : Below W.heap.size W W1) : Dr w0 w W1 g l p q a P gx T Z B x y z h r R :=
  ⟨d.S.step (fun k _ _ hl => hb.block k hl),d.X.below hb,d.O.below hb,d.C.below hb,keep_below d.K hb,d.n1,d.n2,d.n3,d.n4⟩
theorem Dr.cur (d : Dr w0 w W g l p q a P gx T Z B x y z h r R) (u : Cu w0 W1 g l p' q') (k : KeepBut W W1 g none) : Dr w0 w W1 g l p' q' a P gx T Z B x y z h r R := by
  have n1 := d.n1
  have n2 := d.n2
  have n3 := d.n3
  exact ⟨d.S.step (fun i hi _ hl => k.2 i hl (by omega) (by simp)),KeepBut.blk k d.X (by omega) (by simp),KeepBut.blk k d.O (by omega) (by simp),u,keep_cur d.K k,n1,n2,n3,d.n4⟩
theorem Dr.setX (d : Dr w0 w W g l p q a P gx T Z B x y z h r R) (i : Nat) (v : Value) (e : B.setIfInBounds i v = B') : Dr w0 w (W.setCell ⟨gx,i,none⟩ v) g l p q a P gx T Z B' x y z h r R := by
  have n2 := d.n2
  have n3 := d.n3
  have n5 := d.C.ge
  have k : Kp W (W.setCell ⟨gx,i,none⟩ v) gx (gx + 1) := Kp.set ⟨Nat.le_refl _,Nat.lt_succ_self _⟩ v
  exact ⟨d.S.step (fun j _ hp hl => Below.heap_setCell W ⟨gx,i,none⟩ v j (d.n4 j hp)),blk_put d.X i v e,d.O.kp k (.inl n2),d.C.own k (by omega) (by omega),keep_own d.K k (by omega),d.n1,n2,n3,d.n4⟩
theorem Dr.rows (d : Dr w0 w W g l p q a P gx T Z B x y z h r R) (k : Kp W W1 a b) (s : SkP W1 a P x y z h' r' R') (hx : gx < a ∨ b ≤ gx) : Dr w0 w W1 g l p q a P gx T Z B x y z h' r' R' := by
  have n1 := d.n1
  have n3 := d.n3
  have n5 := d.C.ge
  exact ⟨s,d.X.kp k hx,d.O.kp k (.inl n1),d.C.own k (by omega) (by omega),keep_own d.K k (by omega),n1,d.n2,n3,d.n4⟩
theorem Dr.re (d : Dr w0 w W g l p q a P gx T Z B x y z h r R) {x' y' z' : Sl} (s : SkP W a P x' y' z' h' r' R') : Dr w0 w W g l p q a P gx T Z B x' y' z' h' r' R' :=
  ⟨s,d.X,d.O,d.C,d.K,d.n1,d.n2,d.n3,d.n4⟩
theorem Dr.app (d : Dr w0 w W g l p q a P gx T Z B x y z h r R) {v1 : Value} (ho : Kd.R (Kd.int .i64) 3 W1 a (fun k => P k ∨ W.heap.size ≤ k) v1 h') (hb : Below a W W1) (hg : W.grownBy W1 (Value.slice x.A x.n x.c).ownBlock) (hat : v1.ownBlock = (Value.slice x.A x.n x.c).ownBlock ∨ ∃ b,v1.ownBlock = some b ∧ W.heap.size ≤ b) (ha : a ≤ W.heap.size) :
    ∃ x1 : Sl,v1 = .slice x1.A x1.n x1.c ∧ Dr w0 w W1 g l p q a (fun k => P k ∨ W.heap.size ≤ k) gx T Z B x1 y z h' r R := by
  have n1 := d.n1
  have n3 := d.n3
  have n5 := d.C.ge
  have nx := d.X.lt
  obtain ⟨A1,c1,rfl⟩ := Kd.R_slice ho
  have own : ∀ k,(Value.slice x.A x.n x.c).ownBlock = some k → P k ∧ a ≤ k := fun k e => by
    have := (Kd.R_bound d.S.1).1 k e;exact ⟨this.1,this.2.1⟩
  have far : ∀ k,k < a → some k ≠ (Value.slice x.A x.n x.c).ownBlock := fun k hk e => by
    have := (own k e.symm).2
    omega
  refine ⟨⟨A1,_,c1⟩,rfl,⟨⟨ho,?_,?_⟩,blk_grown d.X hg (fun e => d.n4 gx (own gx e.symm).1 rfl),blk_grown d.O hg (far _ n1),⟨d.C.i.grown hg (far _ (by omega)),below_weaken d.C.b (by omega) hb⟩,d.K.trans (KeepBut.of_grown hg g) ?_,n1,d.n2,n3,?_⟩⟩
  · exact Kd.R_mono (Kd.R_after d.S.2.1 hg hat) (fun k hk => ⟨.inl hk.1,hk.2⟩)
  · exact Kd.S_mono (Kd.S_after (ok := fun k => P k ∧ some k ≠ (Value.slice y.A y.n y.c).ownBlock) (Kd.S_mono d.S.2.2 (fun k hk => ⟨⟨hk.1,hk.2.2⟩,hk.2.1⟩)) hg hat) (fun k hk => ⟨.inl hk.1.1,hk.2,hk.1.2⟩)
  · exact Kd.R_base2 (Kd.R_lower d.S.1 (by omega))
  · rintro k (hk | hk)
    · exact d.n4 k hk
    · omega
theorem Dr.fill (d : Dr w0 w W g l p q a P gx T Z B x y z h r R) (k : Kp W W1 w.heap.size (w.heap.size + 1)) : SkP W1 a P x y z h r R ∧ Cu w0 W1 g l p q ∧ KeepBut w W1 g none := by
  have n1 := d.n1
  have n3 := d.n3
  have n5 := d.C.ge
  exact ⟨d.S.step (fun j hj _ hl => k.kept.2 j hl (fun hs => by omega)),d.C.own k (by omega) (by omega),keep_own d.K k (by omega)⟩
end
theorem lit_C {w : World} {g t : Nat} {l : List Int} (hb : Bx w g t (l.map (Value.int .i64)).toArray) (hl : l.length ≤ 9223372036854775807) : (Kd.int .i64).C w (some ⟨g,0,none⟩) l.length l := by
  refine Kd.C_of_reads (d := (0 : Int)) ⟨rfl,hl,fun _ => ⟨_,rfl,fun j hj => ?_⟩⟩
  have h := blk_cell hb j
  simp only [add_plain,Nat.zero_add]
  rw [h,List.getD_eq_getElem?_getD]
  simp [List.getElem?_eq_getElem hj]
theorem lit_cu {w0 w : World} {g gl t n : Nat} {l : List Int} {p r r1 r2 r3 : Int} (ls : List Int) (c : Cu w0 w g l p r) (L : Bx w gl t (ls.map (Value.int .i64)).toArray) (hn : ls.length = n) (hl : n ≤ 9223372036854775807) (hg : gl ≠ g) (h : spec_l1PickInt.f l p r ls = some (r1,r2,r3)) :
    Calls Try.prog 39 #[.pointer (some ⟨g,0,none⟩),.slice (some ⟨gl,0,none⟩) n n] w fun e w' => e = .returned (vi r1) ∧ Cu w0 w' g l r2 r3 ∧ KeepBut w w' g none := by
  subst hn
  exact pick_cu c (lit_C L hl) (Nat.le_refl _) (fun ad ha _ => by injection ha with ha;subst ha;exact hg) h
def DrOut (w0 w : World) (g : Nat) (l : List Int) (c s lo hi : Int) (h r : List Int) (R : List (List Int)) (p q : Int) (e : Ending) (w' : World) : Prop :=
  ∃ al an ay : Value,e = .returned (.agg #[vi c,vi s,vi lo,vi hi,al,an,ay]) ∧ Kd.R (Kd.int .i64) 3 w' w.heap.size (fun k_ => some k_ ≠ (an : Value).ownBlock) al h ∧ Kd.R (Kd.int .i64) 3 w' w.heap.size (fun k_ => some k_ ≠ (al : Value).ownBlock) an r ∧ Kd.S (Kd.slice 3 (Kd.int .i64)) 24 w' w.heap.size (fun k_ => some k_ ≠ (al : Value).ownBlock ∧ some k_ ≠ (an : Value).ownBlock) ay R ∧ IsS95 w0 w' g l p q ∧ Below w0.heap.size w0 w' ∧ KeepBut w w' g none
theorem DrOut.mk {w0 w W : World} {g : Nat} {l : List Int} {p q c s lo hi : Int} {a : Nat} {P : Nat → Prop} {x y z : Sl} {h r : List Int} {R : List (List Int)} (H : SkP W a P x y z h r R ∧ Cu w0 W g l p q ∧ KeepBut w W g none) (n : w.heap.size < a) :
    DrOut w0 w g l c s lo hi h r R p q (.returned (.agg #[vi c,vi s,vi lo,vi hi,.slice x.A x.n x.c,.slice y.A y.n y.c,.slice z.A z.n z.c])) W := by
  obtain ⟨k1,k2,k3⟩ := H.1.kd (base := w.heap.size) (by omega)
  exact ⟨_,_,_,rfl,k1,k2,k3,H.2.1.i,H.2.1.b,H.2.2⟩
structure DrI (w0 w : World) (g : Nat) (l : List Int) (p q : Int) (T : Nat) (Z : Array Value) : Prop where
  C : Cu w0 (w.alloc (.cells Z T)) g l p q
  K : KeepBut w (w.alloc (.cells Z T)) g none
  O : Bx (w.alloc (.cells Z T)) w.heap.size T Z
  n : g < w.heap.size
theorem dr_in {w0 w : World} {g : Nat} {l : List Int} {p q : Int} (T : Nat) (Z : Array Value) (u : Cu w0 w g l p q) : DrI w0 w g l p q T Z :=
  ⟨u.below (below_alloc (Below.refl _ w) _),keep_alloc (KeepBut.refl w g none) _,Bx.new w T Z,u.lt⟩
theorem DrI.mk_ {w0 w w1 : World} {g : Nat} {l : List Int} {p q p1 q1 : Int} {T a b : Nat} {Z : Array Value} (B : Array Value) {x y z : Sl} {h r : List Int} {R : List (List Int)} (i : DrI w0 w g l p q T Z) (hs : Sk w1 a b x y z h r R) (hm : Made (w.alloc (.cells Z T)) w1 a b) (u1 : Cu w0 w1 g l p1 q1) (hk : KeepBut (w.alloc (.cells Z T)) w1 g none) :
    Dr w0 w (w1.alloc (.cells B T)) g l p1 q1 a (fun k => k < b) w1.heap.size T Z B x y z h r R ∧ b ≤ w1.heap.size ∧ a ≤ b ∧ a ≤ (w1.alloc (.cells B T)).heap.size := by
  unfold Made at hm
  have hq : (w.alloc (.cells Z T)).heap.size = w.heap.size + 1 := by simp
  have aD : (w1.alloc (.cells B T)).heap.size = w1.heap.size + 1 := by simp
  have hl := i.n
  have hb := below_alloc (Below.refl _ w1) (.cells B T)
  exact ⟨⟨hs.below hb,Bx.new w1 T B,(i.O.kp (i.C.kp u1 hk) (.inr (by omega))).below hb,u1.below hb,keep_below (keep_cur i.K hk) hb,by omega,by omega,hl,fun k hk => by omega⟩,hm.2.2,hm.2.1,by omega⟩
theorem vals_cu (k : Nat) {w0 w : World} {g : Nat} {l l1 : List Int} {p r r2 r3 : Int} (u : Cu w0 w g l p r) (he : spec_l3Values.f k l p r = some (l1,r2,r3)) :
    Calls Try.prog 97 #[.pointer (some ⟨g,0,none⟩)] w fun e w' => ∃ v : Sl,e = .returned (.slice v.A l1.length v.c) ∧ ((Kd.int .i64).C w' v.A l1.length l1 ∧ l1.length ≤ v.c) ∧ Cu w0 w' g l r2 r3 ∧ KeepBut w w' g none := by
  refine (spec_l3Values.calls k g l p r l1 r2 r3 w0 w u.i u.b he).mono ?_
  rintro e w' ⟨v,rfl,h4,hi,hb,hk⟩
  obtain ⟨A,c,rfl⟩ := Kd.R_slice h4
  obtain ⟨h1,h2,h3⟩ := Kd.R_reads' h4
  exact ⟨⟨A,l1.length,c⟩,rfl,⟨h3,h2⟩,⟨hi,hb⟩,hk⟩
theorem skd_cu (k : Nat) {w : World} {A : Option Addr} {cp : Nat} {l : List Int} {c s lo hi : Int} {h r : List Int} {R : List (List Int)} (C : (Kd.int .i64).C w A l.length l ∧ l.length ≤ cp) (he : spec_Sketched.f k l = some (c,s,lo,hi,h,r,R)) :
    Calls Try.prog 96 #[.slice A l.length cp] w fun e w' => ∃ (x y z : Sl) (a b : Nat),e = .returned (.agg #[vi c,vi s,vi lo,vi hi,.slice x.A x.n x.c,.slice y.A y.n y.c,.slice z.A z.n z.c]) ∧ Sk w' a b x y z h r R ∧ Made w w' a b ∧ Below w.heap.size w w' := by
  refine (spec_Sketched.calls k A cp l c s lo hi h r R w C.1 C.2 he).mono ?_
  rintro e w' ⟨v4,v5,v6,rfl,h4,h5,h6,hb⟩
  obtain ⟨x,y,z,rfl,rfl,rfl,hs⟩ := Sk.of h4 h5 h6 (fun _ hk => hk) (fun _ hk => hk)
  exact ⟨x,y,z,_,_,rfl,hs,⟨Nat.le_refl _,hb.size,Nat.le_refl _⟩,hb⟩
theorem l3r_n (k : Nat) {w0 w : World} {g : Nat} {l l1 : List Int} {p q : Int} (u : Cu w0 w g l p q) {p1 q1 c s lo hi p2 q2 : Int} {h r : List Int} {R : List (List Int)} (E1 : Aside0 (spec_l3Values.f k l p q = some (l1,p1,q1))) (E2 : Aside0 (spec_Sketched.f k l1 = some (c,s,lo,hi,h,r,R))) (E3 : Aside0 (spec_l1Once.f l p1 q1 16 = some (false,p2,q2)))  :
    Calls Try.prog 98 #[.pointer (some ⟨g,0,none⟩)] w (DrOut w0 w g l c s lo hi h r R p2 q2) := by
  have U0 := mkA (u.below (below_alloc (Below.refl _ w) (.cells #[vi 0,vi 0,vi 0,vi 0,.slice none 0 0,.slice none 0 0,.slice none 0 0] 27)))
  have K0 := mkA (keep_alloc (KeepBut.refl w g none) (.cells #[vi 0,vi 0,vi 0,vi 0,.slice none 0 0,.slice none 0 0,.slice none 0 0] 27))
  have O0 := mkA (Bx.new w 27 #[vi 0,vi 0,vi 0,vi 0,.slice none 0 0,.slice none 0 0,.slice none 0 0])
  have N0 := mkA u.lt
  clear u
  go_enter Try.func98,Try.ntmps98
  go_wp2_with fail
  refine (vals_cu k U0.out E1.out).mono ?_
  rintro e w1 ⟨v,rfl,hv,u1,hk⟩
  have az := U0.out.kp u1 hk
  have hl := N0.out
  have O1 := mkA (O0.out.kp az (.inr (by omega)))
  have U1 := mkA u1
  have K1 := mkA (keep_cur K0.out hk)
  have V1 := mkA hv
  have hq : (w.alloc (.cells #[vi 0,vi 0,vi 0,vi 0,.slice none 0 0,.slice none 0 0,.slice none 0 0] 27)).heap.size = w.heap.size + 1 := by simp
  have N1 := mkA (show w.heap.size + 1 ≤ w1.heap.size ∧ g < w.heap.size by have := hk.1;omega)
  clear hk az hl hq u1 hv U0 K0 O0 N0
  go_wp2_with fail
  refine (skd_cu k V1.out E2.out).mono ?_
  rintro e w2 ⟨x,y,z,a,b,rfl,hs,hm,a6⟩
  unfold Made at hm
  have n1 := N1.out
  have hb := below_step a6 (below_alloc (Below.refl _ w2) (.cells #[vi c,vi s,vi lo,vi hi,.slice x.A x.n x.c,.slice y.A y.n y.c,.slice z.A z.n z.c] 27))
  have a7 := below_alloc (Below.refl _ w2) (.cells #[vi c,vi s,vi lo,vi hi,.slice x.A x.n x.c,.slice y.A y.n y.c,.slice z.A z.n z.c] 27)
  have D0 := mkA (show Dr w0 w (w2.alloc (.cells #[vi c,vi s,vi lo,vi hi,.slice x.A x.n x.c,.slice y.A y.n y.c,.slice z.A z.n z.c] 27)) g l p1 q1 a (fun k => k < b) w2.heap.size 27 #[vi 0,vi 0,vi 0,vi 0,.slice none 0 0,.slice none 0 0,.slice none 0 0] #[vi c,vi s,vi lo,vi hi,.slice x.A x.n x.c,.slice y.A y.n y.c,.slice z.A z.n z.c] x y z h r R from ⟨hs.below a7,Bx.new w2 27 #[vi c,vi s,vi lo,vi hi,.slice x.A x.n x.c,.slice y.A y.n y.c,.slice z.A z.n z.c],O1.out.below hb,U1.out.below hb,keep_below K1.out hb,by omega,by omega,n1.2,fun k hk => by omega⟩)
  have NB := mkA hm.2.2
  clear hs hm a6 n1 hb a7 O1 U1 K1 V1 N1
  go_wp2_with fail
  refine (once_cu D0.out.C E3.out).mono ?_
  rintro e w3 ⟨rfl,u2,hk⟩
  have D := mkA (D0.out.cur u2 hk)
  clear u2 hk D0
  generalize w2.heap.size = gx at *
  obtain ⟨x_0,x_1,x_2,x_3,x_4,x_5,x_6⟩ := D.out.X.cells
  obtain ⟨o0,o1,o2,o3,o4,o5,o6⟩ := D.out.O.cells
  have fo := D.out.O.fz
  go_wp2
  have FF := D.out.O.fill (vi c) (vi s) (vi lo) (vi hi) (.slice x.A x.n x.c) (.slice y.A y.n y.c) (.slice z.A z.n z.c)
  refine bodyPost_ret (results_cell_row rfl _ _ w.heap.size 27 #[vi c,vi s,vi lo,vi hi,.slice x.A x.n x.c,.slice y.A y.n y.c,.slice z.A z.n z.c] (0,0) _ rfl FF.1 Try.underlying27 rfl (by kernel_rfl)) rfl ?_
  exact DrOut.mk (D.out.fill FF.2) D.out.n1
theorem l3r_z (k : Nat) {w0 w : World} {g : Nat} {l l1 : List Int} {p q : Int} (u : Cu w0 w g l p q) {p1 q1 c s lo hi p2 q2 : Int} {h r : List Int} {R : List (List Int)} (E1 : Aside0 (spec_l3Values.f k l p q = some (l1,p1,q1))) (E2 : Aside0 (spec_Sketched.f k l1 = some (c,s,lo,hi,h,r,R))) (E3 : Aside0 (spec_l1Once.f l p1 q1 16 = some (true,p2,q2))) (HC : ¬ c > 0) :
    Calls Try.prog 98 #[.pointer (some ⟨g,0,none⟩)] w (DrOut w0 w g l c s lo hi h r R p2 q2) := by
  have U0 := mkA (u.below (below_alloc (Below.refl _ w) (.cells #[vi 0,vi 0,vi 0,vi 0,.slice none 0 0,.slice none 0 0,.slice none 0 0] 27)))
  have K0 := mkA (keep_alloc (KeepBut.refl w g none) (.cells #[vi 0,vi 0,vi 0,vi 0,.slice none 0 0,.slice none 0 0,.slice none 0 0] 27))
  have O0 := mkA (Bx.new w 27 #[vi 0,vi 0,vi 0,vi 0,.slice none 0 0,.slice none 0 0,.slice none 0 0])
  have N0 := mkA u.lt
  clear u
  go_enter Try.func98,Try.ntmps98
  go_wp2_with fail
  refine (vals_cu k U0.out E1.out).mono ?_
  rintro e w1 ⟨v,rfl,hv,u1,hk⟩
  have az := U0.out.kp u1 hk
  have hl := N0.out
  have O1 := mkA (O0.out.kp az (.inr (by omega)))
  have U1 := mkA u1
  have K1 := mkA (keep_cur K0.out hk)
  have V1 := mkA hv
  have hq : (w.alloc (.cells #[vi 0,vi 0,vi 0,vi 0,.slice none 0 0,.slice none 0 0,.slice none 0 0] 27)).heap.size = w.heap.size + 1 := by simp
  have N1 := mkA (show w.heap.size + 1 ≤ w1.heap.size ∧ g < w.heap.size by have := hk.1;omega)
  clear hk az hl hq u1 hv U0 K0 O0 N0
  go_wp2_with fail
  refine (skd_cu k V1.out E2.out).mono ?_
  rintro e w2 ⟨x,y,z,a,b,rfl,hs,hm,a6⟩
  unfold Made at hm
  have n1 := N1.out
  have hb := below_step a6 (below_alloc (Below.refl _ w2) (.cells #[vi c,vi s,vi lo,vi hi,.slice x.A x.n x.c,.slice y.A y.n y.c,.slice z.A z.n z.c] 27))
  have a7 := below_alloc (Below.refl _ w2) (.cells #[vi c,vi s,vi lo,vi hi,.slice x.A x.n x.c,.slice y.A y.n y.c,.slice z.A z.n z.c] 27)
  have D0 := mkA (show Dr w0 w (w2.alloc (.cells #[vi c,vi s,vi lo,vi hi,.slice x.A x.n x.c,.slice y.A y.n y.c,.slice z.A z.n z.c] 27)) g l p1 q1 a (fun k => k < b) w2.heap.size 27 #[vi 0,vi 0,vi 0,vi 0,.slice none 0 0,.slice none 0 0,.slice none 0 0] #[vi c,vi s,vi lo,vi hi,.slice x.A x.n x.c,.slice y.A y.n y.c,.slice z.A z.n z.c] x y z h r R from ⟨hs.below a7,Bx.new w2 27 #[vi c,vi s,vi lo,vi hi,.slice x.A x.n x.c,.slice y.A y.n y.c,.slice z.A z.n z.c],O1.out.below hb,U1.out.below hb,keep_below K1.out hb,by omega,by omega,n1.2,fun k hk => by omega⟩)
  have NB := mkA hm.2.2
  clear hs hm a6 n1 hb a7 O1 U1 K1 V1 N1
  go_wp2_with fail
  refine (once_cu D0.out.C E3.out).mono ?_
  rintro e w3 ⟨rfl,u2,hk⟩
  have D := mkA (D0.out.cur u2 hk)
  clear u2 hk D0
  generalize w2.heap.size = gx at *
  have aB : (decide (c > 0)) = false := decide_eq_false (by omega)
  obtain ⟨x_0,x_1,x_2,x_3,x_4,x_5,x_6⟩ := D.out.X.cells
  obtain ⟨o0,o1,o2,o3,o4,o5,o6⟩ := D.out.O.cells
  have fo := D.out.O.fz
  go_wp2
  have FF := D.out.O.fill (vi c) (vi s) (vi lo) (vi hi) (.slice x.A x.n x.c) (.slice y.A y.n y.c) (.slice z.A z.n z.c)
  refine bodyPost_ret (results_cell_row rfl _ _ w.heap.size 27 #[vi c,vi s,vi lo,vi hi,.slice x.A x.n x.c,.slice y.A y.n y.c,.slice z.A z.n z.c] (0,0) _ rfl FF.1 Try.underlying27 rfl (by kernel_rfl)) rfl ?_
  exact DrOut.mk (D.out.fill FF.2) D.out.n1
theorem l3r_y (k : Nat) {w0 w : World} {g : Nat} {l l1 : List Int} {p q : Int} (u : Cu w0 w g l p q) {p1 q1 c s lo hi p2 q2 : Int} {h r : List Int} {R : List (List Int)} (E1 : Aside0 (spec_l3Values.f k l p q = some (l1,p1,q1))) (E2 : Aside0 (spec_Sketched.f k l1 = some (c,s,lo,hi,h,r,R))) (E3 : Aside0 (spec_l1Once.f l p1 q1 16 = some (true,p2,q2))) {v_ p3 q3 : Int} (HC : c > 0) (E4 : Aside0 (spec_l1Below.f l p2 q2 2 = some (v_,p3,q3))) (HH : Aside0 (3 < (h.length : Int))) :
    Calls Try.prog 98 #[.pointer (some ⟨g,0,none⟩)] w (DrOut w0 w g l (wrap64 (1000000000 - v_)) 999999997 lo hi (h.set (3 : Int).toNat 1000000000) r R p3 q3) := by
  have U0 := mkA (u.below (below_alloc (Below.refl _ w) (.cells #[vi 0,vi 0,vi 0,vi 0,.slice none 0 0,.slice none 0 0,.slice none 0 0] 27)))
  have K0 := mkA (keep_alloc (KeepBut.refl w g none) (.cells #[vi 0,vi 0,vi 0,vi 0,.slice none 0 0,.slice none 0 0,.slice none 0 0] 27))
  have O0 := mkA (Bx.new w 27 #[vi 0,vi 0,vi 0,vi 0,.slice none 0 0,.slice none 0 0,.slice none 0 0])
  have N0 := mkA u.lt
  clear u
  go_enter Try.func98,Try.ntmps98
  go_wp2_with fail
  refine (vals_cu k U0.out E1.out).mono ?_
  rintro e w1 ⟨v,rfl,hv,u1,hk⟩
  have az := U0.out.kp u1 hk
  have hl := N0.out
  have O1 := mkA (O0.out.kp az (.inr (by omega)))
  have U1 := mkA u1
  have K1 := mkA (keep_cur K0.out hk)
  have V1 := mkA hv
  have hq : (w.alloc (.cells #[vi 0,vi 0,vi 0,vi 0,.slice none 0 0,.slice none 0 0,.slice none 0 0] 27)).heap.size = w.heap.size + 1 := by simp
  have N1 := mkA (show w.heap.size + 1 ≤ w1.heap.size ∧ g < w.heap.size by have := hk.1;omega)
  clear hk az hl hq u1 hv U0 K0 O0 N0
  go_wp2_with fail
  refine (skd_cu k V1.out E2.out).mono ?_
  rintro e w2 ⟨x,y,z,a,b,rfl,hs,hm,a6⟩
  unfold Made at hm
  have n1 := N1.out
  have hb := below_step a6 (below_alloc (Below.refl _ w2) (.cells #[vi c,vi s,vi lo,vi hi,.slice x.A x.n x.c,.slice y.A y.n y.c,.slice z.A z.n z.c] 27))
  have a7 := below_alloc (Below.refl _ w2) (.cells #[vi c,vi s,vi lo,vi hi,.slice x.A x.n x.c,.slice y.A y.n y.c,.slice z.A z.n z.c] 27)
  have D0 := mkA (show Dr w0 w (w2.alloc (.cells #[vi c,vi s,vi lo,vi hi,.slice x.A x.n x.c,.slice y.A y.n y.c,.slice z.A z.n z.c] 27)) g l p1 q1 a (fun k => k < b) w2.heap.size 27 #[vi 0,vi 0,vi 0,vi 0,.slice none 0 0,.slice none 0 0,.slice none 0 0] #[vi c,vi s,vi lo,vi hi,.slice x.A x.n x.c,.slice y.A y.n y.c,.slice z.A z.n z.c] x y z h r R from ⟨hs.below a7,Bx.new w2 27 #[vi c,vi s,vi lo,vi hi,.slice x.A x.n x.c,.slice y.A y.n y.c,.slice z.A z.n z.c],O1.out.below hb,U1.out.below hb,keep_below K1.out hb,by omega,by omega,n1.2,fun k hk => by omega⟩)
  have NB := mkA hm.2.2
  clear hs hm a6 n1 hb a7 O1 U1 K1 V1 N1
  go_wp2_with fail
  refine (once_cu D0.out.C E3.out).mono ?_
  rintro e w3 ⟨rfl,u2,hk⟩
  have D := mkA (D0.out.cur u2 hk)
  clear u2 hk D0
  generalize w2.heap.size = gx at *
  have aB : (decide (c > 0)) = true := decide_eq_true (by omega)
  obtain ⟨x_0,x_1,x_2,x_3,x_4,x_5,x_6⟩ := D.out.X.cells
  go_wp2_with fail
  clear x_0 x_1 x_2 x_3 x_4 x_5 x_6
  refine (below_cu D.out.C E4.out).mono ?_
  rintro e w4 ⟨rfl,u2,hk⟩
  have D3 := mkA (D.out.cur u2 hk)
  clear u2 hk D
  obtain ⟨x_0,x_1,x_2,x_3,x_4,x_5,x_6⟩ := D3.out.X.cells
  have fx := D3.out.X.fz
  go_upto_region 4 with (fail)
  clear x_0 x_1 x_2 x_3 x_4 x_5 x_6
  clear fx
  have D4 := mkA (D3.out.setX 0 (vi (wrap64 (1000000000 - v_))) rfl)
  clear D3
  generalize w4.setCell _ _ = w5 at *
  obtain ⟨gh,ex,exn,exc,PP,put⟩ := (show Sk w5 a b x y z h r R from D4.out.S).h_put (by have := HH.out;omega)
  obtain ⟨xA,xn,xc⟩ := x
  simp only at ex exn exc
  subst ex exn
  have h3 := HH.out
  have hc := PP.rd 3 (by omega)
  have hf := PP.fz
  obtain ⟨x_0,x_1,x_2,x_3,x_4,x_5,x_6⟩ := D4.out.X.cells
  have D5 := mkA (D4.out.rows (put 3 1000000000).2 (put 3 1000000000).1 (.inr NB.out))
  clear put PP
  go_upto_region 5 with (fail)
  clear x_0 x_1 x_2 x_3 x_4 x_5 x_6
  clear hc hf h3 D4
  generalize w5.setCell _ _ = w6 at *
  obtain ⟨x_0,x_1,x_2,x_3,x_4,x_5,x_6⟩ := D5.out.X.cells
  have fx := D5.out.X.fz
  go_upto_region 6 with (fail)
  clear x_0 x_1 x_2 x_3 x_4 x_5 x_6
  clear fx
  have D6 := mkA (D5.out.setX 1 (vi 999999997) rfl)
  clear D5
  generalize w6.setCell _ _ = w7 at *
  obtain ⟨x_0,x_1,x_2,x_3,x_4,x_5,x_6⟩ := D6.out.X.cells
  obtain ⟨o0,o1,o2,o3,o4,o5,o6⟩ := D6.out.O.cells
  have fo := D6.out.O.fz
  go_wp2
  have FF := D6.out.O.fill (vi (wrap64 (1000000000 - v_))) (vi 999999997) (vi lo) (vi hi) (.slice (some ⟨gh,0,none⟩) h.length xc) (.slice y.A y.n y.c) (.slice z.A z.n z.c)
  refine bodyPost_ret (results_cell_row rfl _ _ w.heap.size 27 #[vi (wrap64 (1000000000 - v_)),vi 999999997,vi lo,vi hi,.slice (some ⟨gh,0,none⟩) h.length xc,.slice y.A y.n y.c,.slice z.A z.n z.c] (0,0) _ rfl FF.1 Try.underlying27 rfl (by kernel_rfl)) rfl ?_
  exact DrOut.mk (D6.out.fill FF.2) D6.out.n1

def spec_l3Right.f (k : Nat) (af : List Int) (ah : Int) (ai : Int) : Option (Int × Int × Int × Int × List Int × List Int × (List (List Int)) × Int × Int) := (spec_l3Values.f k af ah ai).bind fun aq => ((spec_Sketched.f k aq.1).bind fun ab => ((spec_l1Once.f af aq.2.1 aq.2.2 16).bind fun aj => (if aj.1 = true then (if ab.1 > 0 then ((spec_l1Below.f af aj.2.1 aj.2.2 2).bind fun ar => (if 3 < (ab.2.2.2.2.1.length : Int) then (some (wrap64 (1000000000 - ar.1),999999997,ab.2.2.1,ab.2.2.2.1,(ab.2.2.2.2.1.set (3 : Int).toNat 1000000000),ab.2.2.2.2.2.1,ab.2.2.2.2.2.2,ar.2.1,ar.2.2)) else (none))) else (some (ab.1,ab.2.1,ab.2.2.1,ab.2.2.2.1,ab.2.2.2.2.1,ab.2.2.2.2.2.1,ab.2.2.2.2.2.2,aj.2.1,aj.2.2))) else (some (ab.1,ab.2.1,ab.2.2.1,ab.2.2.2.1,ab.2.2.2.2.1,ab.2.2.2.2.2.1,ab.2.2.2.2.2.2,aj.2.1,aj.2.2)))))
theorem spec_l3Right.calls (k : Nat) (g : Nat) (af : List Int) (ah : Int) (ai : Int) (r1 : Int) (r2 : Int) (r3 : Int) (r4 : Int) (r5 : List Int) (r6 : List Int) (r7 : List (List Int)) (r8 : Int) (r9 : Int) (w0 w : World) (hI : IsS95 w0 w g af ah ai) (hB : Below w0.heap.size w0 w) (h : spec_l3Right.f k af ah ai = some (r1,r2,r3,r4,r5,r6,r7,r8,r9)) :
    Calls Try.prog 98 #[.pointer (some ⟨g,0,none⟩)] w fun e w' => ∃ al an ay : Value,e = .returned (.agg #[vi r1,vi r2,vi r3,vi r4,al,an,ay]) ∧ Kd.R (Kd.int .i64) 3 w' w.heap.size (fun k_ => some k_ ≠ (an : Value).ownBlock) al r5 ∧ Kd.R (Kd.int .i64) 3 w' w.heap.size (fun k_ => some k_ ≠ (al : Value).ownBlock) an r6 ∧ Kd.S (Kd.slice 3 (Kd.int .i64)) 24 w' w.heap.size (fun k_ => some k_ ≠ (al : Value).ownBlock ∧ some k_ ≠ (an : Value).ownBlock) ay r7 ∧ IsS95 w0 w' g af r8 r9 ∧ Below w0.heap.size w0 w' ∧ KeepBut w w' g none := by
  have u : Cu w0 w g af ah ai := ⟨hI,hB⟩
  unfold spec_l3Right.f at h
  replace h := Option.bind_eq_some_iff.mp h
  obtain ⟨⟨l1,p1,q1⟩,E1,h⟩ := h
  replace h := Option.bind_eq_some_iff.mp h
  obtain ⟨⟨c,s,lo,hi,h0,r,R⟩,E2,h⟩ := h
  replace h := Option.bind_eq_some_iff.mp h
  obtain ⟨⟨t,p2,q2⟩,E3,h⟩ := h
  dsimp only at E1 E2 E3 h
  cases t
  · rw [if_neg (by decide)] at h
    simp only [Option.some.injEq,Prod.mk.injEq] at h;obtain ⟨rfl,rfl,rfl,rfl,rfl,rfl,rfl,rfl,rfl⟩ := h;exact l3r_n k u ⟨E1⟩ ⟨E2⟩ ⟨E3⟩
  · rw [if_pos rfl] at h
    by_cases hc : c > 0
    · rw [if_pos hc] at h
      replace h := Option.bind_eq_some_iff.mp h;obtain ⟨⟨v,p3,q3⟩,E4,h⟩ := h
      dsimp only at E4 h
      have i0 : 3 < (h0.length : Int) := Classical.byContradiction fun q => by rw [if_neg q] at h;cases h
      rw [if_pos i0] at h;simp only [Option.some.injEq,Prod.mk.injEq] at h;obtain ⟨rfl,rfl,rfl,rfl,rfl,rfl,rfl,rfl,rfl⟩ := h;exact l3r_y k u ⟨E1⟩ ⟨E2⟩ ⟨E3⟩ hc ⟨E4⟩ ⟨i0⟩
    · rw [if_neg hc] at h
      simp only [Option.some.injEq,Prod.mk.injEq] at h;obtain ⟨rfl,rfl,rfl,rfl,rfl,rfl,rfl,rfl,rfl⟩ := h;exact l3r_z k u ⟨E1⟩ ⟨E2⟩ ⟨E3⟩ hc

theorem right_cu (k : Nat) {w0 w : World} {g : Nat} {l : List Int} {p r c s lo hi r8 r9 : Int} {h t : List Int} {R : List (List Int)} (u : Cu w0 w g l p r) (he : spec_l3Right.f k l p r = some (c,s,lo,hi,h,t,R,r8,r9)) :
    Calls Try.prog 98 #[.pointer (some ⟨g,0,none⟩)] w fun e w' => ∃ (x y z : Sl) (a b : Nat),e = .returned (.agg #[vi c,vi s,vi lo,vi hi,.slice x.A x.n x.c,.slice y.A y.n y.c,.slice z.A z.n z.c]) ∧ Sk w' a b x y z h t R ∧ Made w w' a b ∧ Cu w0 w' g l r8 r9 ∧ KeepBut w w' g none := by
  refine (spec_l3Right.calls k g l p r c s lo hi h t R r8 r9 w0 w u.i u.b he).mono ?_
  rintro e w' ⟨v4,v5,v6,rfl,h4,h5,h6,hi,hb,hk⟩
  obtain ⟨x,y,z,rfl,rfl,rfl,hs⟩ := Sk.of h4 h5 h6 (fun _ hk => hk) (fun _ hk => hk)
  exact ⟨x,y,z,_,_,rfl,hs,⟨Nat.le_refl _,hk.1,Nat.le_refl _⟩,⟨hi,hb⟩,hk⟩
theorem l3d_0 (k : Nat) {w0 w : World} {g : Nat} {l : List Int} {p q : Int} (u : Cu w0 w g l p q) {c s lo hi p1 q1 p2 q2 : Int} {h r : List Int} {R : List (List Int)} (E1 : Aside0 (spec_l3Right.f k l p q = some (c,s,lo,hi,h,r,R,p1,q1))) (E2 : Aside0 (spec_l1Below.f l p1 q1 16 = some (0,p2,q2))) {v p3 q3 : Int} (E3 : Aside0 (spec_l1PickInt.f l p2 q2 [(-1),1000001,500] = some (v,p3,q3))) :
    Calls Try.prog 70 #[.pointer (some ⟨g,0,none⟩)] w (DrOut w0 w g l c s v hi h r R p3 q3) := by
  have I := mkA (dr_in 27 #[vi 0,vi 0,vi 0,vi 0,.slice none 0 0,.slice none 0 0,.slice none 0 0] u)
  clear u
  go_enter Try.func70,Try.ntmps70
  go_wp2_with fail
  refine (right_cu k I.out.C E1.out).mono ?_
  rintro e w1 ⟨x,y,z,a,b,rfl,hs,hm,u1,hk⟩
  obtain ⟨hd,n1,n2,n3⟩ := I.out.mk_ #[vi c,vi s,vi lo,vi hi,.slice x.A x.n x.c,.slice y.A y.n y.c,.slice z.A z.n z.c] hs hm u1 hk
  have D0 := mkA hd
  have NB := mkA n1
  have ag := mkA (And.intro n2 n3)
  clear hs hm u1 hk hd n1 n2 n3 I
  go_wp2_with fail
  refine (below_cu D0.out.C E2.out).mono ?_
  rintro e w2 ⟨rfl,u2,hk⟩
  have D := mkA (D0.out.cur u2 hk)
  have NA := mkA (And.intro ag.out.1 (Nat.le_trans ag.out.2 hk.1))
  clear u2 hk D0 ag
  generalize w1.heap.size = gx at *
  go_wp2_with fail
  have hb := below_alloc (Below.refl _ w2) (.cells #[vi (-1),vi 1000001,vi 500] 3)
  have D1 := mkA (D.out.below hb)
  have L1 := mkA (Bx.new w2 3 #[vi (-1),vi 1000001,vi 500])
  have g1 := D.out.C.lt
  clear hb
  refine (lit_cu (n := 3) [(-1),1000001,500] D1.out.C L1.out rfl (by decide) (Nat.ne_of_gt g1) E3.out).mono ?_
  rintro e w3 ⟨rfl,u3,hk⟩
  have D3 := mkA (D1.out.cur u3 hk)
  clear u3 hk D1 L1 D g1
  obtain ⟨x_0,x_1,x_2,x_3,x_4,x_5,x_6⟩ := D3.out.X.cells
  have fx := D3.out.X.fz
  go_upto_region 15 with (fail)
  clear x_0 x_1 x_2 x_3 x_4 x_5 x_6
  clear fx
  have D4 := mkA (D3.out.setX 2 (vi v) rfl)
  clear D3
  generalize w3.setCell _ _ = w4 at *
  obtain ⟨x_0,x_1,x_2,x_3,x_4,x_5,x_6⟩ := D4.out.X.cells
  obtain ⟨o0,o1,o2,o3,o4,o5,o6⟩ := D4.out.O.cells
  have fo := D4.out.O.fz
  go_wp2
  have FF := D4.out.O.fill (vi c) (vi s) (vi v) (vi hi) (.slice x.A x.n x.c) (.slice y.A y.n y.c) (.slice z.A z.n z.c)
  refine bodyPost_ret (results_cell_row rfl _ _ w.heap.size 27 #[vi c,vi s,vi v,vi hi,.slice x.A x.n x.c,.slice y.A y.n y.c,.slice z.A z.n z.c] (0,0) _ rfl FF.1 Try.underlying27 rfl (by kernel_rfl)) rfl ?_
  exact DrOut.mk (D4.out.fill FF.2) D4.out.n1
theorem l3d_4 (k : Nat) {w0 w : World} {g : Nat} {l : List Int} {p q : Int} (u : Cu w0 w g l p q) {c s lo hi p1 q1 p2 q2 : Int} {h r : List Int} {R : List (List Int)} (E1 : Aside0 (spec_l3Right.f k l p q = some (c,s,lo,hi,h,r,R,p1,q1))) (E2 : Aside0 (spec_l1Below.f l p1 q1 16 = some (4,p2,q2))) {v p3 q3 : Int} (E3 : Aside0 (spec_l1PickInt.f l p2 q2 [0,(-1),1000000001] = some (v,p3,q3))) :
    Calls Try.prog 70 #[.pointer (some ⟨g,0,none⟩)] w (DrOut w0 w g l v s lo hi h r R p3 q3) := by
  have I := mkA (dr_in 27 #[vi 0,vi 0,vi 0,vi 0,.slice none 0 0,.slice none 0 0,.slice none 0 0] u)
  clear u
  go_enter Try.func70,Try.ntmps70
  go_wp2_with fail
  refine (right_cu k I.out.C E1.out).mono ?_
  rintro e w1 ⟨x,y,z,a,b,rfl,hs,hm,u1,hk⟩
  obtain ⟨hd,n1,n2,n3⟩ := I.out.mk_ #[vi c,vi s,vi lo,vi hi,.slice x.A x.n x.c,.slice y.A y.n y.c,.slice z.A z.n z.c] hs hm u1 hk
  have D0 := mkA hd
  have NB := mkA n1
  have ag := mkA (And.intro n2 n3)
  clear hs hm u1 hk hd n1 n2 n3 I
  go_wp2_with fail
  refine (below_cu D0.out.C E2.out).mono ?_
  rintro e w2 ⟨rfl,u2,hk⟩
  have D := mkA (D0.out.cur u2 hk)
  have NA := mkA (And.intro ag.out.1 (Nat.le_trans ag.out.2 hk.1))
  clear u2 hk D0 ag
  generalize w1.heap.size = gx at *
  go_wp2_with fail
  have hb := below_alloc (Below.refl _ w2) (.cells #[vi 0,vi (-1),vi 1000000001] 3)
  have D1 := mkA (D.out.below hb)
  have L1 := mkA (Bx.new w2 3 #[vi 0,vi (-1),vi 1000000001])
  have g1 := D.out.C.lt
  clear hb
  refine (lit_cu (n := 3) [0,(-1),1000000001] D1.out.C L1.out rfl (by decide) (Nat.ne_of_gt g1) E3.out).mono ?_
  rintro e w3 ⟨rfl,u3,hk⟩
  have D3 := mkA (D1.out.cur u3 hk)
  clear u3 hk D1 L1 D g1
  obtain ⟨x_0,x_1,x_2,x_3,x_4,x_5,x_6⟩ := D3.out.X.cells
  have fx := D3.out.X.fz
  go_upto_region 15 with (fail)
  clear x_0 x_1 x_2 x_3 x_4 x_5 x_6
  clear fx
  have D4 := mkA (D3.out.setX 0 (vi v) rfl)
  clear D3
  generalize w3.setCell _ _ = w4 at *
  obtain ⟨x_0,x_1,x_2,x_3,x_4,x_5,x_6⟩ := D4.out.X.cells
  obtain ⟨o0,o1,o2,o3,o4,o5,o6⟩ := D4.out.O.cells
  have fo := D4.out.O.fz
  go_wp2
  have FF := D4.out.O.fill (vi v) (vi s) (vi lo) (vi hi) (.slice x.A x.n x.c) (.slice y.A y.n y.c) (.slice z.A z.n z.c)
  refine bodyPost_ret (results_cell_row rfl _ _ w.heap.size 27 #[vi v,vi s,vi lo,vi hi,.slice x.A x.n x.c,.slice y.A y.n y.c,.slice z.A z.n z.c] (0,0) _ rfl FF.1 Try.underlying27 rfl (by kernel_rfl)) rfl ?_
  exact DrOut.mk (D4.out.fill FF.2) D4.out.n1
theorem l3d_e (k : Nat) {w0 w : World} {g : Nat} {l : List Int} {p q : Int} (u : Cu w0 w g l p q) {c s lo hi p1 q1 n p2 q2 : Int} {h r : List Int} {R : List (List Int)} (E1 : Aside0 (spec_l3Right.f k l p q = some (c,s,lo,hi,h,r,R,p1,q1))) (E2 : Aside0 (spec_l1Below.f l p1 q1 16 = some (n,p2,q2))) (HN : ¬ n = 0 ∧ ¬ n = 1 ∧ ¬ n = 2 ∧ ¬ n = 3 ∧ ¬ n = 4 ∧ ¬ n = 5) :
    Calls Try.prog 70 #[.pointer (some ⟨g,0,none⟩)] w (DrOut w0 w g l c s lo hi h r R p2 q2) := by
  have I := mkA (dr_in 27 #[vi 0,vi 0,vi 0,vi 0,.slice none 0 0,.slice none 0 0,.slice none 0 0] u)
  clear u
  go_enter Try.func70,Try.ntmps70
  go_wp2_with fail
  refine (right_cu k I.out.C E1.out).mono ?_
  rintro e w1 ⟨x,y,z,a,b,rfl,hs,hm,u1,hk⟩
  obtain ⟨hd,n1,n2,n3⟩ := I.out.mk_ #[vi c,vi s,vi lo,vi hi,.slice x.A x.n x.c,.slice y.A y.n y.c,.slice z.A z.n z.c] hs hm u1 hk
  have D0 := mkA hd
  have NB := mkA n1
  have ag := mkA (And.intro n2 n3)
  clear hs hm u1 hk hd n1 n2 n3 I
  go_wp2_with fail
  refine (below_cu D0.out.C E2.out).mono ?_
  rintro e w2 ⟨rfl,u2,hk⟩
  have D := mkA (D0.out.cur u2 hk)
  have NA := mkA (And.intro ag.out.1 (Nat.le_trans ag.out.2 hk.1))
  clear u2 hk D0 ag
  generalize w1.heap.size = gx at *
  obtain ⟨e0,e1,e2,e3,e4,e5⟩ := HN
  obtain ⟨x_0,x_1,x_2,x_3,x_4,x_5,x_6⟩ := D.out.X.cells
  obtain ⟨o0,o1,o2,o3,o4,o5,o6⟩ := D.out.O.cells
  have fo := D.out.O.fz
  go_wp2
  have FF := D.out.O.fill (vi c) (vi s) (vi lo) (vi hi) (.slice x.A x.n x.c) (.slice y.A y.n y.c) (.slice z.A z.n z.c)
  refine bodyPost_ret (results_cell_row rfl _ _ w.heap.size 27 #[vi c,vi s,vi lo,vi hi,.slice x.A x.n x.c,.slice y.A y.n y.c,.slice z.A z.n z.c] (0,0) _ rfl FF.1 Try.underlying27 rfl (by kernel_rfl)) rfl ?_
  exact DrOut.mk (D.out.fill FF.2) D.out.n1
theorem l3d_3 (k : Nat) {w0 w : World} {g : Nat} {l : List Int} {p q : Int} (u : Cu w0 w g l p q) {c s lo hi p1 q1 p2 q2 : Int} {h r : List Int} {R : List (List Int)} (E1 : Aside0 (spec_l3Right.f k l p q = some (c,s,lo,hi,h,r,R,p1,q1))) (E2 : Aside0 (spec_l1Below.f l p1 q1 16 = some (3,p2,q2))) (HR : Aside0 (1 ≤ (R.length : Int))) :
    Calls Try.prog 70 #[.pointer (some ⟨g,0,none⟩)] w (DrOut w0 w g l c s lo hi h r (R.take (1 : Int).toNat) p2 q2) := by
  have I := mkA (dr_in 27 #[vi 0,vi 0,vi 0,vi 0,.slice none 0 0,.slice none 0 0,.slice none 0 0] u)
  clear u
  go_enter Try.func70,Try.ntmps70
  go_wp2_with fail
  refine (right_cu k I.out.C E1.out).mono ?_
  rintro e w1 ⟨x,y,z,a,b,rfl,hs,hm,u1,hk⟩
  obtain ⟨hd,n1,n2,n3⟩ := I.out.mk_ #[vi c,vi s,vi lo,vi hi,.slice x.A x.n x.c,.slice y.A y.n y.c,.slice z.A z.n z.c] hs hm u1 hk
  have D0 := mkA hd
  have NB := mkA n1
  have ag := mkA (And.intro n2 n3)
  clear hs hm u1 hk hd n1 n2 n3 I
  go_wp2_with fail
  refine (below_cu D0.out.C E2.out).mono ?_
  rintro e w2 ⟨rfl,u2,hk⟩
  have D := mkA (D0.out.cur u2 hk)
  have NA := mkA (And.intro ag.out.1 (Nat.le_trans ag.out.2 hk.1))
  clear u2 hk D0 ag
  generalize w1.heap.size = gx at *
  have s := D.out.S
  obtain ⟨e6,hle,_⟩ := Kd.S_reads' s.2.2
  have q1 : (1 : Int) ≤ ((z.n : Nat) : Int) := by rw [e6];exact HR.out
  obtain ⟨i0,a8,_,_,_⟩ := info_parts info24
  have hcut := cut_to (P := Try.prog) 25 24 .i64 Try.underlying25 a8 z.A z.n z.c 1 (by omega) q1 hle
  have D3 := mkA (D.out.re (z' := ⟨z.A,1,z.c⟩) (R' := R.take (1 : Int).toNat) ⟨s.1,s.2.1,Kd.S_take (m := 1) s.2.2 (by have := HR.out;omega)⟩)
  clear s e6 hle q1 D
  obtain ⟨x_0,x_1,x_2,x_3,x_4,x_5,x_6⟩ := D3.out.X.cells
  have fx := D3.out.X.fz
  go_upto_region 15 with (fail)
  clear x_0 x_1 x_2 x_3 x_4 x_5 x_6
  clear fx hcut
  have D4 := mkA (D3.out.setX 6 (.slice z.A 1 z.c) rfl)
  clear D3
  generalize w2.setCell _ _ = w4 at *
  obtain ⟨x_0,x_1,x_2,x_3,x_4,x_5,x_6⟩ := D4.out.X.cells
  obtain ⟨o0,o1,o2,o3,o4,o5,o6⟩ := D4.out.O.cells
  have fo := D4.out.O.fz
  go_wp2
  have FF := D4.out.O.fill (vi c) (vi s) (vi lo) (vi hi) (.slice x.A x.n x.c) (.slice y.A y.n y.c) (.slice z.A 1 z.c)
  refine bodyPost_ret (results_cell_row rfl _ _ w.heap.size 27 #[vi c,vi s,vi lo,vi hi,.slice x.A x.n x.c,.slice y.A y.n y.c,.slice z.A 1 z.c] (0,0) _ rfl FF.1 Try.underlying27 rfl (by kernel_rfl)) rfl ?_
  exact DrOut.mk (D4.out.fill FF.2) D4.out.n1
theorem l3d_2 (k : Nat) {w0 w : World} {g : Nat} {l : List Int} {p q : Int} (u : Cu w0 w g l p q) {c s lo hi p1 q1 p2 q2 : Int} {h r : List Int} {R : List (List Int)} (E1 : Aside0 (spec_l3Right.f k l p q = some (c,s,lo,hi,h,r,R,p1,q1))) (E2 : Aside0 (spec_l1Below.f l p1 q1 16 = some (2,p2,q2))) (HH : Aside0 (h.length < 17592186044416)) :
    Calls Try.prog 70 #[.pointer (some ⟨g,0,none⟩)] w (DrOut w0 w g l c s lo hi (h ++ [0]) r R p2 q2) := by
  have I := mkA (dr_in 27 #[vi 0,vi 0,vi 0,vi 0,.slice none 0 0,.slice none 0 0,.slice none 0 0] u)
  clear u
  go_enter Try.func70,Try.ntmps70
  go_wp2_with fail
  refine (right_cu k I.out.C E1.out).mono ?_
  rintro e w1 ⟨x,y,z,a,b,rfl,hs,hm,u1,hk⟩
  obtain ⟨hd,n1,n2,n3⟩ := I.out.mk_ #[vi c,vi s,vi lo,vi hi,.slice x.A x.n x.c,.slice y.A y.n y.c,.slice z.A z.n z.c] hs hm u1 hk
  have D0 := mkA hd
  have NB := mkA n1
  have ag := mkA (And.intro n2 n3)
  clear hs hm u1 hk hd n1 n2 n3 I
  go_wp2_with fail
  refine (below_cu D0.out.C E2.out).mono ?_
  rintro e w2 ⟨rfl,u2,hk⟩
  have D := mkA (D0.out.cur u2 hk)
  have NA := mkA (And.intro ag.out.1 (Nat.le_trans ag.out.2 hk.1))
  clear u2 hk D0 ag
  generalize w1.heap.size = gx at *
  obtain ⟨x_0,x_1,x_2,x_3,x_4,x_5,x_6⟩ := D.out.X.cells
  have ha := D.out.n1
  go_upto_region 15 with (first | ((with_reducible refine gate_builtin (b := .append) (xs := #[.tmp 27,.tmp 28]) rfl ?_);at_builtin;refine Kd.R_append (Kd.int .i64) a rfl (.tmp 27) (.tmp 28) 24 3 (vi 0) 8 rfl Try.underlying24 info3 rfl (by decide) (by omega) (.slice x.A x.n x.c) h 0 [vi 0] (fun k_ => k_ < b ∨ w2.heap.size ≤ k_) (fun _ => False) rfl rfl ?aP (fun _ hk => hk.elim) ?aF ?aO (Below.refl _ _) ?aS ?aL ?_;(case aP => exact rfl);(case aF => exact fun k hk => .inr hk);(case aO => exact Kd.R_mono D.out.S.1 (fun k hk => .inl hk));(case aS => exact NA.out.2);(case aL => have := HH.out;omega);intro v1 w3 ho hb hg hat;obtain ⟨x1,rfl,aA⟩ := D.out.app ho hb hg hat NA.out.2;have D3 := mkA aA;clear ho hb hg hat aA;clear x_0 x_1 x_2 x_3 x_4 x_5 x_6;obtain ⟨x_0,x_1,x_2,x_3,x_4,x_5,x_6⟩ := D3.out.X.cells;have fx := D3.out.X.fz))
  clear x_0 x_1 x_2 x_3 x_4 x_5 x_6
  clear fx
  have D4 := mkA (D3.out.setX 4 (.slice x1.A x1.n x1.c) rfl)
  clear D3 D
  generalize w3.setCell _ _ = w4 at *
  obtain ⟨x_0,x_1,x_2,x_3,x_4,x_5,x_6⟩ := D4.out.X.cells
  obtain ⟨o0,o1,o2,o3,o4,o5,o6⟩ := D4.out.O.cells
  have fo := D4.out.O.fz
  go_wp2
  have FF := D4.out.O.fill (vi c) (vi s) (vi lo) (vi hi) (.slice x1.A x1.n x1.c) (.slice y.A y.n y.c) (.slice z.A z.n z.c)
  refine bodyPost_ret (results_cell_row rfl _ _ w.heap.size 27 #[vi c,vi s,vi lo,vi hi,.slice x1.A x1.n x1.c,.slice y.A y.n y.c,.slice z.A z.n z.c] (0,0) _ rfl FF.1 Try.underlying27 rfl (by kernel_rfl)) rfl ?_
  exact DrOut.mk (D4.out.fill FF.2) D4.out.n1
theorem l3d_1 (k : Nat) {w0 w : World} {g : Nat} {l : List Int} {p q : Int} (u : Cu w0 w g l p q) {c s lo hi p1 q1 p2 q2 : Int} {h r : List Int} {R : List (List Int)} (E1 : Aside0 (spec_l3Right.f k l p q = some (c,s,lo,hi,h,r,R,p1,q1))) (E2 : Aside0 (spec_l1Below.f l p1 q1 16 = some (1,p2,q2))) {i p4 q4 : Int} (E4 : Aside0 (spec_l1Below.f l p2 q2 8 = some (i,p4,q4))) (HI : Aside0 (0 ≤ i ∧ i < (r.length : Int))) {v p3 q3 : Int} (E3 : Aside0 (spec_l1PickInt.f l p4 q4 [(-1),17,18] = some (v,p3,q3))) :
    Calls Try.prog 70 #[.pointer (some ⟨g,0,none⟩)] w (DrOut w0 w g l c s lo hi h (r.set i.toNat v) R p3 q3) := by
  have I := mkA (dr_in 27 #[vi 0,vi 0,vi 0,vi 0,.slice none 0 0,.slice none 0 0,.slice none 0 0] u)
  clear u
  go_enter Try.func70,Try.ntmps70
  go_wp2_with fail
  refine (right_cu k I.out.C E1.out).mono ?_
  rintro e w1 ⟨x,y,z,a,b,rfl,hs,hm,u1,hk⟩
  obtain ⟨hd,n1,n2,n3⟩ := I.out.mk_ #[vi c,vi s,vi lo,vi hi,.slice x.A x.n x.c,.slice y.A y.n y.c,.slice z.A z.n z.c] hs hm u1 hk
  have D0 := mkA hd
  have NB := mkA n1
  have ag := mkA (And.intro n2 n3)
  clear hs hm u1 hk hd n1 n2 n3 I
  go_wp2_with fail
  refine (below_cu D0.out.C E2.out).mono ?_
  rintro e w2 ⟨rfl,u2,hk⟩
  have D := mkA (D0.out.cur u2 hk)
  have NA := mkA (And.intro ag.out.1 (Nat.le_trans ag.out.2 hk.1))
  clear u2 hk D0 ag
  generalize w1.heap.size = gx at *
  obtain ⟨gy,ey,eyn,eyc,_⟩ := (show Sk w2 a b x y z h r R from D.out.S).r_put (by have := HI.out;omega)
  obtain ⟨yA,yn,yc⟩ := y
  simp only at ey eyn eyc
  subst ey eyn
  have LS := mkA (show ∀ W' : World,Bx W' gx 27 #[vi c,vi s,vi lo,vi hi,.slice x.A x.n x.c,.slice (some ⟨gy,0,none⟩) r.length yc,.slice z.A z.n z.c] → (fun w' : World => w'.cell? ⟨gx,0,none⟩ = some (vi c) ∧ w'.cell? ⟨gx,1,none⟩ = some (vi s) ∧ w'.cell? ⟨gx,2,none⟩ = some (vi lo) ∧ w'.cell? ⟨gx,3,none⟩ = some (vi hi) ∧ w'.cell? ⟨gx,4,none⟩ = some (.slice x.A x.n x.c) ∧ w'.cell? ⟨gx,5,none⟩ = some (.slice (some ⟨gy,0,none⟩) r.length yc) ∧ w'.cell? ⟨gx,6,none⟩ = some (.slice z.A z.n z.c)) W' from fun W' ba => ba.cells)
  obtain ⟨x_0,x_1,x_2,x_3,x_4,x_5,x_6⟩ := D.out.X.cells
  have a8 := HI.out.1
  have aC := HI.out.2
  have DA := mkA (D.out.below (below_drew (Below.refl _ w2)))
  have DB := mkA (D.out.below (below_drew (below_alloc (Below.refl _ w2) (.cells #[vi (-1),vi 17,vi 18] 3))))
  have LB := mkA (show Bx (w2.alloc (.cells #[vi (-1),vi 17,vi 18] 3)).drew w2.heap.size 3 #[vi (-1),vi 17,vi 18] from (Bx.new w2 3 #[vi (-1),vi 17,vi 18]).below (below_drew (Below.refl _ _)))
  have g2 := mkA (show g < w2.heap.size from D.out.C.lt)
  go_wp2_with fail
  go_region_held3 (fun w' : World => w'.cell? ⟨gx,0,none⟩ = some (vi c) ∧ w'.cell? ⟨gx,1,none⟩ = some (vi s) ∧ w'.cell? ⟨gx,2,none⟩ = some (vi lo) ∧ w'.cell? ⟨gx,3,none⟩ = some (vi hi) ∧ w'.cell? ⟨gx,4,none⟩ = some (.slice x.A x.n x.c) ∧ w'.cell? ⟨gx,5,none⟩ = some (.slice (some ⟨gy,0,none⟩) r.length yc) ∧ w'.cell? ⟨gx,6,none⟩ = some (.slice z.A z.n z.c)) (first | with_reducible exact LS.out _ DA.out.X | with_reducible exact LS.out _ DB.out.X | with_reducible exact LS.out _ DQ.out.X | with_reducible exact LS.out _ (DQ.out.below (below_alloc (Below.refl _ wq) (.cells #[vi (-1),vi 17,vi 18] 3))).X | with_reducible exact LS.out _ D3.out.X | with_reducible exact LS.out _ D4.out.X) (first | (go_at_call 34;(with_reducible refine (below_cu DA.out.C E4.out).mono ?_);rintro e wq ⟨rfl,uq,hk⟩;have DQ := mkA (DA.out.cur uq hk);have gq := mkA DQ.out.C.lt;clear uq hk) | (go_at_call 34;(with_reducible refine (below_cu DB.out.C E4.out).mono ?_);rintro e wq ⟨rfl,uq,hk⟩;have DQ := mkA (DB.out.cur uq hk);have gq := mkA DQ.out.C.lt;have LQ := mkA (LB.out.kp (DB.out.C.kp uq hk) (.inr g2.out));clear uq hk) | (go_at_call 39;(with_reducible refine (lit_cu (n := 3) [(-1),17,18] (DQ.out.below (below_alloc (Below.refl _ wq) (.cells #[vi (-1),vi 17,vi 18] 3))).C (Bx.new wq 3 #[vi (-1),vi 17,vi 18]) rfl (by decide) (Nat.ne_of_gt gq.out) E3.out).mono ?_);rintro e w3 ⟨rfl,u3,hk⟩;have D3 := mkA ((DQ.out.below (below_alloc (Below.refl _ wq) (.cells #[vi (-1),vi 17,vi 18] 3))).cur u3 hk);clear u3 hk;have PP := mkA (Sk.rN (show Sk w3 a b x ⟨some ⟨gy,0,none⟩,r.length,yc⟩ z h r R from D3.out.S) (by have := HI.out;omega));have hc := PP.out.1.rd i.toNat (by have := HI.out;omega);have hf := PP.out.1.fz;have D4 := mkA (D3.out.rows (PP.out.2 i.toNat v).2 (PP.out.2 i.toNat v).1 (.inr NB.out))) | (go_at_call 39;(with_reducible refine (lit_cu (n := 3) [(-1),17,18] DQ.out.C LQ.out rfl (by decide) (Nat.ne_of_gt g2.out) E3.out).mono ?_);rintro e w3 ⟨rfl,u3,hk⟩;have D3 := mkA (DQ.out.cur u3 hk);clear u3 hk;have PP := mkA (Sk.rN (show Sk w3 a b x ⟨some ⟨gy,0,none⟩,r.length,yc⟩ z h r R from D3.out.S) (by have := HI.out;omega));have hc := PP.out.1.rd i.toNat (by have := HI.out;omega);have hf := PP.out.1.fz;have D4 := mkA (D3.out.rows (PP.out.2 i.toNat v).2 (PP.out.2 i.toNat v).1 (.inr NB.out))))
  all_goals
    clear hc hf PP D3;generalize w3.setCell _ _ = w4 at *;obtain ⟨x_0,x_1,x_2,x_3,x_4,x_5,x_6⟩ := D4.out.X.cells;obtain ⟨o0,o1,o2,o3,o4,o5,o6⟩ := D4.out.O.cells;have fo := D4.out.O.fz
    go_wp2
    have FF := D4.out.O.fill (vi c) (vi s) (vi lo) (vi hi) (.slice x.A x.n x.c) (.slice (some ⟨gy,0,none⟩) r.length yc) (.slice z.A z.n z.c);refine bodyPost_ret (results_cell_row rfl _ _ w.heap.size 27 #[vi c,vi s,vi lo,vi hi,.slice x.A x.n x.c,.slice (some ⟨gy,0,none⟩) r.length yc,.slice z.A z.n z.c] (0,0) _ rfl FF.1 Try.underlying27 rfl (by kernel_rfl)) rfl ?_;exact DrOut.mk (D4.out.fill FF.2) D4.out.n1
theorem l3d_5 (k : Nat) {w0 w : World} {g : Nat} {l : List Int} {p q : Int} (u : Cu w0 w g l p q) {c s lo hi p1 q1 p2 q2 : Int} {h r : List Int} {R : List (List Int)} (E1 : Aside0 (spec_l3Right.f k l p q = some (c,s,lo,hi,h,r,R,p1,q1))) (E2 : Aside0 (spec_l1Below.f l p1 q1 16 = some (5,p2,q2))) {L1 : List Int} (HR : Aside0 (1 < R.length ∧ R.getD 1 [] = L1 ∧ 2 < L1.length)) {v p3 q3 : Int} (E3 : Aside0 (spec_l1PickInt.f l p2 q2 [(-1),3,1000000001] = some (v,p3,q3))) :
    Calls Try.prog 70 #[.pointer (some ⟨g,0,none⟩)] w (DrOut w0 w g l c s lo hi h r (R.set 1 (L1.set 2 v)) p3 q3) := by
  have I := mkA (dr_in 27 #[vi 0,vi 0,vi 0,vi 0,.slice none 0 0,.slice none 0 0,.slice none 0 0] u)
  clear u
  go_enter Try.func70,Try.ntmps70
  go_wp2_with fail
  refine (right_cu k I.out.C E1.out).mono ?_
  rintro e w1 ⟨x,y,z,a,b,rfl,hs,hm,u1,hk⟩
  obtain ⟨hd,n1,n2,n3⟩ := I.out.mk_ #[vi c,vi s,vi lo,vi hi,.slice x.A x.n x.c,.slice y.A y.n y.c,.slice z.A z.n z.c] hs hm u1 hk
  have D0 := mkA hd
  have NB := mkA n1
  have ag := mkA (And.intro n2 n3)
  clear hs hm u1 hk hd n1 n2 n3 I
  go_wp2_with fail
  refine (below_cu D0.out.C E2.out).mono ?_
  rintro e w2 ⟨rfl,u2,hk⟩
  have D := mkA (D0.out.cur u2 hk)
  have NA := mkA (And.intro ag.out.1 (Nat.le_trans ag.out.2 hk.1))
  clear u2 hk D0 ag
  generalize w1.heap.size = gx at *
  have hj := HR.out.1
  have eR : R[1] = L1 := by rw [← HR.out.2.1,List.getD_eq_getElem?_getD,List.getElem?_eq_getElem hj];rfl
  have hl := HR.out.2.2
  obtain ⟨gz,pr,cr,ez,ezn,ezc,hrc,hrle,_⟩ := (show Sk w2 a b x y z h r R from D.out.S).row_put 1 hj (by rw [eR];omega)
  obtain ⟨zA,zn,zc⟩ := z
  simp only at ez ezn ezc
  subst ez ezn
  rw [eR] at hrc hrle
  obtain ⟨nr,hnr⟩ : ∃ nr,nr = L1.length := ⟨_,rfl⟩
  rw [← hnr] at hrc hrle
  have LS := mkA (show ∀ W' : World,Bx W' gx 27 #[vi c,vi s,vi lo,vi hi,.slice x.A x.n x.c,.slice y.A y.n y.c,.slice (some ⟨gz,0,none⟩) R.length zc] → W'.cell? ⟨gz,1,none⟩ = some (.slice (some ⟨pr,0,none⟩) nr cr) → (fun w' : World => w'.cell? ⟨gx,0,none⟩ = some (vi c) ∧ w'.cell? ⟨gx,1,none⟩ = some (vi s) ∧ w'.cell? ⟨gx,2,none⟩ = some (vi lo) ∧ w'.cell? ⟨gx,3,none⟩ = some (vi hi) ∧ w'.cell? ⟨gx,4,none⟩ = some (.slice x.A x.n x.c) ∧ w'.cell? ⟨gx,5,none⟩ = some (.slice y.A y.n y.c) ∧ w'.cell? ⟨gx,6,none⟩ = some (.slice (some ⟨gz,0,none⟩) R.length zc) ∧ w'.cell? ⟨gz,1,none⟩ = some (.slice (some ⟨pr,0,none⟩) nr cr)) W' from fun W' ba hr => by obtain ⟨x_0,x_1,x_2,x_3,x_4,x_5,x_6⟩ := ba.cells;exact ⟨x_0,x_1,x_2,x_3,x_4,x_5,x_6,hr⟩)
  obtain ⟨x_0,x_1,x_2,x_3,x_4,x_5,x_6⟩ := D.out.X.cells
  have aC : (1 : Int) < (R.length : Int) := by omega
  have hi2 : (2 : Int) < (nr : Int) := by omega
  have NR := mkA hnr
  have HL := mkA hl
  have ER := mkA eR
  clear hnr hl eR hrle
  have DA := mkA (D.out.below (below_drew (Below.refl _ w2)))
  have DB := mkA (D.out.below (below_drew (below_alloc (Below.refl _ w2) (.cells #[vi (-1),vi 3,vi 1000000001] 3))))
  have LB := mkA (show Bx (w2.alloc (.cells #[vi (-1),vi 3,vi 1000000001] 3)).drew w2.heap.size 3 #[vi (-1),vi 3,vi 1000000001] from (Bx.new w2 3 #[vi (-1),vi 3,vi 1000000001]).below (below_drew (Below.refl _ _)))
  have g2 := mkA (show g < w2.heap.size from D.out.C.lt)
  have RA := mkA (pw_cell_below (below_drew (Below.refl _ w2)) hrc)
  have RB := mkA (pw_cell_below (below_drew (below_alloc (Below.refl _ w2) (.cells #[vi (-1),vi 3,vi 1000000001] 3))) hrc)
  have ngz : gz ≠ g := by
    obtain ⟨gz_,_,hv,hlo,_⟩ := Kd.S_form D.out.S.2.2 (by omega);injection hv with hv;injection hv with hv;injection hv with hv;have := D.out.n3;have := D.out.n1
    omega
  have NG := mkA ngz
  clear ngz
  go_wp2_with fail
  go_region_held3 (fun w' : World => w'.cell? ⟨gx,0,none⟩ = some (vi c) ∧ w'.cell? ⟨gx,1,none⟩ = some (vi s) ∧ w'.cell? ⟨gx,2,none⟩ = some (vi lo) ∧ w'.cell? ⟨gx,3,none⟩ = some (vi hi) ∧ w'.cell? ⟨gx,4,none⟩ = some (.slice x.A x.n x.c) ∧ w'.cell? ⟨gx,5,none⟩ = some (.slice y.A y.n y.c) ∧ w'.cell? ⟨gx,6,none⟩ = some (.slice (some ⟨gz,0,none⟩) R.length zc) ∧ w'.cell? ⟨gz,1,none⟩ = some (.slice (some ⟨pr,0,none⟩) nr cr)) (first | with_reducible exact LS.out _ DA.out.X RA.out | with_reducible exact LS.out _ DB.out.X RB.out | with_reducible exact LS.out _ D3.out.X R3.out | with_reducible exact LS.out _ D4.out.X R4.out) (first | (go_at_call 39;(with_reducible refine (lit_cu (n := 3) [(-1),3,1000000001] DB.out.C LB.out rfl (by decide) (Nat.ne_of_gt g2.out) E3.out).mono ?_);rintro e w3 ⟨rfl,u3,hk⟩;have D3 := mkA (DB.out.cur u3 hk);have R3 := mkA (keep_cell hk RB.out NG.out);clear u3 hk;obtain ⟨pr_,cr_,hrc_,PP_,put_⟩ := Sk.rowN (show Sk w3 a b x y ⟨some ⟨gz,0,none⟩,R.length,zc⟩ h r R from D3.out.S) 1 (by omega) (by rw [ER.out];have := HL.out;omega);rw [ER.out] at PP_;have ao := put_ 2 v;rw [ER.out] at ao;clear put_;have e_ := hrc_.symm.trans R3.out;injection e_ with e_;injection e_ with e_;injection e_ with e_;injection e_ with e_;subst e_;have hc := PP_.rd 2 HL.out;have hf := PP_.fz;have nz : gz ≠ pr_ := (fun e => by subst e;have q := PP_.rd 1 (by have := HL.out;omega);rw [R3.out] at q;injection q with q;cases q);have D4 := mkA (D3.out.rows ao.2 ao.1 (.inr NB.out));have R4 := mkA ((cell_far (p := ⟨pr_,2,none⟩) nz (vi v)).trans R3.out);clear hrc_ PP_ ao))
  all_goals
    clear hc hf D3;generalize w3.setCell _ _ = w4 at *;obtain ⟨x_0,x_1,x_2,x_3,x_4,x_5,x_6⟩ := D4.out.X.cells;obtain ⟨o0,o1,o2,o3,o4,o5,o6⟩ := D4.out.O.cells;have fo := D4.out.O.fz
    go_wp2
    have FF := D4.out.O.fill (vi c) (vi s) (vi lo) (vi hi) (.slice x.A x.n x.c) (.slice y.A y.n y.c) (.slice (some ⟨gz,0,none⟩) R.length zc);refine bodyPost_ret (results_cell_row rfl _ _ w.heap.size 27 #[vi c,vi s,vi lo,vi hi,.slice x.A x.n x.c,.slice y.A y.n y.c,.slice (some ⟨gz,0,none⟩) R.length zc] (0,0) _ rfl FF.1 Try.underlying27 rfl (by kernel_rfl)) rfl ?_;exact DrOut.mk (D4.out.fill FF.2) D4.out.n1

def spec_l3Draw.f (k : Nat) (af : List Int) (ah : Int) (ai : Int) : Option (Int × Int × Int × Int × List Int × List Int × (List (List Int)) × Int × Int) := (spec_l3Right.f k af ah ai).bind fun aa => ((spec_l1Below.f af aa.2.2.2.2.2.2.2.1 aa.2.2.2.2.2.2.2.2 16).bind fun ae => (if ae.1 = 0 then ((spec_l1PickInt.f af ae.2.1 ae.2.2 (([(-1),1000001,500] : List Int))).bind fun au => (some (aa.1,aa.2.1,au.1,aa.2.2.2.1,aa.2.2.2.2.1,aa.2.2.2.2.2.1,aa.2.2.2.2.2.2.1,au.2.1,au.2.2))) else (if ae.1 = 1 then ((spec_l1Below.f af ae.2.1 ae.2.2 8).bind fun ak => ((spec_l1PickInt.f af ak.2.1 ak.2.2 (([(-1),17,18] : List Int))).bind fun av => (if 0 ≤ ak.1 then (if ak.1 < (aa.2.2.2.2.2.1.length : Int) then (some (aa.1,aa.2.1,aa.2.2.1,aa.2.2.2.1,aa.2.2.2.2.1,(aa.2.2.2.2.2.1.set (ak.1 : Int).toNat av.1),aa.2.2.2.2.2.2.1,av.2.1,av.2.2)) else (none)) else (none)))) else (if ae.1 = 2 then (if aa.2.2.2.2.1.length < 17592186044416 then (some (aa.1,aa.2.1,aa.2.2.1,aa.2.2.2.1,(aa.2.2.2.2.1 ++ [0]),aa.2.2.2.2.2.1,aa.2.2.2.2.2.2.1,ae.2.1,ae.2.2)) else (none)) else (if ae.1 = 3 then (if 1 ≤ (aa.2.2.2.2.2.2.1.length : Int) then (some (aa.1,aa.2.1,aa.2.2.1,aa.2.2.2.1,aa.2.2.2.2.1,aa.2.2.2.2.2.1,(aa.2.2.2.2.2.2.1.take (1 : Int).toNat),ae.2.1,ae.2.2)) else (none)) else (if ae.1 = 4 then ((spec_l1PickInt.f af ae.2.1 ae.2.2 (([0,(-1),1000000001] : List Int))).bind fun aw => (some (aw.1,aa.2.1,aa.2.2.1,aa.2.2.2.1,aa.2.2.2.2.1,aa.2.2.2.2.2.1,aa.2.2.2.2.2.2.1,aw.2.1,aw.2.2))) else (if ae.1 = 5 then (if 1 < (aa.2.2.2.2.2.2.1.length : Int) then ((spec_l1PickInt.f af ae.2.1 ae.2.2 (([(-1),3,1000000001] : List Int))).bind fun ax => (if 2 < ((aa.2.2.2.2.2.2.1.getD (1 : Int).toNat []).length : Int) then (some (aa.1,aa.2.1,aa.2.2.1,aa.2.2.2.1,aa.2.2.2.2.1,aa.2.2.2.2.2.1,(aa.2.2.2.2.2.2.1.set (1 : Int).toNat ((aa.2.2.2.2.2.2.1.getD (1 : Int).toNat []).set (2 : Int).toNat ax.1)),ax.2.1,ax.2.2)) else (none))) else (none)) else (some (aa.1,aa.2.1,aa.2.2.1,aa.2.2.2.1,aa.2.2.2.2.1,aa.2.2.2.2.2.1,aa.2.2.2.2.2.2.1,ae.2.1,ae.2.2)))))))))
theorem spec_l3Draw.calls (k : Nat) (g : Nat) (af : List Int) (ah : Int) (ai : Int) (r1 : Int) (r2 : Int) (r3 : Int) (r4 : Int) (r5 : List Int) (r6 : List Int) (r7 : List (List Int)) (r8 : Int) (r9 : Int) (w0 w : World) (hI : IsS95 w0 w g af ah ai) (hB : Below w0.heap.size w0 w) (h : spec_l3Draw.f k af ah ai = some (r1,r2,r3,r4,r5,r6,r7,r8,r9)) :
    Calls Try.prog 70 #[.pointer (some ⟨g,0,none⟩)] w fun e w' => ∃ al an ay : Value,e = .returned (.agg #[vi r1,vi r2,vi r3,vi r4,al,an,ay]) ∧ Kd.R (Kd.int .i64) 3 w' w.heap.size (fun k_ => some k_ ≠ (an : Value).ownBlock) al r5 ∧ Kd.R (Kd.int .i64) 3 w' w.heap.size (fun k_ => some k_ ≠ (al : Value).ownBlock) an r6 ∧ Kd.S (Kd.slice 3 (Kd.int .i64)) 24 w' w.heap.size (fun k_ => some k_ ≠ (al : Value).ownBlock ∧ some k_ ≠ (an : Value).ownBlock) ay r7 ∧ IsS95 w0 w' g af r8 r9 ∧ Below w0.heap.size w0 w' ∧ KeepBut w w' g none := by
  have u : Cu w0 w g af ah ai := ⟨hI,hB⟩
  unfold spec_l3Draw.f at h
  replace h := Option.bind_eq_some_iff.mp h
  obtain ⟨⟨c,s,lo,hi,h0,r,R,p1,q1⟩,E1,h⟩ := h
  replace h := Option.bind_eq_some_iff.mp h
  obtain ⟨⟨n,p2,q2⟩,E2,h⟩ := h
  dsimp only at E1 E2 h
  by_cases e0 : n = 0
  · subst e0
    rw [if_pos rfl] at h;replace h := Option.bind_eq_some_iff.mp h;obtain ⟨⟨v,p3,q3⟩,E3,h⟩ := h;simp only [Option.some.injEq,Prod.mk.injEq] at h;obtain ⟨rfl,rfl,rfl,rfl,rfl,rfl,rfl,rfl,rfl⟩ := h;exact l3d_0 k u ⟨E1⟩ ⟨E2⟩ ⟨E3⟩
  rw [if_neg e0] at h
  by_cases e1 : n = 1
  · subst e1
    rw [if_pos rfl] at h;replace h := Option.bind_eq_some_iff.mp h;obtain ⟨⟨i,p4,q4⟩,E4,h⟩ := h;replace h := Option.bind_eq_some_iff.mp h;obtain ⟨⟨v,p3,q3⟩,E3,h⟩ := h
    dsimp only at E4 E3 h
    have i0 : 0 ≤ i := Classical.byContradiction fun q => by rw [if_neg q] at h;cases h
    rw [if_pos i0] at h
    have i1 : i < (r.length : Int) := Classical.byContradiction fun q => by rw [if_neg q] at h;cases h
    rw [if_pos i1] at h;simp only [Option.some.injEq,Prod.mk.injEq] at h;obtain ⟨rfl,rfl,rfl,rfl,rfl,rfl,rfl,rfl,rfl⟩ := h;exact l3d_1 k u ⟨E1⟩ ⟨E2⟩ ⟨E4⟩ ⟨⟨i0,i1⟩⟩ ⟨E3⟩
  rw [if_neg e1] at h
  by_cases e2 : n = 2
  · subst e2
    rw [if_pos rfl] at h
    have i0 : h0.length < 17592186044416 := Classical.byContradiction fun q => by rw [if_neg q] at h;cases h
    rw [if_pos i0] at h;simp only [Option.some.injEq,Prod.mk.injEq] at h;obtain ⟨rfl,rfl,rfl,rfl,rfl,rfl,rfl,rfl,rfl⟩ := h;exact l3d_2 k u ⟨E1⟩ ⟨E2⟩ ⟨i0⟩
  rw [if_neg e2] at h
  by_cases e3 : n = 3
  · subst e3
    rw [if_pos rfl] at h
    have i0 : 1 ≤ (R.length : Int) := Classical.byContradiction fun q => by rw [if_neg q] at h;cases h
    rw [if_pos i0] at h;simp only [Option.some.injEq,Prod.mk.injEq] at h;obtain ⟨rfl,rfl,rfl,rfl,rfl,rfl,rfl,rfl,rfl⟩ := h;exact l3d_3 k u ⟨E1⟩ ⟨E2⟩ ⟨i0⟩
  rw [if_neg e3] at h
  by_cases e4 : n = 4
  · subst e4
    rw [if_pos rfl] at h;replace h := Option.bind_eq_some_iff.mp h;obtain ⟨⟨v,p3,q3⟩,E3,h⟩ := h;simp only [Option.some.injEq,Prod.mk.injEq] at h;obtain ⟨rfl,rfl,rfl,rfl,rfl,rfl,rfl,rfl,rfl⟩ := h;exact l3d_4 k u ⟨E1⟩ ⟨E2⟩ ⟨E3⟩
  rw [if_neg e4] at h
  by_cases e5 : n = 5
  · subst e5
    rw [if_pos rfl] at h
    have i0 : 1 < (R.length : Int) := Classical.byContradiction fun q => by rw [if_neg q] at h;cases h
    rw [if_pos i0] at h;replace h := Option.bind_eq_some_iff.mp h;obtain ⟨⟨v,p3,q3⟩,E3,h⟩ := h
    dsimp only at E3 h
    have i1 : 2 < ((R.getD (1 : Int).toNat []).length : Int) := Classical.byContradiction fun q => by rw [if_neg q] at h;cases h
    rw [if_pos i1] at h;simp only [Option.some.injEq,Prod.mk.injEq] at h;obtain ⟨rfl,rfl,rfl,rfl,rfl,rfl,rfl,rfl,rfl⟩ := h;exact l3d_5 k u ⟨E1⟩ ⟨E2⟩ ⟨⟨by omega,rfl,Int.ofNat_lt.mp i1⟩⟩ ⟨E3⟩
  rw [if_neg e5] at h
  simp only [Option.some.injEq,Prod.mk.injEq] at h
  obtain ⟨rfl,rfl,rfl,rfl,rfl,rfl,rfl,rfl,rfl⟩ := h
  exact l3d_e k u ⟨E1⟩ ⟨E2⟩ ⟨e0,e1,e2,e3,e4,e5⟩

end Go.Proofs.Ytdciagkholijlaa.PFnEntries
