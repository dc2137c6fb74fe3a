/- Entries of one place are added up in any order; what is in both is refused; the law is walked by hand. -/
import Derived.Test.YtdciagkholijlaaPFnEntriesx10
import Derived.Test.YtdciagkholijlaaPFnEntriesx12
import Derived.Test.YtdciagkholijlaaPFnEntriesx14
import Derived.Test.YtdciagkholijlaaPFnEntriesx15
import Derived.Test.YtdciagkholijlaaPFnEntriesx16
import Derived.Test.YtdciagkholijlaaPFnEntriesx17
import Derived.Test.YtdciagkholijlaaPFnEntriesx18
import Derived.Test.YtdciagkholijlaaPFnEntriesx2
import Derived.Test.YtdciagkholijlaaPFnEntriesx4
import Derived.Test.YtdciagkholijlaaPFnEntriesx6
import Derived.Test.YtdciagkholijlaaPFnEntriesx9
import Derived.Test.YtdciagkholijlaaAid
import Derived.WalkKit
import Derived.Deep.RegionHeld3
import Derived.Deep.DeepCutAuto
import Derived.Shelf.Spec.TrailingZeros
import Derived.Test.YtdciagkholijlaaHandAFnEntries
namespace Go.Proofs.Ytdciagkholijlaa.HFnEntries
open Go.RowKit Go.Proofs.Ytdciagkholijlaa.PFnEntries Go.Proofs.YtdciagkholijlaaW.PrintWords Go.Proofs.YtdciagkholijlaaW.PrintLast Go.Proofs.YtdciagkholijlaaW.PrintMore Go.Proofs.Ytdciagkholijlaa.Aid
set_option linter.unusedVariables false
set_option linter.unusedSimpArgs false
set_option maxHeartbeats 4000000
set_option maxRecDepth 100000

theorem rdR_get {xs:List (List Int)} {n:Nat} (h:n < xs.length):rd_L3 xs (n:Int) = xs[n]:=by
 unfold rd_L3
 rw [Int.toNat_natCast,List.getD_eq_getElem?_getD,List.getElem?_eq_getElem h]
 rfl
theorem rdI_get {xs:List S70} {n:Nat} (h:n < xs.length):rd_T70 xs (n:Int) = xs[n]:=by
 unfold rd_T70
 rw [Int.toNat_natCast,List.getD_eq_getElem?_getD,List.getElem?_eq_getElem h]
 rfl
theorem and255 (x:Int):0 ≤ Go.bits .and .i64 x 255 ∧ Go.bits .and .i64 x 255 ≤ 255:=by
 have h:(BitVec.ofInt 64 x).toNat &&& 255 ≤ 255:=Nat.and_le_right
 have e:Go.bits .and .i64 x 255 = (((BitVec.ofInt 64 x).toNat &&& 255:Nat):Int) :=
  wraps_i64 _ (Int.natCast_nonneg _) (Int.lt_of_le_of_lt (Int.ofNat_le.mpr h) (by decide))
 rw [e]
 omega
theorem l1Byte_is (l:List Int) (hl:l.length ≤ 281474976702464) (p:Nat) (hp:p ≤ l.length) (r:Int):∃ (v q:Nat) (s:Int),spec_l1Byte.f l p r = some ((v:Int),(q:Int),s) ∧ v ≤ 255 ∧ q ≤ l.length:=by
 unfold spec_l1Byte.f
 by_cases h:(p:Int) < (l.length:Int)
 ·rw [if_pos h,if_pos (by omega)]
  obtain ⟨h0,h1⟩:=and255 (wrap64 ((Go.bits .and .i64 (Go.bits .xor .i64 ((wrap64 ((wrap64 (r * 6364136223846793005)) + 1442695040888963407)) / 8589934592) ((wrap64 ((wrap64 (r * 6364136223846793005)) + 1442695040888963407)) / 35184372088832)) 255) + (wrap64 (rd l p))));obtain ⟨v,hv⟩:=Int.eq_ofNat_of_zero_le h0;rw [hv] at h1 ⊢;exact ⟨v,p + 1,_,by rw [wsucc (by omega)],by omega,by omega⟩
 ·rw [if_neg h]
  obtain ⟨h0,h1⟩:=and255 (Go.bits .xor .i64 ((wrap64 ((wrap64 (r * 6364136223846793005)) + 1442695040888963407)) / 8589934592) ((wrap64 ((wrap64 (r * 6364136223846793005)) + 1442695040888963407)) / 35184372088832));obtain ⟨v,hv⟩:=Int.eq_ofNat_of_zero_le h0;rw [hv] at h1 ⊢;exact ⟨v,p,_,rfl,by omega,hp⟩
theorem l1Below_is (l:List Int) (hl:l.length ≤ 281474976702464) (p:Nat) (hp:p ≤ l.length) (r:Int) (n:Nat) (h0:0 < n) (h1:n ≤ 256) :
  ∃ (v q:Nat) (s:Int),spec_l1Below.f l p r (n:Int) = some ((v:Int),(q:Int),s) ∧ v < n ∧ q ≤ l.length:=by
 obtain ⟨v,q,s,e,hv,hq⟩:=l1Byte_is l hl p hp r
 refine ⟨v % n,q,s,?_,Nat.mod_lt _ h0,hq⟩
 unfold spec_l1Below.f
 rw [if_neg (by omega),if_pos (by omega),e]
 simp only [Option.bind_some]
 rw [if_neg (by omega),Int.tmod_eq_emod_of_nonneg (by omega)]
 rfl
theorem l1New_at (l:List Int) (d:Nat):∀ (i:Nat) (x:Int),i + d = l.length → ∃ s,Ev (fun k => spec_l1New.l0 k l x (i:Int)) (l,0,s):=by
 induction d with
 | zero =>
  intro i x hi;refine ⟨x,Ev.step (fun _ => rfl) ?_⟩;simp only [spec_l1New.l0];exact ev_neg (by omega) (ev_some rfl)
 | succ d ih =>
  intro i x hi
  by_cases h4:i < 4000
  ·obtain ⟨s,hs⟩:=ih (i + 1) (Go.bits .and .i64 (wrap64 ((wrap64 ((wrap64 (x * 131)) + (wrap64 (rd l i)))) + 7)) 1073741823) (by omega)
   refine ⟨s,Ev.step (fun _ => rfl) ?_⟩;simp only [spec_l1New.l0];refine ev_pos (by omega) (ev_pos (by omega) (ev_pos (by omega) ?_));rw [wsucc (by omega)];exact hs
  ·refine ⟨x,Ev.step (fun _ => rfl) ?_⟩
   simp only [spec_l1New.l0];exact ev_pos (by omega) (ev_neg (by omega) (ev_some rfl))
theorem l1New_ev (l:List Int):∃ s,Ev (fun k => spec_l1New.f k l) (l,0,s):=l1New_at l l.length 0 _ (by omega)
theorem within_is (a b c:Int):impl_within.f a b c = some (decide (b ≤ a ∧ a ≤ c)):=in_is a b c
theorem l1In_is (a b c:Int):spec_l1In.f a b c = some (decide (b ≤ a ∧ a ≤ c)):=in_is a b c
def LiOk (xs:List Int) (n:Nat) (most:Int) (zero:Prop):Prop:=xs.length = n ∧ ∀ x ∈ xs,(0 ≤ x ∧ x ≤ most) ∧ (zero → x = 0)
def SkOk (c s mn mx:Int) (h r:List Int) (R:List (List Int)):Prop :=
 (0 ≤ c ∧ c ≤ 1000000000) ∧ (0 ≤ s ∧ s ≤ 1000000000) ∧ (0 ≤ mn ∧ mn ≤ 1000000) ∧ (0 ≤ mx ∧ mx ≤ 1000000) ∧ mn ≤ mx ∧ R.length = 2 ∧ (c = 0 → s = 0 ∧ mx = 0) ∧
 LiOk h 8 1000000000 (c = 0) ∧ LiOk r 8 17 (c = 0) ∧ LiOk (rd_L3 R 0) 4 1000000000 (c = 0) ∧ LiOk (rd_L3 R 1) 4 1000000000 (c = 0)
noncomputable def skOk (c s mn mx:Int) (h r:List Int) (R:List (List Int)):Bool:=@decide (SkOk c s mn mx h r R) (Classical.propDecidable _)
theorem skOk_true {c s mn mx:Int} {h r:List Int} {R:List (List Int)}:skOk c s mn mx h r R = true ↔ SkOk c s mn mx h r R:=by
 unfold skOk
 exact @decide_eq_true_iff _ (Classical.propDecidable _)
theorem skOk_false {c s mn mx:Int} {h r:List Int} {R:List (List Int)} (hn:¬ SkOk c s mn mx h r R):skOk c s mn mx h r R = false:=by
 cases e:skOk c s mn mx h r R with
 | false => rfl
 | true => exact absurd (skOk_true.1 e) hn
theorem l3List_at (xs:List Int) (n:Nat) (most:Int) (z:Bool) (hn:n ≤ 8) (hl:xs.length = n) (r:Bool) (d:Nat):∀ i:Nat,i + d = n →
  ((∀ x ∈ xs.drop i,(0 ≤ x ∧ x ≤ most) ∧ (z = true → x = 0)) → r = true) → (¬ (∀ x ∈ xs.drop i,(0 ≤ x ∧ x ≤ most) ∧ (z = true → x = 0)) → r = false) →
  Ev (fun k => spec_l3List.l0 k xs (n:Int) most z (i:Int)) r:=by
 induction d with
 | zero =>
  intro i hi h1 _;refine Ev.step (fun _ => rfl) ?_;simp only [spec_l3List.l0];refine ev_neg (by omega) (ev_some ?_);rw [h1];intro x hx;rw [List.drop_of_length_le (by omega)] at hx
  cases hx
 | succ d ih =>
  intro i hi h1 h2
  have hg:i < xs.length:=by omega
  rw [List.drop_eq_getElem_cons hg] at h1 h2;refine Ev.step (fun _ => rfl) ?_;simp only [spec_l3List.l0];rw [wsucc (by omega),rd_get hg];refine ev_pos (by omega) (ev_pos (by omega) (ev_pos (by omega) (ev_bind0 (l1In_is _ _ _) ?_)))
  by_cases c:0 ≤ xs[i] ∧ xs[i] ≤ most
  ·refine ev_pos (decide_eq_true c) ?_
   have hrec:(z = true → xs[i] = 0) → Ev (fun k => spec_l3List.l0 k xs (n:Int) most z ((i + 1:Nat):Int)) r:=by
    intro hz;refine ih (i + 1) (by omega) (fun h => h1 fun x hx => ?_) (fun h => h2 fun g => h fun x hx => g x (List.mem_cons_of_mem _ hx))
    rcases List.mem_cons.1 hx with rfl | hx
    ·exact ⟨c,hz⟩
    ·exact h x hx
   by_cases hz:z = true
   ·refine ev_pos hz ?_
    by_cases h0:xs[i] = 0
    ·exact ev_pos h0 (hrec fun _ => h0)
    ·refine ev_neg h0 (ev_some ?_)
     exact (h2 fun g => h0 ((g _ List.mem_cons_self).2 hz)).symm
   ·exact ev_neg hz (hrec fun h => absurd h hz)
  ·refine ev_neg (by rw [decide_eq_false c];exact Bool.false_ne_true) (ev_some ?_)
   exact (h2 fun g => c (g _ List.mem_cons_self).1).symm
theorem l3List_ev (xs:List Int) (n:Nat) (most:Int) (z:Bool) (hn:n ≤ 8) (r:Bool) (h1:LiOk xs n most (z = true) → r = true) (h2:¬ LiOk xs n most (z = true) → r = false):Ev (fun k => spec_l3List.f k xs (n:Int) most z) r:=by
 unfold spec_l3List.f
 by_cases hl:xs.length = n
 ·exact ev_pos (by omega) (l3List_at xs n most z hn hl r n 0 (by omega) (fun h => h1 ⟨hl,h⟩) (fun h => h2 fun g => h g.2))
 ·exact ev_neg (by omega) (ev_some (h2 fun g => hl g.1).symm)
theorem l3List_dec (xs:List Int) (n:Nat) (most:Int) (z:Bool) (hn:n ≤ 8) (Z:Prop) (hz:(z = true) = Z):Ev (fun k => spec_l3List.f k xs (n:Int) most z) (@decide (LiOk xs n most Z) (Classical.propDecidable _)):=by
 subst hz
 exact l3List_ev xs n most z hn _ (fun h => @decide_eq_true _ (Classical.propDecidable _) h) (fun h => @decide_eq_false _ (Classical.propDecidable _) h)
theorem spec_sketchOk_j1 (c s mn mx:Int) (h r:List Int) (R:List (List Int)) (hR:R.length = 2) (f:Bool) (v:Bool)
  (hv:f = false → LiOk h 8 1000000000 (c = 0) → LiOk r 8 17 (c = 0) → LiOk (rd_L3 R 0) 4 1000000000 (c = 0) → LiOk (rd_L3 R 1) 4 1000000000 (c = 0) → v = true)
  (hn:¬ (f = false ∧ LiOk h 8 1000000000 (c = 0) ∧ LiOk r 8 17 (c = 0) ∧ LiOk (rd_L3 R 0) 4 1000000000 (c = 0) ∧ LiOk (rd_L3 R 1) 4 1000000000 (c = 0)) → v = false) :
  Ev (fun k => spec_SketchOk.j1 k (c == 0) f c s mn mx h r R) v:=by
 have ez:((c == 0) = true) = (c = 0):=by simp
 refine Ev.step (fun _ => rfl) ?_
 simp only [spec_SketchOk.j1]
 refine ev_if (fun hf => ev_some (hn fun g => by rw [hf] at g;exact absurd g.1 (by simp)).symm) (fun hf => ?_)
 have hf':f = false:=by simpa using hf
 have L:=fun xs n most hn => l3List_dec xs n most (c == 0) hn (c = 0) ez
 refine Ev.bind (L h 8 1000000000 (by omega)) ?_
 refine ev_if (fun g1 => ?_) (fun g1 => ev_some (hn fun g => g1 (@decide_eq_true _ (Classical.propDecidable _) g.2.1)).symm)
 refine Ev.bind (L r 8 17 (by omega)) ?_
 refine ev_if (fun g2 => ?_) (fun g2 => ev_some (hn fun g => g2 (@decide_eq_true _ (Classical.propDecidable _) g.2.2.1)).symm)
 refine ev_pos (by omega) (Ev.bind (L (rd_L3 R 0) 4 1000000000 (by omega)) ?_)
 refine ev_if (fun g3 => ?_) (fun g3 => ev_some (hn fun g => g3 (@decide_eq_true _ (Classical.propDecidable _) g.2.2.2.1)).symm)
 refine ev_pos (by omega) (Ev.bind (L (rd_L3 R 1) 4 1000000000 (by omega)) (ev_some ?_))
 have t1:=@of_decide_eq_true _ (Classical.propDecidable _) g1
 have t2:=@of_decide_eq_true _ (Classical.propDecidable _) g2
 have t3:=@of_decide_eq_true _ (Classical.propDecidable _) g3
 by_cases t4:LiOk (rd_L3 R 1) 4 1000000000 (c = 0)
 ·rw [hv hf' t1 t2 t3 t4]
  exact @decide_eq_true _ (Classical.propDecidable _) t4
 ·rw [hn fun g => t4 g.2.2.2.2]
  exact @decide_eq_false _ (Classical.propDecidable _) t4
theorem spec_sketchOk_ev (c s mn mx:Int) (h r:List Int) (R:List (List Int)):Ev (fun k => spec_SketchOk.f k c s mn mx h r R) (skOk c s mn mx h r R):=by
 have bad:¬ SkOk c s mn mx h r R → Ev (fun k => spec_SketchOk.j0 k true c s mn mx h r R) (skOk c s mn mx h r R):=by
  intro hb;refine Ev.step (fun _ => rfl) ?_;simp only [spec_SketchOk.j0];exact ev_pos (by trivial) (ev_some (skOk_false hb).symm)
 unfold spec_SketchOk.f
 refine ev_bind0 (l1In_is _ _ _) ?_
 by_cases a1:0 ≤ c ∧ c ≤ 1000000000
 case neg => exact ev_neg (by rw [decide_eq_false a1];exact Bool.false_ne_true) (bad fun g => a1 g.1)
 refine ev_pos (decide_eq_true a1) (ev_bind0 (l1In_is _ _ _) ?_)
 by_cases a2:0 ≤ s ∧ s ≤ 1000000000
 case neg => exact ev_neg (by rw [decide_eq_false a2];exact Bool.false_ne_true) (bad fun g => a2 g.2.1)
 refine ev_pos (decide_eq_true a2) (ev_bind0 (l1In_is _ _ _) ?_)
 by_cases a3:0 ≤ mn ∧ mn ≤ 1000000
 case neg => exact ev_neg (by rw [decide_eq_false a3];exact Bool.false_ne_true) (bad fun g => a3 g.2.2.1)
 refine ev_pos (decide_eq_true a3) (ev_bind0 (l1In_is _ _ _) ?_)
 by_cases a4:0 ≤ mx ∧ mx ≤ 1000000
 case neg => exact ev_neg (by rw [decide_eq_false a4];exact Bool.false_ne_true) (bad fun g => a4 g.2.2.2.1)
 refine ev_pos (decide_eq_true a4) ?_
 by_cases a5:mn ≤ mx
 case neg => exact ev_pos (by omega) (bad fun g => a5 g.2.2.2.2.1)
 refine ev_neg (by omega) ?_
 by_cases a6:R.length = 2
 case neg =>
  have e:((R.length:Int) != 2) = true:=by simp;omega
  rw [e]
  exact bad fun g => a6 g.2.2.2.2.2.1
 have e:((R.length:Int) != 2) = false:=by simp;omega
 rw [e]
 refine Ev.step (fun _ => rfl) ?_
 simp only [spec_SketchOk.j0]
 refine ev_neg (by simp) ?_
 have fin:∀ f:Bool,(f = false ↔ (c = 0 → s = 0 ∧ mx = 0)) → Ev (fun k => spec_SketchOk.j1 k (c == 0) f c s mn mx h r R) (skOk c s mn mx h r R):=by
  intro f hf;refine spec_sketchOk_j1 c s mn mx h r R a6 f _ (fun g1 g2 g3 g4 g5 => skOk_true.2 ⟨a1,a2,a3,a4,a5,a6,hf.1 g1,g2,g3,g4,g5⟩) (fun g => skOk_false fun q => g ⟨hf.2 q.2.2.2.2.2.2.1,q.2.2.2.2.2.2.2⟩)
 refine ev_if (fun z => ?_) (fun z => fin false ⟨fun _ h => absurd h z,fun _ => rfl⟩)
 refine ev_if (fun z2 => fin _ ?_) (fun z2 => fin true ⟨fun h => by simp at h,fun h => absurd (h z).1 z2⟩)
 constructor
 ·intro h _
  exact ⟨z2,by simpa using h⟩
 ·intro h
  simpa using (h z).2
theorem sum_bd (ys:List Int) (h:∀ x ∈ ys,0 ≤ x ∧ x ≤ 1000000000):0 ≤ ys.sum ∧ ys.sum ≤ ys.length * 1000000000:=by
 induction ys with
 | nil => simp
 | cons y ys ih =>
  have h1:=h y List.mem_cons_self
  have h2:=ih fun x hx => h x (List.mem_cons_of_mem _ hx)
  rw [List.sum_cons,List.length_cons]
  omega
theorem sum_zero (ys:List Int) (h:∀ x ∈ ys,0 ≤ x ∧ x ≤ 1000000000) (h0:ys.sum = 0):∀ x ∈ ys,x = 0:=by
 induction ys with
 | nil => exact fun x hx => by cases hx
 | cons y ys ih =>
  intro x hx;have h1:=h y List.mem_cons_self
  have h2:=sum_bd ys fun x hx => h x (List.mem_cons_of_mem _ hx)
  rw [List.sum_cons] at h0
  rcases List.mem_cons.1 hx with rfl | hx
  ·omega
  ·exact ih (fun x hx => h x (List.mem_cons_of_mem _ hx)) (by omega) x hx
theorem zero_sum (ys:List Int) (h:∀ x ∈ ys,x = 0):ys.sum = 0:=by
 induction ys with
 | nil => rfl
 | cons y ys ih =>
  rw [List.sum_cons,h y List.mem_cons_self,ih fun x hx => h x (List.mem_cons_of_mem _ hx)]
  rfl
theorem copyInts_is (xs:List Int) (h:xs.length ≤ 1048576):impl_copyInts.f xs = some xs:=by
 unfold impl_copyInts.f
 rw [if_pos (by simp;omega)]
 rfl
theorem counts_ev (c s mn mx:Int) (h r A B:List Int) (hh:h.length ≤ 8) (hr:r.length ≤ 8) (hA:A.length ≤ 8) (hB:B.length ≤ 8) :
  Ev (fun k => impl_counts.f k c s mn mx h r [A,B]) (((h ++ r) ++ A) ++ B):=by
 unfold impl_counts.f
 refine ev_bind0 (copyInts_is h (by omega)) (ev_pos (by omega) ?_)
 refine Ev.step (fun _ => rfl) ?_
 simp only [impl_counts.l0]
 refine ev_pos (by simp) (ev_pos (by simp) (ev_pos (by simp) ?_))
 have e0:rd_L3 [A,B] 0 = A:=rfl
 have w1:wrap64 (0 + 1) = 1:=by unfold wrap64;omega
 have w2:wrap64 (1 + 1) = 2:=by unfold wrap64;omega
 have e1:rd_L3 [A,B] (wrap64 (0 + 1)) = B:=by rw [w1];rfl
 refine ev_pos (by rw [e0];simp;omega) ?_
 refine Ev.step (fun _ => rfl) ?_
 simp only [impl_counts.l0]
 refine ev_pos (by rw [w1];simp) (ev_pos (by rw [w1];omega) (ev_pos (by rw [w1];simp) ?_))
 refine ev_pos (by rw [e0,e1];simp;omega) ?_
 refine Ev.step (fun _ => rfl) ?_
 simp only [impl_counts.l0]
 exact ev_neg (by rw [w1,w2];simp) (ev_some (by rw [e0,e1]))
theorem impl_sketchOk_l1 (c s mn mx:Int) (h r:List Int) (R:List (List Int)) (v:Bool) (t:Int) (hr:r.length ≤ 8) (d:Nat):∀ i:Nat,i + d = r.length →
  ((∀ x ∈ r.drop i,x ≤ 17) → v = if c = 0 then (t == 0) else decide (mn ≤ mx ∧ mx ≤ 1000000)) → (¬ (∀ x ∈ r.drop i,x ≤ 17) → v = false) →
  Ev (fun k => impl_SketchOk.l1 k t r (r.length:Int) (i:Int) c s mn mx h r R) v:=by
 induction d with
 | zero =>
  intro i hi h1 _;refine Ev.step (fun _ => rfl) ?_;simp only [impl_SketchOk.l1];refine ev_neg (by omega) ?_;rw [h1 (fun x hx => by rw [List.drop_of_length_le (by omega)] at hx;cases hx)]
  by_cases hc:c = 0
  ·exact ev_pos hc (ev_some (by rw [if_pos hc]))
  ·refine ev_neg hc (ev_if (fun g => ev_some ?_) (fun g => ev_some (by rw [if_neg hc];exact (decide_eq_false fun q => g q.1).symm)))
   rw [if_neg hc];exact decide_eq_decide.mpr ⟨fun x => ⟨g,x⟩,fun x => x.2⟩
 | succ d ih =>
  intro i hi h1 h2
  have hg:i < r.length:=by omega
  rw [List.drop_eq_getElem_cons hg] at h1 h2;refine Ev.step (fun _ => rfl) ?_;simp only [impl_SketchOk.l1];rw [wsucc (by omega),rd_get hg];refine ev_pos (by omega) (ev_pos (by omega) (ev_pos (by omega) ?_))
  by_cases g:r[i] > 17
  ·exact ev_pos g (ev_some (h2 fun q => by have:=q _ List.mem_cons_self;omega).symm)
  ·refine ev_neg g (ih (i + 1) (by omega) (fun q => h1 fun x hx => ?_) (fun q => h2 fun p => q fun x hx => p x (List.mem_cons_of_mem _ hx)))
   rcases List.mem_cons.1 hx with rfl | hx
   ·omega
   ·exact q x hx
theorem impl_sketchOk_l0 (c s mn mx:Int) (h r:List Int) (R:List (List Int)) (v:Bool) (ys:List Int) (hy:ys.length ≤ 100) (d:Nat):∀ (i:Nat) (t:Int),i + d = ys.length → 0 ≤ t → t ≤ (i:Int) * 1000000000 →
  ((∀ x ∈ ys.drop i,0 ≤ x ∧ x ≤ 1000000000) → Ev (fun k => impl_SketchOk.l1 k (t + (ys.drop i).sum) r (r.length:Int) 0 c s mn mx h r R) v) → (¬ (∀ x ∈ ys.drop i,0 ≤ x ∧ x ≤ 1000000000) → v = false) →
  Ev (fun k => impl_SketchOk.l0 k t ys (ys.length:Int) (i:Int) c s mn mx h r R) v:=by
 induction d with
 | zero =>
  intro i t hi h0 ht h1 _;refine Ev.step (fun _ => rfl) ?_;simp only [impl_SketchOk.l0];refine ev_neg (by omega) ?_;rw [List.drop_of_length_le (by omega)] at h1;have:=h1 (fun x hx => by cases hx);rw [List.sum_nil,Int.add_zero] at this;exact this
 | succ d ih =>
  intro i t hi h0 ht h1 h2
  have hg:i < ys.length:=by omega
  rw [List.drop_eq_getElem_cons hg] at h1 h2;refine Ev.step (fun _ => rfl) ?_;simp only [impl_SketchOk.l0];rw [wsucc (by omega),rd_get hg];refine ev_pos (by omega) (ev_pos (by omega) (ev_pos (by omega) (ev_bind0 (within_is _ _ _) ?_)))
  by_cases g:0 ≤ ys[i] ∧ ys[i] ≤ 1000000000
  ·refine ev_pos (decide_eq_true g) ?_
   rw [w64 (x:=t + ys[i]) (by omega) (by omega)];refine ih (i + 1) _ (by omega) (by omega) (by omega) (fun q => ?_) (fun q => h2 fun p => q fun x hx => p x (List.mem_cons_of_mem _ hx));rw [Int.add_assoc,← List.sum_cons]
   refine h1 fun x hx => ?_
   rcases List.mem_cons.1 hx with rfl | hx
   ·exact g
   ·exact q x hx
  ·exact ev_neg (by rw [decide_eq_false g];exact Bool.false_ne_true) (ev_some (h2 fun q => g (q _ List.mem_cons_self)).symm)
theorem impl_sketchOk_ev (c s mn mx:Int) (h r:List Int) (R:List (List Int)):Ev (fun k => impl_SketchOk.f k c s mn mx h r R) (skOk c s mn mx h r R):=by
 have bad:¬ SkOk c s mn mx h r R → Ev (fun k => impl_SketchOk.j0 k true c s mn mx h r R) (skOk c s mn mx h r R):=by
  intro hb;refine Ev.step (fun _ => rfl) ?_;simp only [impl_SketchOk.j0];exact ev_pos (by trivial) (ev_some (skOk_false hb).symm)
 unfold impl_SketchOk.f
 by_cases a1:h.length = 8
 case neg => exact ev_neg (by omega) (bad fun g => a1 g.2.2.2.2.2.2.2.1.1)
 refine ev_pos (by omega) ?_
 by_cases a2:r.length = 8
 case neg => exact ev_neg (by omega) (bad fun g => a2 g.2.2.2.2.2.2.2.2.1.1)
 refine ev_pos (by omega) ?_
 by_cases a3:R.length = 2
 case neg => exact ev_neg (by omega) (bad fun g => a3 g.2.2.2.2.2.1)
 refine ev_pos (by omega) (ev_pos (by omega) ?_)
 by_cases a4:(rd_L3 R 0).length = 4
 case neg => exact ev_neg (by omega) (bad fun g => a4 g.2.2.2.2.2.2.2.2.2.1.1)
 refine ev_pos (by omega) (ev_pos (by omega) ?_)
 by_cases a5:(rd_L3 R 1).length = 4
 case neg =>
  have e:(((rd_L3 R 1).length:Int) != 4) = true:=by simp;omega
  rw [e]
  exact bad fun g => a5 g.2.2.2.2.2.2.2.2.2.2.1
 have e:(((rd_L3 R 1).length:Int) != 4) = false:=by simp;omega
 rw [e]
 clear e bad
 obtain ⟨A,B,rfl⟩:∃ A B,R = [A,B]:=by
  match R,a3 with
  | [A,B],_ => exact ⟨A,B,rfl⟩
 have eA:rd_L3 [A,B] 0 = A:=rfl
 have eB:rd_L3 [A,B] 1 = B:=rfl
 rw [eA] at a4
 rw [eB] at a5
 refine Ev.step (fun _ => rfl) ?_
 simp only [impl_SketchOk.j0]
 refine ev_neg (by simp) (Ev.bind (counts_ev c s mn mx h r A B (by omega) (by omega) (by omega) (by omega)) (ev_bind0 rfl (ev_pos ?_ (ev_bind0 rfl ?_))))
 ·simp only [List.length_append,List.length_cons,List.length_nil]
  omega
 generalize hys:(((h ++ r) ++ A) ++ B) ++ [c,s,mn,mx] = ys
 have hyl:ys.length = 28:=by
  rw [← hys];simp only [List.length_append,List.length_cons,List.length_nil]
  omega
 have hmem:∀ P:Int → Prop,(∀ x ∈ ys,P x) ↔ (∀ x ∈ h,P x) ∧ (∀ x ∈ r,P x) ∧ (∀ x ∈ A,P x) ∧ (∀ x ∈ B,P x) ∧ P c ∧ P s ∧ P mn ∧ P mx:=by
  intro P;rw [← hys]
  constructor
  ·intro q
   exact ⟨fun x hx => q x (by simp [hx]),fun x hx => q x (by simp [hx]),fun x hx => q x (by simp [hx]),fun x hx => q x (by simp [hx]),q c (by simp),q s (by simp),q mn (by simp),q mx (by simp)⟩
  ·rintro ⟨q1,q2,q3,q4,q5,q6,q7,q8⟩ x hx
   simp only [List.mem_append,List.mem_cons,List.not_mem_nil,or_false] at hx
   rcases hx with (((hx | hx) | hx) | hx) | rfl | rfl | rfl | rfl
   ·exact q1 x hx
   ·exact q2 x hx
   ·exact q3 x hx
   ·exact q4 x hx
   ·exact q5
   ·exact q6
   ·exact q7
   ·exact q8
 refine impl_sketchOk_l0 c s mn mx h r [A,B] _ ys (by omega) 28 0 0 (by omega) (by omega) (by omega) (fun q => ?_) (fun q => skOk_false fun g => q ?_)
 ·rw [List.drop_zero] at q
  rw [List.drop_zero,Int.zero_add];have qq:=(hmem _).1 q;refine impl_sketchOk_l1 c s mn mx h r [A,B] _ ys.sum (by omega) 8 0 (by omega) (fun p => ?_) (fun p => skOk_false fun g => p fun x hx => ?_)
  ·rw [List.drop_zero] at p
   by_cases hc:c = 0
   ·rw [if_pos hc]
    by_cases hz:ys.sum = 0
    ·have z:=(hmem _).1 (sum_zero ys q hz)
     have e:(ys.sum == 0) = true:=by simpa using hz
     rw [e];refine skOk_true.2 ⟨by omega,by omega,by omega,by omega,by omega,rfl,fun _ => ⟨z.2.2.2.2.2.1,z.2.2.2.2.2.2.2⟩,⟨a1,fun x hx => ⟨qq.1 x hx,fun _ => z.1 x hx⟩⟩,⟨a2,fun x hx => ⟨⟨(qq.2.1 x hx).1,p x hx⟩,fun _ => z.2.1 x hx⟩⟩,⟨a4,fun x hx => ⟨qq.2.2.1 x hx,fun _ => z.2.2.1 x hx⟩⟩,⟨a5,fun x hx => ⟨qq.2.2.2.1 x hx,fun _ => z.2.2.2.1 x hx⟩⟩⟩
    ·have e:(ys.sum == 0) = false:=by simpa using hz
     rw [e]
     refine skOk_false fun g => hz (zero_sum ys ((hmem _).2 ?_))
     obtain ⟨g1,g2,g3,g4,g5,g6,g7,g8,g9,g10,g11⟩:=g;have:=g7 hc;exact ⟨fun x hx => (g8.2 x hx).2 hc,fun x hx => (g9.2 x hx).2 hc,fun x hx => (g10.2 x hx).2 hc,fun x hx => (g11.2 x hx).2 hc,hc,this.1,by omega,this.2⟩
   ·rw [if_neg hc]
    by_cases hm:mn ≤ mx ∧ mx ≤ 1000000
    ·rw [decide_eq_true hm]
     refine skOk_true.2 ⟨qq.2.2.2.2.1,qq.2.2.2.2.2.1,by omega,by omega,hm.1,rfl,fun z => absurd z hc,⟨a1,fun x hx => ⟨qq.1 x hx,fun z => absurd z hc⟩⟩,⟨a2,fun x hx => ⟨⟨(qq.2.1 x hx).1,p x hx⟩,fun z => absurd z hc⟩⟩,⟨a4,fun x hx => ⟨qq.2.2.1 x hx,fun z => absurd z hc⟩⟩,⟨a5,fun x hx => ⟨qq.2.2.2.1 x hx,fun z => absurd z hc⟩⟩⟩
    ·rw [decide_eq_false hm]
     exact skOk_false fun g => hm ⟨g.2.2.2.2.1,g.2.2.2.1.2⟩
  ·rw [List.drop_zero] at hx
   exact (g.2.2.2.2.2.2.2.2.1.2 x hx).1.2
 ·rw [List.drop_zero]
  obtain ⟨g1,g2,g3,g4,g5,g6,g7,g8,g9,g10,g11⟩:=g;exact (hmem _).2 ⟨fun x hx => (g8.2 x hx).1,fun x hx => by have:=(g9.2 x hx).1;omega,fun x hx => (g10.2 x hx).1,fun x hx => (g11.2 x hx).1,g1,g2,by omega,by omega⟩
noncomputable def itemOk (q cl ke wi c s mn mx:Int) (h r:List Int) (R:List (List Int)):Bool :=
 decide (1 ≤ q ∧ q ≤ 60) && (decide (0 ≤ cl ∧ cl ≤ 1) && (decide (0 ≤ ke ∧ ke ≤ 4) && (decide (0 ≤ wi ∧ wi ≤ 20) && skOk c s mn mx h r R)))
theorem spec_itemOk_ev (q cl ke wi c s mn mx:Int) (h r:List Int) (R:List (List Int)):Ev (fun k => spec_ItemOk.f k q cl ke wi c s mn mx h r R) (itemOk q cl ke wi c s mn mx h r R):=by
 unfold spec_ItemOk.f itemOk spec_l6Place.f
 refine ev_bind0 (l1In_is _ _ _) ?_
 cases decide (1 ≤ q ∧ q ≤ 60)
 ·exact ev_neg (by simp) (ev_some rfl)
 refine ev_pos rfl (ev_bind0 (l1In_is _ _ _) ?_)
 cases decide (0 ≤ cl ∧ cl ≤ 1)
 ·exact ev_neg (by simp) (ev_some rfl)
 refine ev_pos rfl ?_
 rw [l1In_is,l1In_is,Option.bind_some]
 cases decide (0 ≤ ke ∧ ke ≤ 4)
 ·exact ev_bind0 rfl (ev_neg (by simp) (ev_some rfl))
 cases decide (0 ≤ wi ∧ wi ≤ 20)
 ·exact ev_bind0 rfl (ev_neg (by simp) (ev_some rfl))
 exact ev_bind0 rfl (ev_pos rfl (Ev.bind (spec_sketchOk_ev c s mn mx h r R) (ev_some (by simp))))
def setOkFrom (s:List S70):Nat → Nat → Bool
 | 0,_ => true
 | d + 1,i =>
  if 0 ≤ (rd_T70 s (i:Int)).f0 ∧ (rd_T70 s (i:Int)).f0 ≤ 9999 then
   if (rd_T70 s (i:Int)).f0 ≤ (rd_T70 s (i:Int)).f1 ∧ (rd_T70 s (i:Int)).f1 ≤ 9999 then
    if 0 < i then
     if (rd_T70 s (i:Int)).f0 ≤ wrap64 ((rd_T70 s ((i - 1:Nat):Int)).f1 + 1) then false else setOkFrom s d (i + 1)
    else setOkFrom s d (i + 1)
   else false
  else false
def setOk (s:List S70):Bool:=setOkFrom s s.length 0
theorem spec_setOk_at (s:List S70) (hn:s.length ≤ 1048576) (d:Nat):∀ i:Nat,i + d = s.length → Ev (fun k => spec_SetOk.l0 k s (i:Int)) (setOkFrom s d i):=by
 induction d with
 | zero =>
  intro i hi;refine Ev.step (fun _ => rfl) ?_;simp only [spec_SetOk.l0];exact ev_neg (by omega) (ev_some rfl)
 | succ d ih =>
  intro i hi;refine Ev.step (fun _ => rfl) ?_;simp only [spec_SetOk.l0];unfold setOkFrom;rw [wsucc (by omega)];refine ev_pos (by omega) (ev_pos (by omega) (ev_bind0 (l1In_is _ _ _) ?_))
  by_cases h1:0 ≤ (rd_T70 s (i:Int)).f0 ∧ (rd_T70 s (i:Int)).f0 ≤ 9999
  ·rw [if_pos h1]
   refine ev_pos (decide_eq_true h1) (ev_bind0 (l1In_is _ _ _) ?_)
   by_cases h2:(rd_T70 s (i:Int)).f0 ≤ (rd_T70 s (i:Int)).f1 ∧ (rd_T70 s (i:Int)).f1 ≤ 9999
   ·rw [if_pos h2]
    refine ev_pos (decide_eq_true h2) ?_
    by_cases h3:0 < i
    ·rw [if_pos h3,wpred h3 (by omega)]
     refine ev_pos (by omega) (ev_pos (by omega) (ev_pos (by omega) ?_))
     by_cases h4:(rd_T70 s (i:Int)).f0 ≤ wrap64 ((rd_T70 s ((i - 1:Nat):Int)).f1 + 1)
     ·rw [if_pos h4]
      exact ev_pos h4 (ev_some rfl)
     ·rw [if_neg h4]
      exact ev_neg h4 (ih (i + 1) (by omega))
    ·rw [if_neg h3]
     exact ev_neg (by omega) (ih (i + 1) (by omega))
   ·rw [if_neg h2]
    exact ev_neg (by rw [decide_eq_false h2];exact Bool.false_ne_true) (ev_some rfl)
  ·rw [if_neg h1]
   exact ev_neg (by rw [decide_eq_false h1];exact Bool.false_ne_true) (ev_some rfl)
theorem spec_setOk_ev (s:List S70) (hn:s.length ≤ 1048576):Ev (fun k => spec_SetOk.f k s) (setOk s):=spec_setOk_at s hn s.length 0 (by omega)
theorem impl_setOk_at (s:List S70) (hn:s.length ≤ 1048576) (d:Nat):∀ i:Nat,i + d = s.length → Ev (fun k => impl_SetOk.l0 k s s (s.length:Int) (i:Int)) (setOkFrom s d i):=by
 induction d with
 | zero =>
  intro i hi;refine Ev.step (fun _ => rfl) ?_;simp only [impl_SetOk.l0];exact ev_neg (by omega) (ev_some rfl)
 | succ d ih =>
  intro i hi;refine Ev.step (fun _ => rfl) ?_;simp only [impl_SetOk.l0];unfold setOkFrom;rw [wsucc (by omega)];refine ev_pos (by omega) (ev_pos (by omega) (ev_pos (by omega) (ev_bind0 (within_is _ _ _) ?_)))
  by_cases h1:0 ≤ (rd_T70 s (i:Int)).f0 ∧ (rd_T70 s (i:Int)).f0 ≤ 9999
  ·rw [if_pos h1]
   refine ev_pos (decide_eq_true h1) (ev_bind0 (within_is _ _ _) ?_)
   by_cases h2:(rd_T70 s (i:Int)).f0 ≤ (rd_T70 s (i:Int)).f1 ∧ (rd_T70 s (i:Int)).f1 ≤ 9999
   ·rw [if_pos h2]
    refine ev_pos (decide_eq_true h2) ?_
    by_cases h3:0 < i
    ·rw [if_pos h3,wpred h3 (by omega)]
     refine ev_pos (by omega) (ev_pos (by omega) (ev_pos (by omega) ?_))
     by_cases h4:(rd_T70 s (i:Int)).f0 ≤ wrap64 ((rd_T70 s ((i - 1:Nat):Int)).f1 + 1)
     ·rw [if_pos h4]
      exact ev_pos h4 (ev_some rfl)
     ·rw [if_neg h4]
      exact ev_neg h4 (ih (i + 1) (by omega))
    ·rw [if_neg h3]
     exact ev_neg (by omega) (ih (i + 1) (by omega))
   ·rw [if_neg h2]
    exact ev_neg (by rw [decide_eq_false h2];exact Bool.false_ne_true) (ev_some rfl)
  ·rw [if_neg h1]
   exact ev_neg (by rw [decide_eq_false h1];exact Bool.false_ne_true) (ev_some rfl)
theorem impl_setOk_ev (s:List S70) (hn:s.length ≤ 1048576):Ev (fun k => impl_SetOk.f k s) (setOk s):=impl_setOk_at s hn s.length 0 (by omega)
def apart1 (x:S70) (b:List S70):Nat → Nat → Bool
 | 0,_ => true
 | d + 1,j =>
  if x.f0 ≤ (rd_T70 b (j:Int)).f1 then
   if (rd_T70 b (j:Int)).f0 ≤ x.f1 then false else apart1 x b d (j + 1)
  else apart1 x b d (j + 1)
def apartFrom (a b:List S70):Nat → Nat → Bool
 | 0,_ => true
 | d + 1,i => apart1 (rd_T70 a (i:Int)) b b.length 0 && apartFrom a b d (i + 1)
def setApart (a b:List S70):Bool:=setOk a && setOk b && apartFrom a b a.length 0
theorem spec_apart1_at (a b:List S70) (ha:a.length ≤ 1048576) (hb:b.length ≤ 1048576) (i:Nat) (hi:i < a.length) (r:Bool) (d:Nat):∀ j:Nat,j + d = b.length →
  (apart1 (rd_T70 a (i:Int)) b d j = true → Ev (fun k => spec_SetApart.l0 k a b ((i + 1:Nat):Int)) r) → (apart1 (rd_T70 a (i:Int)) b d j = false → r = false) → Ev (fun k => spec_SetApart.l1 k a b (i:Int) (j:Int)) r:=by
 induction d with
 | zero =>
  intro j hj h1 _;refine Ev.step (fun _ => rfl) ?_;simp only [spec_SetApart.l1];refine ev_neg (by omega) ?_;rw [wsucc (by omega)];exact h1 rfl
 | succ d ih =>
  intro j hj h1 h2;refine Ev.step (fun _ => rfl) ?_;simp only [spec_SetApart.l1];rw [wsucc (by omega)];unfold apart1 at h1 h2;refine ev_pos (by omega) (ev_pos (by omega) (ev_pos (by omega) (ev_pos (by omega) ?_)))
  by_cases c:(rd_T70 a (i:Int)).f0 ≤ (rd_T70 b (j:Int)).f1
  ·rw [if_pos c] at h1 h2
   refine ev_pos c ?_
   by_cases e:(rd_T70 b (j:Int)).f0 ≤ (rd_T70 a (i:Int)).f1
   ·rw [if_pos e] at h1 h2
    exact ev_pos e (ev_some (h2 rfl).symm)
   ·rw [if_neg e] at h1 h2
    exact ev_neg e (ih (j + 1) (by omega) h1 h2)
  ·rw [if_neg c] at h1 h2
   exact ev_neg c (ih (j + 1) (by omega) h1 h2)
theorem spec_apart_at (a b:List S70) (ha:a.length ≤ 1048576) (hb:b.length ≤ 1048576) (d:Nat):∀ i:Nat,i + d = a.length → Ev (fun k => spec_SetApart.l0 k a b (i:Int)) (apartFrom a b d i):=by
 induction d with
 | zero =>
  intro i hi;refine Ev.step (fun _ => rfl) ?_;simp only [spec_SetApart.l0];exact ev_neg (by omega) (ev_some rfl)
 | succ d ih =>
  intro i hi;refine Ev.step (fun _ => rfl) ?_;simp only [spec_SetApart.l0];refine ev_pos (by omega) ?_;unfold apartFrom;refine spec_apart1_at a b ha hb i (by omega) _ b.length 0 (by omega) (fun h => ?_) (fun h => ?_)
  ·rw [h,Bool.true_and]
   exact ih (i + 1) (by omega)
  ·rw [h,Bool.false_and]
theorem impl_apart1_at (a b:List S70) (ha:a.length ≤ 1048576) (hb:b.length ≤ 1048576) (i:Nat) (hi:i < a.length) (r:Bool) (d:Nat):∀ j:Nat,j + d = b.length →
  (apart1 (rd_T70 a (i:Int)) b d j = true → Ev (fun k => impl_SetApart.l0 k b a (a.length:Int) ((i + 1:Nat):Int)) r) → (apart1 (rd_T70 a (i:Int)) b d j = false → r = false) →
  Ev (fun k => impl_SetApart.l1 k b a (a.length:Int) (i:Int) b (b.length:Int) (j:Int) (rd_T70 a (i:Int)).f0 (rd_T70 a (i:Int)).f1) r:=by
 induction d with
 | zero =>
  intro j hj h1 _;refine Ev.step (fun _ => rfl) ?_;simp only [impl_SetApart.l1];refine ev_neg (by omega) ?_;rw [wsucc (by omega)];exact h1 rfl
 | succ d ih =>
  intro j hj h1 h2;refine Ev.step (fun _ => rfl) ?_;simp only [impl_SetApart.l1];rw [wsucc (by omega)];unfold apart1 at h1 h2;refine ev_pos (by omega) (ev_pos (by omega) (ev_pos (by omega) ?_))
  by_cases c:(rd_T70 a (i:Int)).f0 ≤ (rd_T70 b (j:Int)).f1
  ·rw [if_pos c] at h1 h2
   refine ev_pos c ?_
   by_cases e:(rd_T70 b (j:Int)).f0 ≤ (rd_T70 a (i:Int)).f1
   ·rw [if_pos e] at h1 h2
    exact ev_pos e (ev_some (h2 rfl).symm)
   ·rw [if_neg e] at h1 h2
    exact ev_neg e (ih (j + 1) (by omega) h1 h2)
  ·rw [if_neg c] at h1 h2
   exact ev_neg c (ih (j + 1) (by omega) h1 h2)
theorem impl_apart_at (a b:List S70) (ha:a.length ≤ 1048576) (hb:b.length ≤ 1048576) (d:Nat):∀ i:Nat,i + d = a.length → Ev (fun k => impl_SetApart.l0 k b a (a.length:Int) (i:Int)) (apartFrom a b d i):=by
 induction d with
 | zero =>
  intro i hi;refine Ev.step (fun _ => rfl) ?_;simp only [impl_SetApart.l0];exact ev_neg (by omega) (ev_some rfl)
 | succ d ih =>
  intro i hi;refine Ev.step (fun _ => rfl) ?_;simp only [impl_SetApart.l0];refine ev_pos (by omega) (ev_pos (by omega) (ev_pos (by omega) ?_));unfold apartFrom;refine impl_apart1_at a b ha hb i (by omega) _ b.length 0 (by omega) (fun h => ?_) (fun h => ?_)
  ·rw [h,Bool.true_and]
   exact ih (i + 1) (by omega)
  ·rw [h,Bool.false_and]
theorem spec_setApart_ev (a b:List S70) (ha:a.length ≤ 1048576) (hb:b.length ≤ 1048576):Ev (fun k => spec_SetApart.f k a b) (setApart a b):=by
 unfold spec_SetApart.f setApart
 refine Ev.bind (spec_setOk_ev a ha) ?_
 cases h:setOk a with
 | false =>
  refine ev_neg (by simp) (Ev.step (fun _ => rfl) ?_);simp only [spec_SetApart.j0];exact ev_pos (by trivial) (ev_some rfl)
 | true =>
  refine ev_pos rfl (Ev.bind (spec_setOk_ev b hb) (Ev.step (fun _ => rfl) ?_));simp only [spec_SetApart.j0]
  cases h2:setOk b with
  | false => exact ev_pos (by trivial) (ev_some rfl)
  | true => exact ev_neg (by simp) (spec_apart_at a b ha hb a.length 0 (by omega))
theorem impl_setApart_ev (a b:List S70) (ha:a.length ≤ 1048576) (hb:b.length ≤ 1048576):Ev (fun k => impl_SetApart.f k a b) (setApart a b):=by
 unfold impl_SetApart.f setApart
 refine Ev.bind (impl_setOk_ev a ha) ?_
 cases h:setOk a with
 | false =>
  refine ev_neg (by simp) (Ev.step (fun _ => rfl) ?_);simp only [impl_SetApart.j0];exact ev_pos (by trivial) (ev_some rfl)
 | true =>
  refine ev_pos rfl (Ev.bind (impl_setOk_ev b hb) (Ev.step (fun _ => rfl) ?_));simp only [impl_SetApart.j0]
  cases h2:setOk b with
  | false => exact ev_pos (by trivial) (ev_some rfl)
  | true => exact ev_neg (by simp) (impl_apart_at a b ha hb a.length 0 (by omega))
def hasN (s:List S70) (n:Int):Prop:=∃ x ∈ s,x.f0 ≤ n ∧ n ≤ x.f1
def Nrm:List S70 → Prop
 | [] => True
 | x :: s => x.f0 ≤ x.f1 ∧ (∀ y ∈ s,x.f1 + 1 < y.f0) ∧ Nrm s
theorem hasN_nil (n:Int):¬ hasN [] n:=fun ⟨_,h,_⟩ => by cases h
theorem hasN_cons (x:S70) (s:List S70) (n:Int):hasN (x :: s) n ↔ (x.f0 ≤ n ∧ n ≤ x.f1) ∨ hasN s n:=by
 constructor
 ·rintro ⟨z,hz,h⟩
  rcases List.mem_cons.1 hz with rfl | hz
  ·exact .inl h
  ·exact .inr ⟨z,hz,h⟩
 ·rintro (h | ⟨z,hz,h⟩)
  ·exact ⟨x,List.mem_cons_self,h⟩
  ·exact ⟨z,List.mem_cons_of_mem _ hz,h⟩
theorem hasN_append (s t:List S70) (n:Int):hasN (s ++ t) n ↔ hasN s n ∨ hasN t n:=by
 induction s with
 | nil => simp [hasN_nil]
 | cons x s ih => rw [List.cons_append,hasN_cons,hasN_cons,ih,or_assoc]
theorem hasN_one (x:S70) (n:Int):hasN [x] n ↔ x.f0 ≤ n ∧ n ≤ x.f1:=by
 rw [hasN_cons]
 exact ⟨fun h => h.elim id (fun h => absurd h (hasN_nil n)),.inl⟩
theorem nrm_append:∀ (s t:List S70),Nrm (s ++ t) ↔ Nrm s ∧ Nrm t ∧ ∀ x ∈ s,∀ y ∈ t,x.f1 + 1 < y.f0:=by
 intro s
 induction s with
 | nil => intro t;simp [Nrm]
 | cons x s ih =>
  intro t;rw [List.cons_append];simp only [Nrm,ih t,List.mem_append,List.mem_cons]
  constructor
  ·rintro ⟨h1,h2,h3,h4,h5⟩
   refine ⟨⟨h1,fun y hy => h2 y (.inl hy),h3⟩,h4,fun z hz y hy => ?_⟩
   rcases hz with rfl | hz
   ·exact h2 y (.inr hy)
   ·exact h5 z hz y hy
  ·rintro ⟨⟨h1,h2,h3⟩,h4,h5⟩
   refine ⟨h1,fun y hy => ?_,h3,h4,fun z hz y hy => h5 z (.inr hz) y hy⟩
   rcases hy with hy | hy
   ·exact h2 y hy
   ·exact h5 x (.inl rfl) y hy
theorem nrm_one (x:S70):Nrm [x] ↔ x.f0 ≤ x.f1:=by simp [Nrm]
theorem Nrm.le {s:List S70} (h:Nrm s):∀ x ∈ s,x.f0 ≤ x.f1:=by
 induction s with
 | nil => intro x hx;cases hx
 | cons y s ih =>
  intro x hx
  rcases List.mem_cons.1 hx with rfl | hx
  ·exact h.1
  ·exact ih h.2.2 x hx
theorem Nrm.head_le {x:S70} {s:List S70} (h:Nrm (x :: s)) {n:Int} (hn:hasN (x :: s) n):x.f0 ≤ n:=by
 rcases (hasN_cons x s n).1 hn with hn | ⟨z,hz,h1,h2⟩
 ·exact hn.1
 ·have:=h.2.1 z hz
  have:=h.1
  omega
theorem Nrm.gap {x:S70} {s:List S70} (h:Nrm (x :: s)):¬ hasN (x :: s) (x.f1 + 1):=by
 intro hn
 rcases (hasN_cons x s _).1 hn with hn | ⟨z,hz,h1,h2⟩
 ·omega
 ·have:=h.2.1 z hz
  omega
theorem Nrm.tail_gt {x:S70} {s:List S70} (h:Nrm (x :: s)) {n:Int} (hn:hasN s n):x.f1 + 1 < n:=by
 obtain ⟨z,hz,h1,h2⟩:=hn
 have:=h.2.1 z hz
 omega
theorem Nrm.uniq:∀ (s t:List S70),Nrm s → Nrm t → (∀ n,hasN s n ↔ hasN t n) → s = t:=by
 intro s
 induction s with
 | nil =>
  intro t hs ht h
  cases t with
  | nil => rfl
  | cons y t => exact absurd ((h y.f0).2 ⟨y,List.mem_cons_self,Int.le_refl _,ht.1⟩) (hasN_nil _)
 | cons x s ih =>
  intro t hs ht h
  cases t with
  | nil => exact absurd ((h x.f0).1 ⟨x,List.mem_cons_self,Int.le_refl _,hs.1⟩) (hasN_nil _)
  | cons y t =>
   have h0:x.f0 = y.f0:=by
    have a:=hs.head_le ((h y.f0).2 ⟨y,List.mem_cons_self,Int.le_refl _,ht.1⟩);have b:=ht.head_le ((h x.f0).1 ⟨x,List.mem_cons_self,Int.le_refl _,hs.1⟩)
    omega
   have h1:x.f1 = y.f1:=by
    have:=hs.1;have:=ht.1
    by_cases a:x.f1 < y.f1
    ·exact absurd ((h (x.f1 + 1)).2 ⟨y,List.mem_cons_self,by omega,by omega⟩) hs.gap
    ·by_cases b:y.f1 < x.f1
     ·exact absurd ((h (y.f1 + 1)).1 ⟨x,List.mem_cons_self,by omega,by omega⟩) ht.gap
     ·omega
   have e:x = y:=by
    cases x;cases y
    simp only at h0 h1;rw [h0,h1]
   subst e
   congr 1
   refine ih t hs.2.2 ht.2.2 (fun n => ⟨fun hn => ?_,fun hn => ?_⟩)
   ·have:=hs.tail_gt hn
    rcases (hasN_cons x t n).1 ((h n).1 ((hasN_cons x s n).2 (.inr hn))) with h | h
    ·omega
    ·exact h
   ·have:=ht.tail_gt hn
    rcases (hasN_cons x s n).1 ((h n).2 ((hasN_cons x t n).2 (.inr hn))) with h | h
    ·omega
    ·exact h
def putL:List S70 → List S70 → Bool → S70 → List S70
 | [],out,done,x => if done then out else out ++ [x]
 | y :: r,out,done,x =>
  if y.f1 + 1 < x.f0 then putL r (out ++ [y]) done x
  else if x.f1 + 1 < y.f0 then putL r ((if done then out else out ++ [x]) ++ [y]) true x
  else putL r out done ⟨if x.f0 < y.f0 then x.f0 else y.f0,if x.f1 > y.f1 then x.f1 else y.f1⟩
theorem putL_ok (r:List S70):∀ (out:List S70) (done:Bool) (x:S70),Nrm r → Nrm out → x.f0 ≤ x.f1 → (done = false → ∀ o ∈ out,o.f1 + 1 < x.f0) → (∀ o ∈ out,∀ y ∈ r,o.f1 + 1 < y.f0) → (done = true → ∀ y ∈ r,x.f1 + 1 < y.f0) →
  Nrm (putL r out done x) ∧ ∀ n,hasN (putL r out done x) n ↔ hasN out n ∨ hasN r n ∨ (done = false ∧ x.f0 ≤ n ∧ n ≤ x.f1):=by
 induction r with
 | nil =>
  intro out done x hr ho hx h1 h2 h3
  cases done with
  | true => exact ⟨ho,fun n => by simp [putL,hasN_nil]⟩
  | false =>
   refine ⟨(nrm_append _ _).2 ⟨ho,(nrm_one x).2 hx,fun o hm y hy => ?_⟩,fun n => ?_⟩
   ·rw [List.mem_singleton.1 hy]
    exact h1 rfl o hm
   ·simp [putL,hasN_nil,hasN_append,hasN_one]
 | cons y r ih =>
  intro out done x hr ho hx h1 h2 h3;have hy:=hr.1;have hyr:=hr.2.1;simp only [putL]
  by_cases c1:y.f1 + 1 < x.f0
  ·rw [if_pos c1]
   have hd:done = false:=by
    cases done with
    | false => rfl
    | true => have:=h3 rfl y List.mem_cons_self;omega
   subst hd
   obtain ⟨e1,e2⟩:=ih (out ++ [y]) false x hr.2.2 ((nrm_append _ _).2 ⟨ho,(nrm_one y).2 hy,fun o hm z hz => by rw [List.mem_singleton.1 hz];exact h2 o hm y List.mem_cons_self⟩) hx
    (fun _ o hm => by
     rcases List.mem_append.1 hm with hm | hm
     ·exact h1 rfl o hm
     ·rw [List.mem_singleton.1 hm];exact c1)
    (fun o hm z hz => by
     rcases List.mem_append.1 hm with hm | hm
     ·exact h2 o hm z (List.mem_cons_of_mem _ hz)
     ·rw [List.mem_singleton.1 hm];exact hyr z hz)
    (fun h => by cases h)
   refine ⟨e1,fun n => ?_⟩;rw [e2 n,hasN_append,hasN_one,hasN_cons]
   constructor
   ·rintro ((h | h) | h | h)
    ·exact .inl h
    ·exact .inr (.inl (.inl h))
    ·exact .inr (.inl (.inr h))
    ·exact .inr (.inr h)
   ·rintro (h | (h | h) | h)
    ·exact .inl (.inl h)
    ·exact .inl (.inr h)
    ·exact .inr (.inl h)
    ·exact .inr (.inr h)
  ·rw [if_neg c1]
   by_cases c2:x.f1 + 1 < y.f0
   ·rw [if_pos c2]
    have hbase:Nrm (if done then out else out ++ [x]):=by
     cases done with
     | true => exact ho
     | false => exact (nrm_append _ _).2 ⟨ho,(nrm_one x).2 hx,fun o hm z hz => by rw [List.mem_singleton.1 hz];exact h1 rfl o hm⟩
    have hlt:∀ o ∈ (if done then out else out ++ [x]),∀ z ∈ y :: r,o.f1 + 1 < z.f0:=by
     intro o hm z hz
     cases done with
     | true => exact h2 o hm z hz
     | false =>
      rcases List.mem_append.1 hm with hm | hm
      ·exact h2 o hm z hz
      ·rw [List.mem_singleton.1 hm]
       rcases List.mem_cons.1 hz with rfl | hz
       ·exact c2
       ·have:=hyr z hz;omega
    obtain ⟨e1,e2⟩:=ih ((if done then out else out ++ [x]) ++ [y]) true x hr.2.2 ((nrm_append _ _).2 ⟨hbase,(nrm_one y).2 hy,fun o hm z hz => by rw [List.mem_singleton.1 hz];exact hlt o hm y List.mem_cons_self⟩) hx
     (fun h => by cases h)
     (fun o hm z hz => by
      rcases List.mem_append.1 hm with hm | hm
      ·exact hlt o hm z (List.mem_cons_of_mem _ hz)
      ·rw [List.mem_singleton.1 hm];exact hyr z hz)
     (fun _ z hz => by have:=hyr z hz;omega)
    refine ⟨e1,fun n => ?_⟩;rw [e2 n,hasN_append,hasN_one,hasN_cons]
    have hb:hasN (if done then out else out ++ [x]) n ↔ hasN out n ∨ (done = false ∧ x.f0 ≤ n ∧ n ≤ x.f1):=by
     cases done with
     | true => simp
     | false => simp [hasN_append,hasN_one]
    rw [hb]
    constructor
    ·rintro (((h | h) | h) | h | h)
     ·exact .inl h
     ·exact .inr (.inr h)
     ·exact .inr (.inl (.inl h))
     ·exact .inr (.inl (.inr h))
     ·cases h.1
    ·rintro (h | (h | h) | h)
     ·exact .inl (.inl (.inl h))
     ·exact .inl (.inr h)
     ·exact .inr (.inl h)
     ·exact .inl (.inl (.inr h))
   ·rw [if_neg c2]
    have hd:done = false:=by
     cases done with
     | false => rfl
     | true => exact absurd (h3 rfl y List.mem_cons_self) c2
    subst hd
    obtain ⟨e1,e2⟩:=ih out false ⟨if x.f0 < y.f0 then x.f0 else y.f0,if x.f1 > y.f1 then x.f1 else y.f1⟩ hr.2.2 ho (by simp only;split <;> split <;> omega)
     (fun _ o hm => by
      have:=h1 rfl o hm;have:=h2 o hm y List.mem_cons_self;simp only
      split <;> omega)
     (fun o hm z hz => h2 o hm z (List.mem_cons_of_mem _ hz))
     (fun h => by cases h)
    refine ⟨e1,fun n => ?_⟩;rw [e2 n,hasN_cons]
    have hh:(((if x.f0 < y.f0 then x.f0 else y.f0) ≤ n ∧ n ≤ (if x.f1 > y.f1 then x.f1 else y.f1)) ↔ ((y.f0 ≤ n ∧ n ≤ y.f1) ∨ (x.f0 ≤ n ∧ n ≤ x.f1))):=by
     split <;> split <;> omega
    simp only [hh,true_and]
    constructor
    ·rintro (h | h | h | h)
     ·exact .inl h
     ·exact .inr (.inl (.inr h))
     ·exact .inr (.inl (.inl h))
     ·exact .inr (.inr h)
    ·rintro (h | (h | h) | h)
     ·exact .inl h
     ·exact .inr (.inr (.inl h))
     ·exact .inr (.inl h)
     ·exact .inr (.inr (.inr h))
def put (s:List S70) (x:S70):List S70:=putL s [] false x
theorem put_ok {s:List S70} {x:S70} (hs:Nrm s) (hx:x.f0 ≤ x.f1):Nrm (put s x) ∧ ∀ n,hasN (put s x) n ↔ hasN s n ∨ (x.f0 ≤ n ∧ n ≤ x.f1):=by
 obtain ⟨h1,h2⟩:=putL_ok s [] false x hs trivial hx (fun _ o ho => by cases ho) (fun o ho => by cases ho) (fun h => by cases h)
 exact ⟨h1,fun n => by rw [put,h2 n];simp [hasN_nil]⟩
def joinL (a b:List S70):List S70:=b.foldl put a
theorem joinL_ok (b:List S70):∀ a:List S70,Nrm a → (∀ x ∈ b,x.f0 ≤ x.f1) → Nrm (joinL a b) ∧ ∀ n,hasN (joinL a b) n ↔ hasN a n ∨ hasN b n:=by
 induction b with
 | nil => intro a ha hb;exact ⟨ha,fun n => by simp [joinL,hasN_nil]⟩
 | cons x b ih =>
  intro a ha hb;obtain ⟨p1,p2⟩:=put_ok ha (hb x List.mem_cons_self);obtain ⟨q1,q2⟩:=ih (put a x) p1 (fun y hy => hb y (List.mem_cons_of_mem _ hy));refine ⟨q1,fun n => ?_⟩;rw [show joinL a (x :: b) = joinL (put a x) b from rfl,q2 n,p2 n,hasN_cons,or_assoc]
def unL:List S70 → List S70 → List S70
 | [],out => out
 | x :: r,out =>
  if h:0 < out.length then
   if x.f0 ≤ (out[out.length - 1]'(by omega)).f1 + 1 then unL r (out.set (out.length - 1) ⟨(out[out.length - 1]'(by omega)).f0,if (out[out.length - 1]'(by omega)).f1 > x.f1 then (out[out.length - 1]'(by omega)).f1 else x.f1⟩)
   else unL r (out ++ [x])
  else unL r (out ++ [x])
theorem snoc_form (l:List S70) (h:0 < l.length):∃ o z,l = o ++ [z]:=by
 have hne:l ≠ []:=by intro e;subst e;simp at h
 exact ⟨l.dropLast,l.getLast hne,(List.dropLast_concat_getLast hne).symm⟩
theorem unL_ok (r:List S70):∀ (out:List S70),Nrm out → List.Pairwise (fun x y => x.f0 ≤ y.f0) r → (∀ x ∈ r,x.f0 ≤ x.f1) → (∀ o z,out = o ++ [z] → ∀ y ∈ r,z.f0 ≤ y.f0) →
  Nrm (unL r out) ∧ ∀ n,hasN (unL r out) n ↔ hasN out n ∨ hasN r n:=by
 induction r with
 | nil => intro out ho hp hr hl;exact ⟨ho,fun n => by simp [unL,hasN_nil]⟩
 | cons x r ih =>
  intro out ho hp hr hl;have hx:=hr x List.mem_cons_self;have ai:=(List.pairwise_cons.1 hp).1;have aj:=(List.pairwise_cons.1 hp).2;simp only [unL]
  by_cases h0:0 < out.length
  ·obtain ⟨o,z,rfl⟩:=snoc_form out h0
   have hz:(o ++ [z])[(o ++ [z]).length - 1]'(by omega) = z:=by simp
   have hset:∀ v,(o ++ [z]).set ((o ++ [z]).length - 1) v = o ++ [v]:=by
    intro v;rw [List.length_append,List.length_singleton,Nat.add_sub_cancel,List.set_append_right _ _ (Nat.le_refl _),Nat.sub_self]
    rfl
   rw [dif_pos h0];simp only [hz,hset];obtain ⟨n1,n2,n3⟩:=(nrm_append o [z]).1 ho;have hzx:=hl o z rfl x List.mem_cons_self;have hzz:=(nrm_one z).1 n2
   by_cases c:x.f0 ≤ z.f1 + 1
   ·rw [if_pos c]
    obtain ⟨e1,e2⟩:=ih (o ++ [⟨z.f0,if z.f1 > x.f1 then z.f1 else x.f1⟩]) ((nrm_append _ _).2 ⟨n1,(nrm_one _).2 (by simp only;split <;> omega),fun a ha b hb => by
      rw [List.mem_singleton.1 hb];exact n3 a ha z (List.mem_singleton.2 rfl)⟩) aj (fun y hy => hr y (List.mem_cons_of_mem _ hy))
     (fun o' z' e y hy => by
      have:=(List.append_inj_right' e rfl);simp only [List.cons.injEq,and_true] at this;subst this;have:=ai y hy;simp only
      omega)
    refine ⟨e1,fun n => ?_⟩;rw [e2 n,hasN_append,hasN_append,hasN_one,hasN_one,hasN_cons]
    have hh:((z.f0 ≤ n ∧ n ≤ (if z.f1 > x.f1 then z.f1 else x.f1)) ↔ ((z.f0 ≤ n ∧ n ≤ z.f1) ∨ (x.f0 ≤ n ∧ n ≤ x.f1))):=by
     split <;> omega
    simp only [hh,or_assoc]
   ·rw [if_neg c]
    obtain ⟨e1,e2⟩:=ih (o ++ [z] ++ [x]) ((nrm_append _ _).2 ⟨ho,(nrm_one x).2 hx,fun a ha b hb => by
      rw [List.mem_singleton.1 hb]
      rcases List.mem_append.1 ha with ha | ha
      ·have:=n3 a ha z (List.mem_singleton.2 rfl);omega
      ·rw [List.mem_singleton.1 ha];omega⟩) aj (fun y hy => hr y (List.mem_cons_of_mem _ hy))
     (fun o' z' e y hy => by
      have:=(List.append_inj_right' e rfl);simp only [List.cons.injEq,and_true] at this;subst this
      exact ai y hy)
    refine ⟨e1,fun n => ?_⟩;rw [e2 n,hasN_append,hasN_one,hasN_cons,or_assoc]
  ·rw [dif_neg h0]
   have:out = []:=by
    cases out with
    | nil => rfl
    | cons a l => simp at h0
   subst this
   obtain ⟨e1,e2⟩:=ih ([] ++ [x]) ((nrm_one x).2 hx) aj (fun y hy => hr y (List.mem_cons_of_mem _ hy))
    (fun o' z' e y hy => by
     have:=(List.append_inj_right' e rfl);simp only [List.cons.injEq,and_true] at this;subst this
     exact ai y hy)
   refine ⟨e1,fun n => ?_⟩;rw [e2 n,hasN_append,hasN_one,hasN_cons,or_assoc]
theorem hasN_perm {s t:List S70} (h:s.Perm t) (n:Int):hasN s n ↔ hasN t n:=⟨fun ⟨x,hx,e⟩ => ⟨x,h.mem_iff.1 hx,e⟩,fun ⟨x,hx,e⟩ => ⟨x,h.mem_iff.2 hx,e⟩⟩
theorem un_join {a b d:List S70} (ha:Nrm a) (hb:∀ x ∈ b,x.f0 ≤ x.f1) (hd:d.Perm (a ++ b)) (hs:List.Pairwise (fun x y => x.f0 ≤ y.f0) d):unL d [] = joinL a b:=by
 obtain ⟨h1,h2⟩:=joinL_ok b a ha hb
 obtain ⟨h3,h4⟩:=unL_ok d [] trivial hs (fun x hx => by
  rcases List.mem_append.1 (hd.mem_iff.1 hx) with h | h
  ·exact ha.le x h
  ·exact hb x h) (fun o z e => by simp at e)
 refine Nrm.uniq _ _ h3 h1 (fun n => ?_)
 rw [h4 n,h2 n,hasN_perm hd,hasN_append]
 simp [hasN_nil]
def Bd (s:List S70):Prop:=∀ x ∈ s,0 ≤ x.f0 ∧ x.f1 ≤ 9999
theorem nrm_iff:∀ s:List S70,Nrm s ↔ ∀ (j:Nat) (hj:j < s.length),s[j].f0 ≤ s[j].f1 ∧ ∀ (hz:0 < j),(s[j - 1]'(by omega)).f1 + 1 < s[j].f0:=by
 intro s
 induction s with
 | nil => exact ⟨fun _ j hj => absurd hj (by simp),fun _ => trivial⟩
 | cons x s ih =>
  constructor
  ·rintro ⟨h1,h2,h3⟩ j hj
   cases j with
   | zero => exact ⟨h1,fun hz => absurd hz (by omega)⟩
   | succ j =>
    have hj':j < s.length:=by simpa using hj
    obtain ⟨g1,g2⟩:=(ih.1 h3) j hj';refine ⟨g1,fun _ => ?_⟩
    cases j with
    | zero => exact h2 _ (List.getElem_mem hj')
    | succ j => exact g2 (by omega)
  ·intro h
   have hs:Nrm s:=ih.2 (fun j hj => by
    obtain ⟨g1,g2⟩:=h (j + 1) (by simpa using hj);refine ⟨g1,fun hz => ?_⟩;have:=g2 (by omega)
    cases j with
    | zero => omega
    | succ j => exact this)
   refine ⟨(h 0 (by simp)).1,fun y hy => ?_,hs⟩
   cases s with
   | nil => cases hy
   | cons z s =>
    have hz:=(h 1 (by simp)).2 (by omega)
    rcases List.mem_cons.1 hy with rfl | hy
    ·exact hz
    ·have h1:=hs.2.1 y hy
     have h2:=hs.1;have hz':x.f1 + 1 < z.f0:=hz
     omega
theorem setOkFrom_iff (s:List S70) (d:Nat):∀ i,i + d = s.length → (setOkFrom s d i = true ↔ ∀ (j:Nat) (hj:j < s.length),i ≤ j → (0 ≤ s[j].f0 ∧ s[j].f0 ≤ 9999) ∧ (s[j].f0 ≤ s[j].f1 ∧ s[j].f1 ≤ 9999) ∧ ∀ (hz:0 < j),¬ s[j].f0 ≤ wrap64 ((s[j - 1]'(by omega)).f1 + 1)):=by
 induction d with
 | zero => intro i hi;exact ⟨fun _ j hj hij => absurd hj (by omega),fun _ => rfl⟩
 | succ d ih =>
  intro i hi
  have hil:i < s.length:=by omega
  unfold setOkFrom;rw [rdI_get hil]
  have key:(∀ (j:Nat) (hj:j < s.length),i ≤ j → (0 ≤ s[j].f0 ∧ s[j].f0 ≤ 9999) ∧ (s[j].f0 ≤ s[j].f1 ∧ s[j].f1 ≤ 9999) ∧ ∀ (hz:0 < j),¬ s[j].f0 ≤ wrap64 ((s[j - 1]'(by omega)).f1 + 1)) ↔ ((0 ≤ s[i].f0 ∧ s[i].f0 ≤ 9999) ∧ (s[i].f0 ≤ s[i].f1 ∧ s[i].f1 ≤ 9999) ∧ ∀ (hz:0 < i),¬ s[i].f0 ≤ wrap64 ((s[i - 1]'(by omega)).f1 + 1)) ∧ setOkFrom s d (i + 1) = true:=by
   rw [ih (i + 1) (by omega)]
   constructor
   ·intro h
    exact ⟨h i hil (Nat.le_refl _),fun j hj hij => h j hj (by omega)⟩
   ·rintro ⟨h1,h2⟩ j hj hij
    by_cases e:i = j
    ·subst e;exact h1
    ·exact h2 j hj (by omega)
  rw [key]
  by_cases h1:0 ≤ s[i].f0 ∧ s[i].f0 ≤ 9999
  ·rw [if_pos h1]
   by_cases h2:s[i].f0 ≤ s[i].f1 ∧ s[i].f1 ≤ 9999
   ·rw [if_pos h2]
    by_cases h3:0 < i
    ·rw [if_pos h3,rdI_get (show i - 1 < s.length by omega)]
     by_cases h4:s[i].f0 ≤ wrap64 ((s[i - 1]'(by omega)).f1 + 1)
     ·rw [if_pos h4]
      exact ⟨fun h => (by cases h),fun h => absurd h4 (h.1.2.2 h3)⟩
     ·rw [if_neg h4]
      exact ⟨fun h => ⟨⟨h1,h2,fun _ => h4⟩,h⟩,fun h => h.2⟩
    ·rw [if_neg h3]
     exact ⟨fun h => ⟨⟨h1,h2,fun hz => absurd hz h3⟩,h⟩,fun h => h.2⟩
   ·rw [if_neg h2]
    exact ⟨fun h => (by cases h),fun h => absurd h.1.2.1 h2⟩
  ·rw [if_neg h1]
   exact ⟨fun h => (by cases h),fun h => absurd h.1.1 h1⟩
theorem setOk_iff (s:List S70):setOk s = true ↔ Nrm s ∧ Bd s:=by
 unfold setOk
 rw [setOkFrom_iff s s.length 0 (by omega),nrm_iff]
 constructor
 ·intro h
  have hb:Bd s:=fun x hx => by
   obtain ⟨j,hj,rfl⟩:=List.getElem_of_mem hx;have:=h j hj (by omega);exact ⟨this.1.1,this.2.1.2⟩
  refine ⟨fun j hj => ⟨(h j hj (by omega)).2.1.1,fun hz => ?_⟩,hb⟩;have h1:=(h j hj (by omega)).2.2 hz;have h2:=h (j - 1) (by omega) (by omega);rw [w64 (by omega) (by omega)] at h1
  omega
 ·rintro ⟨h,hb⟩ j hj _
  have h1:=hb _ (List.getElem_mem hj);have h2:=h j hj;refine ⟨⟨h1.1,by omega⟩,⟨h2.1,h1.2⟩,fun hz => ?_⟩;have h3:=hb _ (List.getElem_mem (show j - 1 < s.length by omega));have h4:=h2.2 hz;have h5:=(h (j - 1) (by omega)).1;rw [w64 (by omega) (by omega)]
  omega
theorem sortA_list (l:List S70):(sortA l).toList.Perm l ∧ List.Pairwise (fun x y => x.f0 ≤ y.f0) (sortA l).toList:=by
 obtain ⟨⟨h1,_,h3⟩,h4⟩:=sortA_ok l
 have e:(sortA l).size = l.toArray.size:=h1
 refine ⟨?_,?_⟩
 ·rw [← e] at h3
  simp only [Array.extract_size] at h3;rw [e] at h3
  simpa using h3
 ·rw [List.pairwise_iff_getElem]
  intro i j hi hj hij
  have hi':i < (sortA l).size:=by simpa using hi
  have hj':j < (sortA l).size:=by simpa using hj
  have:=h4 i j (Nat.zero_le _) hij (by omega);rw [sortCf_lt,getElem!_pos (sortA l) i hi',getElem!_pos (sortA l) j hj'] at this;simp only [decide_eq_false_iff_not] at this;simp only [Array.getElem_toList]
  omega
theorem mx_is (a b:Int):mx a b = if a > b then a else b:=by
 unfold mx
 split <;> split <;> omega
theorem union_at (d:List S70) (hb:∀ x ∈ d,0 ≤ x.f1 ∧ x.f1 ≤ 9999) (hd:d.length ≤ 2097152) (n:Nat):∀ (i:Nat) (out:List S70),i + n = d.length → out.length ≤ i → (∀ o ∈ out,0 ≤ o.f1 ∧ o.f1 ≤ 9999) →
  Ev (fun k => impl_union.l0 k out d (d.length:Int) (i:Int)) (unL (d.drop i) out):=by
 induction n with
 | zero =>
  intro i out hi ho hob;refine Ev.step (fun _ => rfl) ?_;simp only [impl_union.l0];refine ev_neg (by omega) (ev_some ?_);rw [List.drop_of_length_le (by omega)]
  rfl
 | succ n ih =>
  intro i out hi ho hob
  have hil:i < d.length:=by omega
  have hx:=hb _ (List.getElem_mem hil);refine Ev.step (fun _ => rfl) ?_;simp only [impl_union.l0];rw [List.drop_eq_getElem_cons hil,wsucc (by omega),rdI_get hil];refine ev_pos (by omega) (ev_pos (by omega) (ev_pos (by omega) ?_))
  have ap:Ev (fun k => if out.length < 8796093022208 then impl_union.l0 k (out ++ [(⟨d[i].f0,d[i].f1⟩:S70)]) d (d.length:Int) ((i + 1:Nat):Int) else none) (unL (d.drop (i + 1)) (out ++ [d[i]])) :=
   ev_pos (by omega) (ih (i + 1) _ (by omega) (by simp;omega) (fun o h => by
    rcases List.mem_append.1 h with h | h
    ·exact hob o h
    ·rw [List.mem_singleton.1 h];exact hx))
  by_cases h0:0 < out.length
  ·have hz:=hob _ (List.getElem_mem (show out.length - 1 < out.length by omega))
   simp only [unL];rw [dif_pos h0,wpred h0 (by omega),rdI_get (show out.length - 1 < out.length by omega),w64 (x:=(out[out.length - 1]'(by omega)).f1 + 1) (by omega) (by omega),Int.toNat_natCast,mx_is];refine ev_pos (by omega) (ev_pos (by omega) (ev_pos (by omega) ?_))
   by_cases c:d[i].f0 ≤ (out[out.length - 1]'(by omega)).f1 + 1
   ·rw [if_pos c]
    refine ev_pos c (ih (i + 1) _ (by omega) (by simp;omega) (fun o h => ?_))
    rcases List.mem_or_eq_of_mem_set h with h | h
    ·exact hob o h
    ·subst h
     simp only
     split <;> omega
   ·rw [if_neg c]
    exact ev_neg c ap
  ·simp only [unL]
   rw [dif_neg h0];exact ev_neg (by omega) ap
theorem impl_union_ev (l:List S70) (hl:l.length ≤ 2097152) (hb:∀ x ∈ l,0 ≤ x.f1 ∧ x.f1 ≤ 9999):Ev (fun k => impl_union.f k l) (unL (sortA l).toList []):=by
 have hp:=(sortA_list l).1
 have hlen:=hp.length_eq
 unfold impl_union.f
 refine ev_bind0 (a:=l) (by unfold impl_copySet.f;rw [if_pos (by simp;omega),List.nil_append]) ?_
 refine ev_bind0 (a:=(sortA l).toList) (by unfold slices_SortFunc_impl_Span.f;rw [if_pos (by omega)]) ?_
 rw [← hlen]
 have:=union_at (sortA l).toList (fun x hx => hb x (hp.mem_iff.1 hx)) (by omega) (sortA l).toList.length 0 [] (by omega) (by simp) (fun o h => by cases h)
 rw [List.drop_zero] at this
 exact this
theorem union_join {a b:List S70} (ha:Nrm a) (hA:Bd a) (hb:∀ x ∈ b,x.f0 ≤ x.f1) (hB:Bd b) (hl:(a ++ b).length ≤ 2097152):Ev (fun k => impl_union.f k (a ++ b)) (joinL a b):=by
 have h:=impl_union_ev (a ++ b) hl (fun x hx => by
  rcases List.mem_append.1 hx with h | h
  ·have:=hA x h;have:=ha.le x h;omega
  ·have:=hB x h;have:=hb x h;omega)
 rwa [un_join ha hb (sortA_list _).1 (sortA_list _).2] at h
theorem putL_len (r:List S70):∀ (out:List S70) (done:Bool) (x:S70),(putL r out done x).length ≤ out.length + r.length + (if done then 0 else 1):=by
 induction r with
 | nil => intro out done x;unfold putL;cases done <;> simp
 | cons y r ih =>
  intro out done x;unfold putL
  split
  ·have:=ih (out ++ [y]) done x;simp only [List.length_append,List.length_cons,List.length_nil] at this ⊢;omega
  ·split
   ·have:=ih ((if done then out else out ++ [x]) ++ [y]) true x
    cases done <;> simp only [List.length_append,List.length_cons,List.length_nil,if_true,if_false,Bool.false_eq_true] at this ⊢ <;> omega
   ·have:=ih out done ⟨if x.f0 < y.f0 then x.f0 else y.f0,if x.f1 > y.f1 then x.f1 else y.f1⟩;simp only [List.length_cons] at this ⊢;omega
theorem putL_bd (r:List S70):∀ (out:List S70) (done:Bool) (x:S70),Bd r → Bd out → (0 ≤ x.f0 ∧ x.f1 ≤ 9999) → Bd (putL r out done x):=by
 have ap:∀ (l:List S70) (x:S70),Bd l → (0 ≤ x.f0 ∧ x.f1 ≤ 9999) → Bd (l ++ [x]):=fun l x hl hx z hz => by
  rcases List.mem_append.1 hz with h | h
  ·exact hl z h
  ·rw [List.mem_singleton.1 h];exact hx
 induction r with
 | nil =>
  intro out done x _ ho hx;unfold putL
  cases done
  ·exact ap _ _ ho hx
  ·exact ho
 | cons y r ih =>
  intro out done x hr ho hx;have hy:=hr y List.mem_cons_self
  have hr':Bd r:=fun z hz => hr z (List.mem_cons_of_mem _ hz)
  unfold putL
  split
  ·exact ih _ _ _ hr' (ap _ _ ho hy) hx
  ·split
   ·refine ih _ _ _ hr' (ap _ _ ?_ hy) hx
    cases done
    ·exact ap _ _ ho hx
    ·exact ho
   ·refine ih _ _ _ hr' ho ?_
    simp only
    constructor <;> split <;> omega
theorem spec_put_at (s:List S70) (hs:Bd s) (hle:∀ x ∈ s,x.f0 ≤ x.f1) (hn:s.length ≤ 2097152) (d:Nat):∀ (i:Nat) (out:List S70) (done:Bool) (x:S70),i + d = s.length → out.length ≤ 2 * i → (0 ≤ x.f0 ∧ x.f1 ≤ 9999 ∧ x.f0 ≤ x.f1) →
  Ev (fun k => spec_l5Put.l0 k s out done (i:Int) x.f0 x.f1) (putL (s.drop i) out done x):=by
 induction d with
 | zero =>
  intro i out done x hi ho hx;refine Ev.step (fun _ => rfl) ?_;simp only [spec_l5Put.l0];rw [List.drop_of_length_le (by omega)];refine ev_neg (by omega) ?_;unfold putL
  cases done
  ·exact ev_neg (by decide) (ev_pos (by omega) (ev_some rfl))
  ·exact ev_pos rfl (ev_some rfl)
 | succ d ih =>
  intro i out done x hi ho hx
  have hil:i < s.length:=by omega
  have hy:=hs _ (List.getElem_mem hil);have hyl:=hle _ (List.getElem_mem hil);refine Ev.step (fun _ => rfl) ?_;simp only [spec_l5Put.l0];rw [List.drop_eq_getElem_cons hil,wsucc (by omega),rdI_get hil,w64 (x:=s[i].f1 + 1) (by omega) (by omega),w64 (x:=x.f1 + 1) (by omega) (by omega)];unfold putL;refine ev_pos (by omega) (ev_pos (by omega) ?_)
  by_cases c1:s[i].f1 + 1 < x.f0
  ·rw [if_pos c1]
   exact ev_pos c1 (ev_pos (by omega) (ih (i + 1) _ done x (by omega) (by simp;omega) hx))
  ·rw [if_neg c1]
   refine ev_neg c1 ?_
   by_cases c2:x.f1 + 1 < s[i].f0
   ·rw [if_pos c2]
    refine ev_pos (by omega) ?_
    cases done
    ·refine ev_neg (by decide) (ev_pos (by omega) (ev_bind0 rfl (ev_pos (by simp;omega) ?_)))
     exact ih (i + 1) (out ++ [x] ++ [s[i]]) true x (by omega) (by simp;omega) hx
    ·exact ev_pos rfl (ev_pos (by omega) (ih (i + 1) _ true x (by omega) (by simp;omega) hx))
   ·rw [if_neg c2]
    refine ev_neg (by omega) (ev_bind0 (a:=if x.f0 < s[i].f0 then x.f0 else s[i].f0) (by unfold spec_l1Min.f;split <;> rfl) (ev_bind0 (a:=if x.f1 > s[i].f1 then x.f1 else s[i].f1) (by unfold spec_l1Max.f;split <;> rfl) ?_));refine ih (i + 1) out done ⟨if x.f0 < s[i].f0 then x.f0 else s[i].f0,if x.f1 > s[i].f1 then x.f1 else s[i].f1⟩ (by omega) (by omega) ?_;simp only;refine ⟨?_,?_,?_⟩ <;> repeat' split
    all_goals omega
theorem spec_put_ev (s:List S70) (x:S70) (hs:Bd s) (hn:Nrm s) (hl:s.length ≤ 2097152) (hx:0 ≤ x.f0 ∧ x.f1 ≤ 9999 ∧ x.f0 ≤ x.f1):Ev (fun k => spec_l5Put.f k s x.f0 x.f1) (put s x):=by
 unfold spec_l5Put.f put
 have:=spec_put_at s hs hn.le hl s.length 0 [] false x (by omega) (by simp) hx
 rw [List.drop_zero] at this
 exact this
theorem put_len (s:List S70) (x:S70):(put s x).length ≤ s.length + 1:=by
 have:=putL_len s [] false x
 unfold put
 simp at this
 omega
theorem put_bd {s:List S70} {x:S70} (hs:Bd s) (hx:0 ≤ x.f0 ∧ x.f1 ≤ 9999):Bd (put s x):=putL_bd s [] false x hs (fun _ h => by cases h) hx
theorem spec_join_at (b:List S70) (hb:Bd b) (hbl:∀ x ∈ b,x.f0 ≤ x.f1) (hn:b.length ≤ 1048576) (d:Nat):∀ (i:Nat) (a:List S70),i + d = b.length → Bd a → Nrm a → a.length ≤ 1048576 + i →
  Ev (fun k => spec_l5Join.l0 k b a (i:Int)) (joinL a (b.drop i)):=by
 induction d with
 | zero =>
  intro i a hi ha han hal;refine Ev.step (fun _ => rfl) ?_;simp only [spec_l5Join.l0];rw [List.drop_of_length_le (by omega)];exact ev_neg (by omega) (ev_some rfl)
 | succ d ih =>
  intro i a hi ha han hal
  have hil:i < b.length:=by omega
  have hy:=hb _ (List.getElem_mem hil);have hyl:=hbl _ (List.getElem_mem hil);refine Ev.step (fun _ => rfl) ?_;simp only [spec_l5Join.l0];rw [List.drop_eq_getElem_cons hil,wsucc (by omega),rdI_get hil];refine ev_pos (by omega) (ev_pos (by omega) (Ev.bind (spec_put_ev a b[i] ha han (by omega) ⟨hy.1,hy.2,hyl⟩) ?_));have hl:=put_len a b[i];exact ih (i + 1) (put a b[i]) (by omega) (put_bd ha hy) (put_ok han hyl).1 (by omega)
theorem spec_join_ev (a b:List S70) (ha:Bd a) (han:Nrm a) (hal:a.length ≤ 1048576) (hb:Bd b) (hbl:∀ x ∈ b,x.f0 ≤ x.f1) (hn:b.length ≤ 1048576):Ev (fun k => spec_l5Join.f k a b) (joinL a b):=by
 unfold spec_l5Join.f
 refine ev_bind0 (a:=a) (by unfold spec_l5Copy.f;rw [Option.bind_some,if_pos (by simp;omega),List.nil_append]) ?_
 have:=spec_join_at b hb hbl hn b.length 0 a (by omega) ha han (by omega)
 rw [List.drop_zero] at this
 exact this
theorem join_len (b:List S70):∀ a:List S70,(joinL a b).length ≤ a.length + b.length:=by
 induction b with
 | nil => intro a;simp [joinL]
 | cons x b ih =>
  intro a;have h1:=ih (put a x);have h2:=put_len a x;rw [show joinL a (x :: b) = joinL (put a x) b from rfl,List.length_cons]
  omega
theorem join_bd (b:List S70):∀ a:List S70,Bd a → Bd b → Bd (joinL a b):=by
 induction b with
 | nil => intro a ha _;exact ha
 | cons x b ih =>
  intro a ha hb;exact ih (put a x) (put_bd ha (hb x List.mem_cons_self)) (fun y hy => hb y (List.mem_cons_of_mem _ hy))
def joinV (a b:List S70):List S70 × Bool:=if setOk a = true ∧ setOk b = true then (joinL a b,true) else ([],false)
theorem impl_setJoin_ev (a b:List S70) (ha:a.length ≤ 1048576) (hb:b.length ≤ 1048576):Ev (fun k => impl_SetJoin.f k a b) (joinV a b):=by
 unfold impl_SetJoin.f joinV
 have bad:∀ v:Bool,v = true → Ev (fun k => impl_SetJoin.j0 k a b v) (([],false):List S70 × Bool):=fun v hv => by
  refine Ev.step (fun _ => rfl) ?_;simp only [impl_SetJoin.j0];exact ev_pos hv (ev_some rfl)
 refine Ev.bind (impl_setOk_ev a ha) ?_
 by_cases h1:setOk a = true
 ·refine ev_pos h1 (Ev.bind (impl_setOk_ev b hb) ?_)
  by_cases h2:setOk b = true
  ·rw [if_pos ⟨h1,h2⟩,h2]
   obtain ⟨n1,b1⟩:=(setOk_iff a).1 h1;obtain ⟨n2,b2⟩:=(setOk_iff b).1 h2;refine Ev.step (fun _ => rfl) ?_;simp only [impl_SetJoin.j0];refine ev_neg (by decide) (ev_bind0 (a:=a) (by unfold impl_copySet.f;rw [if_pos (by simp;omega),List.nil_append]) (ev_pos (by omega) ?_));exact Ev.bind (union_join n1 b1 n2.le b2 (by rw [List.length_append];omega)) (ev_some rfl)
  ·rw [if_neg (fun h => h2 h.2)]
   exact bad _ (by rw [Bool.not_eq_true] at h2;rw [h2];rfl)
 ·rw [if_neg (fun h => h1 h.1)]
  exact ev_neg h1 (bad true rfl)
noncomputable def entryOk (ke wi:Int) (ids:List S70) (c s mn mx:Int) (h r:List Int) (R:List (List Int)):Bool :=
 decide (0 ≤ ke ∧ ke ≤ 4) && (decide (0 ≤ wi ∧ wi ≤ 20) && (decide ((ids.length:Int) > 0) && (setOk ids && skOk c s mn mx h r R)))
theorem spec_entryOk_ev (ke wi:Int) (ids:List S70) (c s mn mx:Int) (h r:List Int) (R:List (List Int)) (hI:ids.length ≤ 1048576):Ev (fun k => spec_EntryOk.f k ke wi ids c s mn mx h r R) (entryOk ke wi ids c s mn mx h r R):=by
 unfold spec_EntryOk.f entryOk spec_l6Place.f
 rw [l1In_is,l1In_is,Option.bind_some]
 cases decide (0 ≤ ke ∧ ke ≤ 4)
 ·exact ev_bind0 rfl (ev_neg (by simp) (ev_some rfl))
 cases decide (0 ≤ wi ∧ wi ≤ 20)
 ·exact ev_bind0 rfl (ev_neg (by simp) (ev_some rfl))
 refine ev_bind0 rfl (ev_pos rfl ?_)
 by_cases g:(ids.length:Int) > 0
 ·rw [decide_eq_true g]
  refine ev_pos g (Ev.bind (spec_setOk_ev ids hI) ?_)
  cases setOk ids
  ·exact ev_neg (by simp) (ev_some rfl)
  ·exact ev_pos rfl (Ev.bind (spec_sketchOk_ev c s mn mx h r R) (ev_some (by simp)))
 ·rw [decide_eq_false g]
  exact ev_neg g (ev_some rfl)
theorem impl_entryOk_ev (ke wi:Int) (ids:List S70) (c s mn mx:Int) (h r:List Int) (R:List (List Int)) (hI:ids.length ≤ 1048576):Ev (fun k => impl_EntryOk.f k ke wi ids c s mn mx h r R) (entryOk ke wi ids c s mn mx h r R):=by
 unfold impl_EntryOk.f entryOk
 refine ev_bind0 (within_is _ _ _) ?_
 cases decide (0 ≤ ke ∧ ke ≤ 4)
 ·exact ev_neg (by simp) (ev_some rfl)
 refine ev_pos rfl (ev_bind0 (within_is _ _ _) ?_)
 cases decide (0 ≤ wi ∧ wi ≤ 20)
 ·exact ev_neg (by simp) (ev_some rfl)
 refine ev_pos rfl (Ev.bind (impl_setOk_ev ids hI) ?_)
 cases setOk ids
 ·exact ev_neg (by simp) (ev_some (by simp))
 refine ev_pos rfl ?_
 by_cases g:(ids.length:Int) > 0
 ·rw [decide_eq_true g]
  exact ev_pos g (Ev.bind (impl_sketchOk_ev c s mn mx h r R) (ev_some (by simp)))
 ·rw [decide_eq_false g]
  exact ev_neg g (ev_some rfl)
def cpos:List Int → Nat
 | [] => 0
 | x :: xs => (if x > 0 then 1 else 0) + cpos xs
theorem cpos_cons (x:Int) (xs:List Int):cpos (x :: xs) = (if x > 0 then 1 else 0) + cpos xs:=rfl
theorem cpos_le (xs:List Int):cpos xs ≤ xs.length:=by
 induction xs with
 | nil => exact Nat.le_refl _
 | cons x xs ih =>
  unfold cpos;rw [List.length_cons]
  split <;> omega
theorem cpos_append (xs ys:List Int):cpos (xs ++ ys) = cpos xs + cpos ys:=by
 induction xs with
 | nil => simp [cpos]
 | cons x xs ih =>
  rw [List.cons_append,cpos_cons,cpos_cons,ih]
  omega
noncomputable def entrySizeV (ke wi:Int) (ids:List S70) (c s mn mx:Int) (h r:List Int) (R:List (List Int)):Int :=
 if entryOk ke wi ids c s mn mx h r R = true then ((4 + 2 * ids.length + cpos h + cpos r + cpos (rd_L3 R 0) + cpos (rd_L3 R 1):Nat):Int) else 0
theorem impl_esize_at (xs:List Int) (m:Nat) (hm:m ≤ 4194304) (hl:xs.length ≤ 100) (d:Nat):∀ i n:Nat,i + d = xs.length → n ≤ m + i → Ev (fun k => impl_EntrySize.l0 k (n:Int) xs (xs.length:Int) (i:Int)) ((n + cpos (xs.drop i):Nat):Int):=by
 induction d with
 | zero =>
  intro i n hi hn;refine Ev.step (fun _ => rfl) ?_;simp only [impl_EntrySize.l0];refine ev_neg (by omega) (ev_some ?_);rw [List.drop_of_length_le (by omega)]
  rfl
 | succ d ih =>
  intro i n hi hn
  have hg:i < xs.length:=by omega
  refine Ev.step (fun _ => rfl) ?_;simp only [impl_EntrySize.l0];rw [wsucc (i:=i) (by omega),wsucc (i:=n) (by omega),rd_get hg,List.drop_eq_getElem_cons hg];refine ev_pos (by omega) (ev_pos (by omega) (ev_pos (by omega) ?_));unfold cpos
  by_cases g:xs[i] > 0
  ·rw [if_pos g]
   refine ev_pos g ?_;rw [show n + (1 + cpos (xs.drop (i + 1))) = n + 1 + cpos (xs.drop (i + 1)) by omega];exact ih (i + 1) (n + 1) (by omega) (by omega)
  ·rw [if_neg g,Nat.zero_add]
   exact ev_neg g (ih (i + 1) n (by omega) (by omega))
theorem entryOk_sk {ke wi:Int} {ids:List S70} {c s mn mx:Int} {h r:List Int} {R:List (List Int)} (g:entryOk ke wi ids c s mn mx h r R = true):SkOk c s mn mx h r R:=by
 unfold entryOk at g
 simp only [Bool.and_eq_true] at g
 exact skOk_true.1 g.2.2.2.2
theorem impl_entrySize_ev (ke wi:Int) (ids:List S70) (c s mn mx:Int) (h r:List Int) (R:List (List Int)) (hI:ids.length ≤ 1048576):Ev (fun k => impl_EntrySize.f k ke wi ids c s mn mx h r R) (entrySizeV ke wi ids c s mn mx h r R):=by
 unfold impl_EntrySize.f entrySizeV
 refine Ev.bind (impl_entryOk_ev ke wi ids c s mn mx h r R hI) (ev_if (fun g => ?_) (fun g => ev_some (by rw [if_neg g])))
 rw [if_pos g]
 have ok:=entryOk_sk g
 have l1:=ok.2.2.2.2.2.2.2.1.1
 have l2:=ok.2.2.2.2.2.2.2.2.1.1
 have l3:=ok.2.2.2.2.2.2.2.2.2.1.1
 have l4:=ok.2.2.2.2.2.2.2.2.2.2.1
 obtain ⟨A,B,rfl⟩:∃ A B,R = [A,B]:=by
  match R,ok.2.2.2.2.2.1 with
  | [A,B],_ => exact ⟨A,B,rfl⟩
 have eA:rd_L3 [A,B] 0 = A:=rfl
 have eB:rd_L3 [A,B] 1 = B:=rfl
 rw [eA] at l3
 rw [eB] at l4
 rw [eA,eB]
 refine Ev.bind (counts_ev c s mn mx h r A B (by omega) (by omega) (by omega) (by omega)) ?_
 have e:wrap64 (4 + wrap64 (2 * (ids.length:Int))) = ((4 + 2 * ids.length:Nat):Int):=by
  rw [w64 (x:=2 * (ids.length:Int)) (by omega) (by omega),w64 (by omega) (by omega)]
  omega
 rw [e]
 clear e
 have hl:(((h ++ r) ++ A) ++ B).length ≤ 100:=by
  simp only [List.length_append]
  omega
 have:=impl_esize_at (((h ++ r) ++ A) ++ B) (4 + 2 * ids.length) (by omega) hl (((h ++ r) ++ A) ++ B).length 0 (4 + 2 * ids.length) (by omega) (by omega)
 rw [List.drop_zero,cpos_append,cpos_append,cpos_append] at this
 rw [show 4 + 2 * ids.length + cpos h + cpos r + cpos A + cpos B = 4 + 2 * ids.length + (cpos h + cpos r + cpos A + cpos B) by omega]
 exact this
def sizeFrom (s:List S70):Nat → Nat → Int → Int
 | 0,_,n => n
 | d + 1,i,n => sizeFrom s d (i + 1) (wrap64 (n + (rd_T70 s (i:Int)).f1 - (rd_T70 s (i:Int)).f0 + 1))
def setSize (s:List S70):Int:=if setOk s = true then sizeFrom s s.length 0 0 else 0
theorem impl_size_at (s:List S70) (hn:s.length ≤ 1048576) (d:Nat):∀ (i:Nat) (n:Int),i + d = s.length → Ev (fun k => impl_SetSize.l0 k n s (s.length:Int) (i:Int)) (sizeFrom s d i n):=by
 induction d with
 | zero =>
  intro i n hi;refine Ev.step (fun _ => rfl) ?_;simp only [impl_SetSize.l0];exact ev_neg (by omega) (ev_some rfl)
 | succ d ih =>
  intro i n hi;refine Ev.step (fun _ => rfl) ?_;simp only [impl_SetSize.l0];refine ev_pos (by omega) (ev_pos (by omega) (ev_pos (by omega) ?_));rw [wsucc (by omega)]
  have e:wrap64 (n + wrap64 (wrap64 ((rd_T70 s (i:Int)).f1 - (rd_T70 s (i:Int)).f0) + 1)) = wrap64 (n + (rd_T70 s (i:Int)).f1 - (rd_T70 s (i:Int)).f0 + 1):=by
   unfold wrap64
   omega
  rw [e];exact ih (i + 1) _ (by omega)
theorem impl_setSize_ev (s:List S70) (hn:s.length ≤ 1048576):Ev (fun k => impl_SetSize.f k s) (setSize s):=by
 unfold impl_SetSize.f setSize
 refine Ev.bind (impl_setOk_ev s hn) ?_
 by_cases h:setOk s = true
 ·rw [if_pos h]
  exact ev_pos h (impl_size_at s hn s.length 0 0 (by omega))
 ·rw [if_neg h]
  exact ev_neg h (ev_some rfl)
def hasSp (n:Int) (x:S70):Bool:=decide (x.f0 ≤ n) && decide (n ≤ x.f1)
def hasB (s:List S70) (n:Nat):Bool:=s.any (hasSp (n:Int))
theorem any_has (s:List S70) (n:Int):s.any (hasSp n) = true ↔ hasN s n:=by
 unfold hasN hasSp
 rw [List.any_eq_true]
 constructor
 ·rintro ⟨x,hx,h⟩
  rw [Bool.and_eq_true,decide_eq_true_iff,decide_eq_true_iff] at h;exact ⟨x,hx,h⟩
 ·rintro ⟨x,hx,h⟩
  exact ⟨x,hx,by rw [Bool.and_eq_true,decide_eq_true_iff,decide_eq_true_iff];exact h⟩
theorem hasB_iff (s:List S70) (n:Nat):hasB s n = true ↔ hasN s (n:Int):=any_has s n
def card (p:Nat → Bool):Nat:=(List.range 10000).countP p
theorem countP_both (p q:Nat → Bool) (l:List Nat):l.countP (fun k => p k || q k) + l.countP (fun k => p k && q k) = l.countP p + l.countP q:=by
 induction l with
 | nil => rfl
 | cons x l ih =>
  simp only [List.countP_cons]
  cases p x <;> cases q x <;> simp <;> omega
theorem countP_same (p q:Nat → Bool) (l:List Nat) (h:∀ k ∈ l,p k = q k):l.countP p = l.countP q:=by
 induction l with
 | nil => rfl
 | cons x l ih => rw [List.countP_cons,List.countP_cons,ih (fun k hk => h k (List.mem_cons_of_mem _ hk)),h x List.mem_cons_self]
theorem countP_span (a b:Nat) (N:Nat):(List.range N).countP (fun k => decide (a ≤ k) && decide (k ≤ b)) = min N (b + 1) - min N a:=by
 induction N with
 | zero => simp
 | succ N ih =>
  rw [List.range_succ,List.countP_append,ih,List.countP_cons,List.countP_nil]
  by_cases h1:a ≤ N <;> by_cases h2:N ≤ b <;> simp [h1,h2] <;> omega
theorem card_one (a b:Nat) (hab:a ≤ b) (hb:b ≤ 9999):card (fun k => decide (a ≤ k) && decide (k ≤ b)) = b + 1 - a:=by
 unfold card
 rw [countP_span]
 omega
def sumW:List S70 → Int
 | [] => 0
 | x :: s => (x.f1 - x.f0 + 1) + sumW s
theorem sumW_card (s:List S70) (hs:Nrm s) (hb:Bd s):sumW s = ((card (hasB s):Nat):Int):=by
 induction s with
 | nil =>
  have:card (hasB []) = 0:=by
   unfold card;rw [List.countP_eq_zero];intro k _
   simp [hasB]
  rw [this]
  rfl
 | cons x s ih =>
  have hx:=hb x List.mem_cons_self;have hle:=hs.1;obtain ⟨a,ha⟩:=Int.eq_ofNat_of_zero_le hx.1;obtain ⟨b,hbb⟩:=Int.eq_ofNat_of_zero_le (show 0 ≤ x.f1 by omega);have e1:=card_one a b (by omega) (by omega)
  have hone:∀ k:Nat,hasSp (k:Int) x = (decide (a ≤ k) && decide (k ≤ b)):=by
   intro k;unfold hasSp;rw [ha,hbb,Bool.eq_iff_iff,Bool.and_eq_true,Bool.and_eq_true,decide_eq_true_iff,decide_eq_true_iff,decide_eq_true_iff,decide_eq_true_iff]
   omega
  have e2:=countP_both (fun k => decide (a ≤ k) && decide (k ≤ b)) (hasB s) (List.range 10000)
  have e3:(List.range 10000).countP (fun k => (decide (a ≤ k) && decide (k ≤ b)) && hasB s k) = 0:=by
   rw [List.countP_eq_zero];intro k _ h;rw [Bool.and_eq_true] at h;have h1:=hone k;rw [h.1] at h1;unfold hasSp at h1;rw [Bool.and_eq_true,decide_eq_true_iff,decide_eq_true_iff] at h1;have:=hs.tail_gt ((hasB_iff s k).1 h.2)
   omega
  have e4:card (hasB (x :: s)) = (List.range 10000).countP (fun k => (decide (a ≤ k) && decide (k ≤ b)) || hasB s k) :=
   countP_same _ _ _ (fun k _ => by show (x :: s).any _ = _;rw [List.any_cons,hone k];rfl)
  have e5:=ih hs.2.2 (fun y hy => hb y (List.mem_cons_of_mem _ hy));unfold sumW;unfold card at e1 e4 e5 ⊢
  omega
theorem sizeFrom_sum (s:List S70) (hn:s.length ≤ 2097152) (hs:Nrm s) (hb:Bd s) (d:Nat):∀ (i:Nat) (n:Int),i + d = s.length → 0 ≤ n → n ≤ 10000 * (i:Int) → sizeFrom s d i n = n + sumW (s.drop i):=by
 induction d with
 | zero =>
  intro i n hi h0 h1;rw [List.drop_of_length_le (by omega)];unfold sizeFrom sumW
  omega
 | succ d ih =>
  intro i n hi h0 h1
  have hil:i < s.length:=by omega
  have hx:=hb _ (List.getElem_mem hil);have hle:=hs.le _ (List.getElem_mem hil);rw [List.drop_eq_getElem_cons hil];unfold sizeFrom sumW;rw [rdI_get hil,w64 (x:=n + s[i].f1 - s[i].f0 + 1) (by omega) (by omega),ih (i + 1) _ (by omega) (by omega) (by omega)]
  omega
theorem setSize_is (s:List S70) (hn:s.length ≤ 2097152) (hs:Nrm s) (hb:Bd s):setSize s = ((card (hasB s):Nat):Int):=by
 unfold setSize
 rw [if_pos ((setOk_iff s).2 ⟨hs,hb⟩),sizeFrom_sum s hn hs hb s.length 0 0 (by omega) (by omega) (by omega),List.drop_zero,sumW_card s hs hb]
 omega
theorem card_le (p:Nat → Bool):card p ≤ 10000:=by
 have:=List.countP_le_length (p:=p) (l:=List.range 10000)
 rw [List.length_range] at this
 exact this
theorem apart1_iff (x:S70) (b:List S70) (d:Nat):∀ j,j + d = b.length → (apart1 x b d j = true ↔ ∀ y ∈ b.drop j,¬ (x.f0 ≤ y.f1 ∧ y.f0 ≤ x.f1)):=by
 induction d with
 | zero =>
  intro j hj;rw [List.drop_of_length_le (by omega)];exact ⟨fun _ y hy => (by cases hy),fun _ => rfl⟩
 | succ d ih =>
  intro j hj
  have hjl:j < b.length:=by omega
  rw [List.drop_eq_getElem_cons hjl];unfold apart1;rw [rdI_get hjl];have h2:=ih (j + 1) (by omega)
  by_cases c:x.f0 ≤ b[j].f1
  ·rw [if_pos c]
   by_cases e:b[j].f0 ≤ x.f1
   ·rw [if_pos e]
    exact ⟨fun h => (by cases h),fun h => absurd ⟨c,e⟩ (h _ List.mem_cons_self)⟩
   ·rw [if_neg e,h2]
    refine ⟨fun h y hy => ?_,fun h y hy => h y (List.mem_cons_of_mem _ hy)⟩
    rcases List.mem_cons.1 hy with rfl | hy
    ·exact fun g => e g.2
    ·exact h y hy
  ·rw [if_neg c,h2]
   refine ⟨fun h y hy => ?_,fun h y hy => h y (List.mem_cons_of_mem _ hy)⟩
   rcases List.mem_cons.1 hy with rfl | hy
   ·exact fun g => c g.1
   ·exact h y hy
theorem apartFrom_iff (a b:List S70) (d:Nat):∀ i,i + d = a.length → (apartFrom a b d i = true ↔ ∀ x ∈ a.drop i,∀ y ∈ b,¬ (x.f0 ≤ y.f1 ∧ y.f0 ≤ x.f1)):=by
 induction d with
 | zero =>
  intro i hi;rw [List.drop_of_length_le (by omega)];exact ⟨fun _ y hy => (by cases hy),fun _ => rfl⟩
 | succ d ih =>
  intro i hi
  have hil:i < a.length:=by omega
  rw [List.drop_eq_getElem_cons hil];unfold apartFrom;rw [rdI_get hil,Bool.and_eq_true,apart1_iff _ b b.length 0 (by omega),ih (i + 1) (by omega),List.drop_zero];refine ⟨fun h x hx => ?_,fun h => ⟨h _ List.mem_cons_self,fun x hx => h x (List.mem_cons_of_mem _ hx)⟩⟩
  rcases List.mem_cons.1 hx with rfl | hx
  ·exact h.1
  ·exact h.2 x hx
theorem setApart_iff {a b:List S70} (ha:Nrm a) (hA:Bd a) (hb:Nrm b) (hB:Bd b):setApart a b = true ↔ card (fun k => hasB a k && hasB b k) = 0:=by
 unfold setApart
 rw [(setOk_iff a).2 ⟨ha,hA⟩,(setOk_iff b).2 ⟨hb,hB⟩,Bool.true_and,Bool.true_and,apartFrom_iff a b a.length 0 (by omega),List.drop_zero]
 unfold card
 rw [List.countP_eq_zero]
 constructor
 ·intro h k _ hk
  rw [Bool.and_eq_true,hasB_iff,hasB_iff] at hk;obtain ⟨⟨x,hx,x1,x2⟩,⟨y,hy,y1,y2⟩⟩:=hk;exact h x hx y hy ⟨by omega,by omega⟩
 ·rintro h x hx y hy ⟨g1,g2⟩
  have hxb:=hA x hx;have hyb:=hB y hy;have hxl:=ha.le x hx;have hyl:=hb.le y hy;obtain ⟨m,hm⟩:=Int.eq_ofNat_of_zero_le (show 0 ≤ (if x.f0 ≤ y.f0 then y.f0 else x.f0) by split <;> omega)
  have an:m ∈ List.range 10000:=by
   rw [List.mem_range]
   split at hm <;> omega
  refine h m an ?_;rw [Bool.and_eq_true,hasB_iff,hasB_iff];refine ⟨⟨x,hx,?_,?_⟩,⟨y,hy,?_,?_⟩⟩ <;> (split at hm <;> omega)
theorem card_join {a b:List S70} (ha:Nrm a) (hb:Nrm b):card (hasB (joinL a b)) + card (fun k => hasB a k && hasB b k) = card (hasB a) + card (hasB b):=by
 have e:=countP_both (hasB a) (hasB b) (List.range 10000)
 have e2:card (hasB (joinL a b)) = (List.range 10000).countP (fun k => hasB a k || hasB b k):=countP_same _ _ _ (fun k _ => by
  rw [Bool.eq_iff_iff,hasB_iff,Bool.or_eq_true,hasB_iff,hasB_iff]
  exact (joinL_ok b a ha hb.le).2 k)
 unfold card at e2 ⊢
 omega
theorem joinL_comm {a b:List S70} (ha:Nrm a) (hb:Nrm b):joinL a b = joinL b a:=by
 obtain ⟨h1,h2⟩:=joinL_ok b a ha hb.le
 obtain ⟨h3,h4⟩:=joinL_ok a b hb ha.le
 exact Nrm.uniq _ _ h1 h3 (fun n => by rw [h2 n,h4 n,or_comm])
def clipV (a:Int):Nat:=if a ≤ 0 then 0 else if a ≤ 1000000 then a.toNat else 1000000
theorem clipV_le (a:Int):clipV a ≤ 1000000:=by
 unfold clipV
 split
 ·omega
 ·split <;> omega
def bl:Nat → Nat → Nat
 | 0,_ => 0
 | d + 1,x => if x = 0 then 0 else bl d (x / 2) + 1
theorem bl_le (d x:Nat):bl d x ≤ d:=by
 induction d generalizing x with
 | zero => exact Nat.le_refl _
 | succ d ih =>
  unfold bl
  split
  ·omega
  ·have:=ih (x / 2)
   omega
def bucketOf (a:Int):Int:=(((bl 20 (clipV a) + 2) / 3:Nat):Int)
theorem third (q:Nat) (h:q ≤ 20):wrap64 (Int.tdiv (wrap64 ((q:Int) + 2)) 3) = (((q + 2) / 3:Nat):Int):=by
 rw [w64 (x:=(q:Int) + 2) (by omega) (by omega),Int.tdiv_eq_ediv_of_nonneg (by omega),w64 (by omega) (by omega)]
 omega
theorem spec_clip_is (a:Int):spec_l2Clip.f a 1000000 = some ((clipV a:Nat):Int):=by
 unfold spec_l2Clip.f spec_l1Min.f spec_l1Max.f clipV
 by_cases h:a < 1000000
 ·rw [if_pos h]
  simp only [Option.bind_some]
  by_cases h2:a ≤ 0
  ·rw [if_pos h2]
   by_cases h3:0 > a
   ·rw [if_pos h3]
    rfl
   ·rw [if_neg h3]
    simp only [Option.bind_some,Option.some.injEq]
    omega
  ·rw [if_neg (by omega),if_neg h2,if_pos (by omega)]
   simp only [Option.bind_some,Option.some.injEq]
   omega
 ·rw [if_neg h]
  simp only [Option.bind_some];rw [if_neg (by omega),if_neg (by omega:¬ a ≤ 0)]
  by_cases h2:a ≤ 1000000
  ·rw [if_pos h2]
   simp only [Option.bind_some,Option.some.injEq]
   omega
  ·rw [if_neg h2]
   rfl
theorem spec_bucket_at (d:Nat):∀ (x n:Nat),x < 2 ^ d → n + d ≤ 20 → Ev (fun k => spec_BucketOf.l0 k (x:Int) (n:Int)) (((n + bl d x + 2) / 3:Nat):Int):=by
 induction d with
 | zero =>
  intro x n hx hn
  obtain rfl:x = 0:=by omega
  refine Ev.step (fun _ => rfl) ?_;simp only [spec_BucketOf.l0];exact ev_neg (by omega) (ev_some (third n (by omega)))
 | succ d ih =>
  intro x n hx hn;refine Ev.step (fun _ => rfl) ?_;simp only [spec_BucketOf.l0];unfold bl
  by_cases h0:x = 0
  ·rw [if_pos h0]
   exact ev_neg (by omega) (ev_some (third n (by omega)))
  ·rw [if_neg h0]
   refine ev_pos (by omega) ?_
   have e:wrap64 (Int.tdiv (x:Int) 2) = ((x / 2:Nat):Int):=by
    have:x < 2 ^ 20:=Nat.lt_of_lt_of_le hx (Nat.pow_le_pow_right (by omega) (by omega));rw [Int.tdiv_eq_ediv_of_nonneg (by omega),w64 (by omega) (by omega)]
    omega
   rw [e,wsucc (by omega)];rw [Nat.pow_succ] at hx;have:=ih (x / 2) (n + 1) (by omega) (by omega);rw [show n + (bl d (x / 2) + 1) + 2 = n + 1 + bl d (x / 2) + 2 by omega];exact this
theorem spec_bucketOf_ev (a:Int):Ev (fun k => spec_BucketOf.f k a) (bucketOf a):=by
 unfold spec_BucketOf.f bucketOf
 refine ev_bind0 (spec_clip_is a) ?_
 have:=clipV_le a
 have h:=spec_bucket_at 20 (clipV a) 0 (by omega) (by omega)
 rw [Nat.zero_add] at h
 exact h
def mixN (a:Int):Nat:=(clipV a * 40503 + 12345) % 65536 ^^^ (clipV a * 40503 + 12345) % 65536 / 256
theorem mixN_lt (a:Int):mixN a < 65536:=by
 unfold mixN
 have h1:(clipV a * 40503 + 12345) % 65536 < 2 ^ 16:=by omega
 have:=Nat.xor_lt_two_pow (n:=16) h1 (show (clipV a * 40503 + 12345) % 65536 / 256 < 2 ^ 16 by omega)
 omega
theorem mix_val (a:Int):Go.bits .xor .i64 (Int.tmod (wrap64 (wrap64 (((clipV a:Nat):Int) * 40503) + 12345)) 65536) (wrap64 (Int.tdiv (Int.tmod (wrap64 (wrap64 (((clipV a:Nat):Int) * 40503) + 12345)) 65536) 256)) = ((mixN a:Nat):Int):=by
 have hc:=clipV_le a
 have e:Int.tmod (wrap64 (wrap64 (((clipV a:Nat):Int) * 40503) + 12345)) 65536 = (((clipV a * 40503 + 12345) % 65536:Nat):Int):=by
  rw [w64 (x:=((clipV a:Nat):Int) * 40503) (by omega) (by omega),w64 (by omega) (by omega),Int.tmod_eq_emod_of_nonneg (by omega)]
  omega
 rw [e]
 clear e
 have e2:wrap64 (Int.tdiv (((clipV a * 40503 + 12345) % 65536:Nat):Int) 256) = (((clipV a * 40503 + 12345) % 65536 / 256:Nat):Int):=by
  rw [Int.tdiv_eq_ediv_of_nonneg (by omega),w64 (by omega) (by omega)]
  omega
 rw [e2]
 clear e2
 exact xor64 _ _ (by omega) (by omega)
theorem spec_mix_is (a:Int):spec_Mix.f a = some ((mixN a:Nat):Int):=by
 unfold spec_Mix.f
 rw [spec_clip_is,Option.bind_some,mix_val]
def rankV (n:Int):Int:=if mixN n = 0 then 17 else ((Lib.ctz 64 (mixN n):Nat):Int) + 1
theorem spec_rank_at (m:Nat):∀ (j:Nat) (r:Int),2 ^ j * (2 * m + 1) < 65536 → 0 ≤ r → r + j ≤ 1000 → Ev (fun k => spec_RankOf.l0 k ((2 ^ j * (2 * m + 1):Nat):Int) r) (r + (j:Int)):=by
 intro j
 induction j with
 | zero =>
  intro r hx h0 h1;refine Ev.step (fun _ => rfl) ?_;simp only [spec_RankOf.l0];refine ev_neg ?_ (ev_some (by omega));rw [Int.tmod_eq_emod_of_nonneg (by omega)]
  omega
 | succ j ih =>
  intro r hx h0 h1
  have e:2 ^ (j + 1) * (2 * m + 1) = 2 * (2 ^ j * (2 * m + 1)):=by rw [Nat.pow_succ];simp [Nat.mul_comm,Nat.mul_left_comm]
  rw [e] at hx ⊢;have ih':=ih (r + 1) (by omega) (by omega) (by omega);generalize 2 ^ j * (2 * m + 1) = y at hx ih';refine Ev.step (fun _ => rfl) ?_;simp only [spec_RankOf.l0];refine ev_pos ?_ ?_
  ·rw [Int.tmod_eq_emod_of_nonneg (by omega)]
   omega
  ·rw [Int.tdiv_eq_ediv_of_nonneg (by omega),w64 (x:=((2 * y:Nat):Int) / 2) (by omega) (by omega),w64 (x:=r + 1) (by omega) (by omega),show ((2 * y:Nat):Int) / 2 = (y:Int) by omega,show r + ((j + 1:Nat):Int) = r + 1 + (j:Int) by omega]
   exact ih'
theorem rank_lt (n:Int) (h:mixN n ≠ 0):∃ m,mixN n = 2 ^ Lib.ctz 64 (mixN n) * (2 * m + 1) ∧ Lib.ctz 64 (mixN n) < 64:=by
 have h2:=mixN_lt n
 have:=Lib.ctzFrom_spec 64 (mixN n) (by omega) (by omega)
 unfold Lib.ctz
 rw [if_neg h]
 exact this
theorem spec_rank_ev (n:Int):Ev (fun k => spec_RankOf.f k n) (rankV n):=by
 unfold spec_RankOf.f rankV
 refine ev_bind0 (spec_mix_is n) ?_
 by_cases h:mixN n = 0
 ·rw [if_pos h]
  exact ev_pos (by omega) (ev_some rfl)
 ·rw [if_neg h]
  refine ev_neg (by omega) ?_;obtain ⟨m,hm,hk⟩:=rank_lt n h;have hl:=mixN_lt n;have e:=spec_rank_at m (Lib.ctz 64 (mixN n)) 1 (by rw [← hm];exact hl) (by omega) (by omega);rw [← hm] at e;rw [Int.add_comm];exact e
def bkN (v:Int):Nat:=(bl 20 (clipV v) + 2) / 3
theorem bucketOf_is (v:Int):bucketOf v = ((bkN v:Nat):Int):=rfl
theorem bkN_lt (v:Int):bkN v < 8:=by
 have:=bl_le 20 (clipV v)
 unfold bkN
 omega
theorem rankV_range (v:Int):1 ≤ rankV v ∧ rankV v ≤ 17:=by
 unfold rankV
 by_cases h:mixN v = 0
 ·rw [if_pos h];omega
 ·rw [if_neg h]
  obtain ⟨m,hm,hk⟩:=rank_lt v h;have hl:=mixN_lt v
  have hp:Lib.ctz 64 (mixN v) < 16:=by
   rcases Nat.lt_or_ge (Lib.ctz 64 (mixN v)) 16 with h' | h'
   ·exact h'
   ·have h2:2 ^ 16 ≤ 2 ^ Lib.ctz 64 (mixN v):=Nat.pow_le_pow_right (by omega) h'
    have h3:2 ^ Lib.ctz 64 (mixN v) * 1 ≤ 2 ^ Lib.ctz 64 (mixN v) * (2 * m + 1):=Nat.mul_le_mul_left _ (by omega)
    omega
  omega
theorem spec_add_is {a b:Int} (ha:0 ≤ a ∧ a ≤ 1000000000) (hb:0 ≤ b ∧ b ≤ 1000000000):spec_Add.f a b = some (sadd a b):=by
 have c:∀ x:Int,0 ≤ x ∧ x ≤ 1000000000 → spec_l2Clip.f x 1000000000 = some x:=by
  intro x hx;unfold spec_l2Clip.f spec_l1Min.f spec_l1Max.f
  by_cases h:x < 1000000000
  ·simp only [if_pos h,Option.bind_some]
   split
   ·congr 1;omega
   ·rfl
  ·simp only [if_neg h,Option.bind_some]
   rw [if_neg (by omega),show x = 1000000000 by omega]
   rfl
 unfold spec_Add.f spec_l1Min.f
 rw [c a ha,c b hb,Option.bind_some,Option.bind_some,w64 (x:=a + b) (by omega) (by omega)]
 unfold sadd
 by_cases h:a + b < 1000000000
 ·rw [if_pos h,if_neg (by omega)]
  rfl
 ·rw [if_neg h]
  split
  ·rfl
  ·simp only [Option.bind_some]
   congr 1
   omega
theorem spec_copy_at (c s lo hi:Int) (h r:List Int) (R:List (List Int)) (hR:R.length ≤ 1048576) (hx:∀ x ∈ R,x.length ≤ 1048576) (d:Nat):∀ i:Nat,i + d = R.length →
  Ev (fun k => spec_l3Copy.l0 k (i:Int) c s lo hi h r R c s lo hi h r (R.take i)) (c,s,lo,hi,h,r,R):=by
 induction d with
 | zero =>
  intro i hi';refine Ev.step (fun _ => rfl) ?_;simp only [spec_l3Copy.l0];exact ev_neg (by omega) (ev_some (by rw [show i = R.length by omega,List.take_length]))
 | succ d ih =>
  intro i hi';refine Ev.step (fun _ => rfl) ?_;simp only [spec_l3Copy.l0]
  have hiR:i < R.length:=by omega
  have hl:=hx _ (List.getElem_mem hiR);rw [wsucc (by omega),rdR_get hiR];simp only [Option.bind_some];refine ev_pos (by omega) (ev_pos (by omega) (ev_pos (by simp;omega) (ev_pos (by simp;omega) ?_)));rw [List.nil_append,← List.take_succ_eq_append_getElem hiR];exact ih (i + 1) (by omega)
theorem spec_copy_ev (c s lo hi:Int) (h r:List Int) (R:List (List Int)) (hh:h.length ≤ 1048576) (hr:r.length ≤ 1048576) (hR:R.length ≤ 1048576) (hx:∀ x ∈ R,x.length ≤ 1048576) :
  Ev (fun k => spec_l3Copy.f k c s lo hi h r R) (c,s,lo,hi,h,r,R):=by
 unfold spec_l3Copy.f
 simp only [Option.bind_some]
 refine ev_pos (by simp;omega) (ev_pos (by simp;omega) ?_)
 have:=spec_copy_at c s lo hi h r R hR hx R.length 0 (by omega)
 simpa using this
theorem two_rows {R:List (List Int)} (h:R.length = 2):∃ p q,R = [p,q]:=by
 match R,h with
 | [p,q],_ => exact ⟨p,q,rfl⟩
theorem skOk_su {c s lo hi:Int} {h r p q:List Int} (ok:SkOk c s lo hi h r [p,q]):Su.Ok ⟨c,s,lo,hi,h,r,p,q⟩:=by
 obtain ⟨h1,h2,h3,h4,h5,h6,h7,h8,h9,ao,aq⟩:=ok
 exact ⟨h1,h2,h3,h4,h5,h7,h8,h9,ao,aq⟩
theorem su_skOk {u:Su} (ok:u.Ok):SkOk u.c u.s u.mn u.mx u.h u.r [u.p,u.q]:=⟨ok.hc,ok.hs,ok.hmn,ok.hmx,ok.hle,rfl,ok.hz,ok.hh,ok.hr,ok.hp,ok.hq⟩
theorem lok_getD {xs:List Int} {n:Nat} {most:Int} {z:Prop} (h:LOk xs n most z) {i:Nat} (hi:i < n):0 ≤ xs.getD i 0 ∧ xs.getD i 0 ≤ most:=by
 have h1:i < xs.length:=by rw [h.1];exact hi
 rw [List.getD_eq_getElem?_getD,List.getElem?_eq_getElem h1]
 exact (h.2 _ (List.getElem_mem h1)).1
def suPut (u:Su) (v:Int):Su:=Su.ins bkN mixN rankV u v
def suOut (u:Su) (b:Bool):Int × Int × Int × Int × List Int × List Int × List (List Int) × Bool:=(u.c,u.s,u.mn,u.mx,u.h,u.r,[u.p,u.q],b)
noncomputable def insV (c s lo hi:Int) (h r:List Int) (R:List (List Int)) (v:Int):Int × Int × Int × Int × List Int × List Int × List (List Int) × Bool :=
 if skOk c s lo hi h r R = true ∧ 0 ≤ v ∧ v ≤ 1000000 then suOut (suPut ⟨c,s,lo,hi,h,r,rd_L3 R 0,rd_L3 R 1⟩ v) true else (c,s,lo,hi,h,r,R,false)
theorem spec_g_ev (u:Su) (ok:u.Ok) (v:Int) (hv:0 ≤ v ∧ v ≤ 1000000):Ev (fun k => spec_Insert.g k u.c u.s u.mn u.mx u.h u.r [u.p,u.q] v) (suOut (suPut u v) true):=by
 have hb:=bkN_lt v
 have hm:=mixN_lt v
 have q0:∀ p q:List Int,[p,q].getD 0 [] = p:=fun _ _ => rfl
 have q1:∀ p q:List Int,[p,q].getD 1 [] = q:=fun _ _ => rfl
 have emx:∀ x y:Int,spec_l1Max.f x y = some (hi2 x y):=by
  intro x y;unfold spec_l1Max.f hi2
  split <;> rfl
 have emn:∀ x y:Int,spec_l1Min.f x y = some (lo2 x y):=by
  intro x y;unfold spec_l1Min.f lo2
  split <;> rfl
 unfold spec_Insert.g
 refine ev_bind0 (spec_add_is ok.hc (by omega)) (ev_bind0 (spec_add_is ok.hs (by omega)) ((ev_bind0 (emn _ _) (ev_bind0 (emx _ _) (Ev.bind (spec_bucketOf_ev v) (ev_bind0 (spec_mix_is v) ?_))))))
 rw [bucketOf_is]
 simp only [Int.toNat_natCast,q0,q1]
 refine ev_bind0 (spec_add_is (lok_getD ok.hh hb) (by omega)) (Ev.bind (spec_rank_ev v) (ev_bind0 (emx _ _) (ev_bind0 (spec_add_is (lok_getD ok.hp (by omega)) (by omega)) (ev_bind0 (spec_add_is (lok_getD ok.hq (by omega)) (by omega)) (ev_pos ⟨ok.hh.1,ok.hr.1,rfl,ok.hp.1,ok.hq.1,by omega,by omega,by omega,by omega⟩ (ev_some ?_))))))
 have hz:=ok.hz
 have hle:=ok.hle
 have hmn:=ok.hmn
 simp only [suPut,suOut,Su.ins,upd,Nat.zero_add,Nat.add_comm 1]
theorem spec_insert_ev (c s lo hi:Int) (h r:List Int) (R:List (List Int)) (v:Int) (hh:h.length ≤ 1048576) (hr:r.length ≤ 1048576) (hR:R.length ≤ 1048576) (hx:∀ x ∈ R,x.length ≤ 1048576) :
  Ev (fun k => spec_Insert.f k c s lo hi h r R v) (insV c s lo hi h r R v):=by
 unfold spec_Insert.f insV
 refine Ev.bind (spec_copy_ev c s lo hi h r R hh hr hR hx) (ev_pos ⟨rfl,rfl,rfl,rfl,rfl,rfl,rfl⟩ (Ev.bind (spec_sketchOk_ev c s lo hi h r R) ?_))
 cases ok:skOk c s lo hi h r R with
 | false =>
  rw [if_neg (by simp)];exact ev_neg (by simp) (ev_some rfl)
 | true =>
  have hok:=skOk_true.1 ok;obtain ⟨p,q,rfl⟩:=two_rows hok.2.2.2.2.2.1;refine ev_pos (by trivial) (ev_bind0 (l1In_is v 0 1000000) ?_)
  by_cases hv:0 ≤ v ∧ v ≤ 1000000
  ·rw [if_pos ⟨by trivial,hv⟩]
   exact ev_pos (by simp [hv]) (spec_g_ev ⟨c,s,lo,hi,h,r,p,q⟩ (skOk_su hok) v hv)
  ·rw [if_neg (fun e => hv e.2)]
   exact ev_neg (by simp;omega) (ev_some rfl)
def suT (u:Su):Int × Int × Int × Int × List Int × List Int × List (List Int):=(u.c,u.s,u.mn,u.mx,u.h,u.r,[u.p,u.q])
def suInsO (u:Su) (v:Int):Su:=Su.insO bkN mixN rankV u v
def suOf (l:List Int):Su:=Su.of bkN mixN rankV l
theorem rk17:∀ v,0 ≤ rankV v ∧ rankV v ≤ 17:=fun v => by have:=rankV_range v;omega
theorem suInsO_ok {u:Su} (h:u.Ok) (v:Int):(suInsO u v).Ok:=Su.insO_ok bkN mixN rankV rk17 h v
theorem suOf_ok (l:List Int):(suOf l).Ok:=Su.of_ok bkN mixN rankV rk17 l
theorem ins_at {u:Su} (h:u.Ok) (v:Int):∃ t,insV u.c u.s u.mn u.mx u.h u.r [u.p,u.q] v = suOut (suInsO u v) t:=by
 unfold insV suInsO Su.insO
 rw [skOk_true.2 (su_skOk h)]
 by_cases hv:0 ≤ v ∧ v ≤ 1000000
 ·rw [if_pos ⟨rfl,hv⟩,if_pos hv]
  exact ⟨true,rfl⟩
 ·rw [if_neg (fun e => hv e.2),if_neg hv]
  exact ⟨false,rfl⟩
theorem su_lens {u:Su} (h:u.Ok):u.h.length ≤ 1048576 ∧ u.r.length ≤ 1048576 ∧ [u.p,u.q].length ≤ 1048576 ∧ ∀ x ∈ [u.p,u.q],x.length ≤ 1048576:=by
 have h1:=h.hh.1
 have h2:=h.hr.1
 have h3:=h.hp.1
 have h4:=h.hq.1
 refine ⟨by omega,by omega,by simp,fun x hx => ?_⟩
 simp only [List.mem_cons,List.not_mem_nil,or_false] at hx
 rcases hx with rfl | rfl <;> omega
theorem spec_sketched_at (l:List Int) (hl:l.length ≤ 1048576) (d:Nat):∀ (i:Nat) (u:Su),u.Ok → i + d = l.length →
  Ev (fun k => spec_Sketched.l0 k l (i:Int) u.c u.s u.mn u.mx u.h u.r [u.p,u.q]) (suT ((l.drop i).foldl suInsO u)):=by
 induction d with
 | zero =>
  intro i u hu hi;refine Ev.step (fun _ => rfl) ?_;simp only [spec_Sketched.l0];exact ev_neg (by omega) (ev_some (by rw [List.drop_of_length_le (by omega)];rfl))
 | succ d ih =>
  intro i u hu hi;refine Ev.step (fun _ => rfl) ?_;simp only [spec_Sketched.l0]
  have hil:i < l.length:=by omega
  obtain ⟨b1,b2,b3,b4⟩:=su_lens hu;obtain ⟨t,e⟩:=ins_at hu (rd l (i:Int));have hins:=spec_insert_ev u.c u.s u.mn u.mx u.h u.r [u.p,u.q] (rd l (i:Int)) b1 b2 b3 b4;rw [e] at hins;refine ev_pos (by omega) (ev_pos (by omega) (Ev.bind hins ?_));rw [wsucc (by omega)];have:=ih (i + 1) (suInsO u (rd l (i:Int))) (suInsO_ok hu _) (by omega);rw [List.drop_eq_getElem_cons hil,List.foldl_cons,← rd_get hil];exact this
theorem spec_sketched_ev (l:List Int) (hl:l.length ≤ 1048576):Ev (fun k => spec_Sketched.f k l) (suT (suOf l)):=by
 unfold spec_Sketched.f
 refine ev_bind0 rfl ?_
 have:=spec_sketched_at l hl l.length 0 Su.new Su.new_ok (by omega)
 exact this
theorem pick_at (l:List Int) (hl:l.length ≤ 281474976702464) (p:Nat) (hp:p ≤ l.length) (r:Int) (xs:List Int) (h0:0 < xs.length) (h1:xs.length ≤ 256) :
  ∃ (v:Int) (q:Nat) (s:Int),spec_l1PickInt.f l p r xs = some (v,(q:Int),s) ∧ q ≤ l.length:=by
 obtain ⟨v,q,s,e,hv,hq⟩:=l1Below_is l hl p hp r xs.length h0 h1
 refine ⟨rd xs (v:Int),q,s,?_,hq⟩
 unfold spec_l1PickInt.f
 rw [e]
 simp only [Option.bind_some]
 rw [if_pos (by omega),if_pos (by omega)]
theorem l3Values_at (l:List Int) (hl:l.length ≤ 281474976702464) (n:Nat) (hn:n ≤ 6) (d:Nat):∀ (i p:Nat) (r:Int) (xs:List Int),i + d = n → p ≤ l.length → xs.length = i →
  ∃ (ys:List Int) (q:Nat) (s:Int),Ev (fun k => spec_l3Values.l0 k xs (n:Int) (i:Int) l (p:Int) r) (ys,(q:Int),s) ∧ ys.length = n ∧ q ≤ l.length:=by
 induction d with
 | zero =>
  intro i p r xs hi hp hx;refine ⟨xs,p,r,Ev.step (fun _ => rfl) ?_,by omega,hp⟩;simp only [spec_l3Values.l0];exact ev_neg (by omega) (ev_some rfl)
 | succ d ih =>
  intro i p r xs hi hp hx;obtain ⟨v,q,s,e,hv,hq⟩:=l1Byte_is l hl p hp r;obtain ⟨v2,q2,s2,e2,aa⟩:=pick_at l hl q hq s [0,1,7,8,100,5000,1000000,(v:Int),1000001,(-1)] (by simp) (by simp);obtain ⟨ys,q3,s3,h3,hy,ab⟩:=ih (i + 1) q2 s2 (xs ++ [v2]) (by omega) aa (by simp;omega);refine ⟨ys,q3,s3,Ev.step (fun _ => rfl) ?_,hy,ab⟩;simp only [spec_l3Values.l0];refine ev_pos (by omega) (ev_bind0 e (ev_bind0 e2 (ev_pos (by omega) ?_)));rw [wsucc (by omega)];exact h3
theorem once_at (l:List Int) (hl:l.length ≤ 281474976702464) (p:Nat) (hp:p ≤ l.length) (r:Int) (n:Nat) (h0:0 < n) (h1:n ≤ 256) :
  ∃ (b:Bool) (q:Nat) (s:Int),spec_l1Once.f l p r (n:Int) = some (b,(q:Int),s) ∧ q ≤ l.length:=by
 obtain ⟨v,q,s,e,hv,hq⟩:=l1Below_is l hl p hp r n h0 h1
 refine ⟨((v:Int) == 0),q,s,?_,hq⟩
 unfold spec_l1Once.f
 rw [e]
 rfl
theorem l3Values_ev (l:List Int) (hl:l.length ≤ 281474976702464) (p:Nat) (hp:p ≤ l.length) (r:Int) :
  ∃ (ys:List Int) (q:Nat) (s:Int),Ev (fun k => spec_l3Values.f k l (p:Int) r) (ys,(q:Int),s) ∧ ys.length ≤ 5 ∧ q ≤ l.length:=by
 obtain ⟨n,q,s1,e1,hn,hq⟩:=l1Below_is l hl p hp r 6 (by omega) (by omega)
 obtain ⟨ys,q3,s3,h3,hy,ab⟩:=l3Values_at l hl n (by omega) n 0 q s1 [] (by omega) hq rfl
 refine ⟨ys,q3,s3,?_,by omega,ab⟩
 unfold spec_l3Values.f
 exact ev_bind0 e1 h3
theorem l3Right_ev (l:List Int) (hl:l.length ≤ 281474976702464) (p:Nat) (hp:p ≤ l.length) (r:Int) :
  ∃ (c s mn mx:Int) (h g a b:List Int) (q:Nat) (z:Int),Ev (fun k => spec_l3Right.f k l (p:Int) r) (c,s,mn,mx,h,g,[a,b],(q:Int),z) ∧ h.length = 8 ∧ g.length = 8 ∧ a.length = 4 ∧ b.length = 4 ∧ q ≤ l.length:=by
 obtain ⟨ys,q1,s1,h1,hy,ad⟩:=l3Values_ev l hl p hp r
 obtain ⟨o,q2,s2,h2,aa⟩:=once_at l hl q1 ad s1 16 (by omega) (by omega)
 obtain ⟨v,q3,s3,h3,_,ab⟩:=l1Below_is l hl q2 aa s2 2 (by omega) (by omega)
 have ok:=suOf_ok ys
 have hs:=spec_sketched_ev ys (by omega)
 have l8:=ok.hh.1
 cases o with
 | false =>
  refine ⟨(suOf ys).c,(suOf ys).s,(suOf ys).mn,(suOf ys).mx,(suOf ys).h,(suOf ys).r,(suOf ys).p,(suOf ys).q,q2,s2,?_,l8,ok.hr.1,ok.hp.1,ok.hq.1,aa⟩;unfold spec_l3Right.f;exact Ev.bind h1 (Ev.bind hs (ev_bind0 h2 (ev_neg (by simp) (ev_some rfl))))
 | true =>
  by_cases hc:(suOf ys).c > 0
  ·refine ⟨wrap64 (1000000000 - (v:Int)),999999997,(suOf ys).mn,(suOf ys).mx,(suOf ys).h.set 3 1000000000,(suOf ys).r,(suOf ys).p,(suOf ys).q,q3,s3,?_,?_,ok.hr.1,ok.hp.1,ok.hq.1,ab⟩
   ·unfold spec_l3Right.f
    exact Ev.bind h1 (Ev.bind hs (ev_bind0 h2 (ev_pos rfl (ev_pos hc (ev_bind0 h3 (ev_pos (by simp only [suT];omega) (ev_some rfl)))))))
   ·rw [List.length_set]
    exact l8
  ·refine ⟨(suOf ys).c,(suOf ys).s,(suOf ys).mn,(suOf ys).mx,(suOf ys).h,(suOf ys).r,(suOf ys).p,(suOf ys).q,q2,s2,?_,l8,ok.hr.1,ok.hp.1,ok.hq.1,aa⟩
   unfold spec_l3Right.f;exact Ev.bind h1 (Ev.bind hs (ev_bind0 h2 (ev_pos rfl (ev_neg hc (ev_some rfl)))))
theorem l3Draw_ev (l:List Int) (hl:l.length ≤ 281474976702464) (p:Nat) (hp:p ≤ l.length) (r:Int) :
  ∃ (c s mn mx:Int) (h g:List Int) (R:List (List Int)) (q:Nat) (z:Int),Ev (fun k => spec_l3Draw.f k l (p:Int) r) (c,s,mn,mx,h,g,R,(q:Int),z) ∧ h.length ≤ 9 ∧ g.length ≤ 9 ∧ R.length ≤ 2 ∧ (∀ x ∈ R,x.length ≤ 9) ∧ q ≤ l.length:=by
 obtain ⟨c,s,mn,mx,h,g,a,b,q1,s1,h1,lh,lg,la,lb,ad⟩:=l3Right_ev l hl p hp r
 obtain ⟨v,q2,s2,h2,hv,aa⟩:=l1Below_is l hl q1 ad s1 16 (by omega) (by omega)
 have hR:∀ x ∈ [a,b],x.length ≤ 9:=fun x hx => by
  simp only [List.mem_cons,List.not_mem_nil,or_false] at hx
  rcases hx with rfl | rfl <;> omega
 by_cases v0:(v:Int) = 0
 ·obtain ⟨x,q3,s3,h3,ab⟩:=pick_at l hl q2 aa s2 [(-1),1000001,500] (by simp) (by simp)
  refine ⟨c,s,x,mx,h,g,[a,b],q3,s3,?_,show h.length ≤ 9 by omega,show g.length ≤ 9 by omega,show [a,b].length ≤ 2 by simp,hR,ab⟩;unfold spec_l3Draw.f;exact Ev.bind h1 (ev_bind0 h2 (ev_pos v0 (ev_bind0 h3 (ev_some rfl))))
 by_cases v1:(v:Int) = 1
 ·obtain ⟨y,q3,s3,h3,hy,ab⟩:=l1Below_is l hl q2 aa s2 8 (by omega) (by omega)
  obtain ⟨x,q4,s4,h4,ae⟩:=pick_at l hl q3 ab s3 [(-1),17,18] (by simp) (by simp);refine ⟨c,s,mn,mx,h,g.set y x,[a,b],q4,s4,?_,show h.length ≤ 9 by omega,show (g.set y x).length ≤ 9 by rw [List.length_set];omega,show [a,b].length ≤ 2 by simp,hR,ae⟩;unfold spec_l3Draw.f;exact Ev.bind h1 (ev_bind0 h2 (ev_neg v0 (ev_pos v1 (ev_bind0 h3 (ev_bind0 h4 (ev_pos (by omega) (ev_pos (show (y:Int) < (g.length:Int) by omega) (ev_some rfl))))))))
 by_cases v2:(v:Int) = 2
 ·refine ⟨c,s,mn,mx,h ++ [0],g,[a,b],q2,s2,?_,show (h ++ [0]).length ≤ 9 by simp;omega,show g.length ≤ 9 by omega,show [a,b].length ≤ 2 by simp,hR,aa⟩
  unfold spec_l3Draw.f;exact Ev.bind h1 (ev_bind0 h2 (ev_neg v0 (ev_neg v1 (ev_pos v2 (ev_pos (show h.length < 17592186044416 by omega) (ev_some rfl))))))
 by_cases v3:(v:Int) = 3
 ·refine ⟨c,s,mn,mx,h,g,[a,b].take 1,q2,s2,?_,show h.length ≤ 9 by omega,show g.length ≤ 9 by omega,show ([a,b].take 1).length ≤ 2 by simp,fun x hx => hR x (List.mem_of_mem_take hx),aa⟩
  unfold spec_l3Draw.f;exact Ev.bind h1 (ev_bind0 h2 (ev_neg v0 (ev_neg v1 (ev_neg v2 (ev_pos v3 (ev_pos (by simp) (ev_some rfl)))))))
 by_cases v4:(v:Int) = 4
 ·obtain ⟨x,q3,s3,h3,ab⟩:=pick_at l hl q2 aa s2 [0,(-1),1000000001] (by simp) (by simp)
  refine ⟨x,s,mn,mx,h,g,[a,b],q3,s3,?_,show h.length ≤ 9 by omega,show g.length ≤ 9 by omega,show [a,b].length ≤ 2 by simp,hR,ab⟩;unfold spec_l3Draw.f;exact Ev.bind h1 (ev_bind0 h2 (ev_neg v0 (ev_neg v1 (ev_neg v2 (ev_neg v3 (ev_pos v4 (ev_bind0 h3 (ev_some rfl))))))))
 by_cases v5:(v:Int) = 5
 ·obtain ⟨x,q3,s3,h3,ab⟩:=pick_at l hl q2 aa s2 [(-1),3,1000000001] (by simp) (by simp)
  refine ⟨c,s,mn,mx,h,g,[a,b].set 1 (b.set 2 x),q3,s3,?_,show h.length ≤ 9 by omega,show g.length ≤ 9 by omega,show ([a,b].set 1 (b.set 2 x)).length ≤ 2 by simp,fun y hy => ?_,ab⟩
  ·unfold spec_l3Draw.f
   exact Ev.bind h1 (ev_bind0 h2 (ev_neg v0 (ev_neg v1 (ev_neg v2 (ev_neg v3 (ev_neg v4 (ev_pos v5 (ev_pos (by simp) (ev_bind0 h3 (ev_pos (show (2:Int) < (b.length:Int) by omega) (ev_some rfl)))))))))))
  ·rcases List.mem_or_eq_of_mem_set hy with hy | rfl
   ·exact hR y hy
   ·rw [List.length_set];omega
 ·refine ⟨c,s,mn,mx,h,g,[a,b],q2,s2,?_,show h.length ≤ 9 by omega,show g.length ≤ 9 by omega,show [a,b].length ≤ 2 by simp,hR,aa⟩
  unfold spec_l3Draw.f;exact Ev.bind h1 (ev_bind0 h2 (ev_neg v0 (ev_neg v1 (ev_neg v2 (ev_neg v3 (ev_neg v4 (ev_neg v5 (ev_some rfl))))))))
theorem pick_mem (l:List Int) (hl:l.length ≤ 281474976702464) (p:Nat) (hp:p ≤ l.length) (r:Int) (xs:List Int) (h0:0 < xs.length) (h1:xs.length ≤ 256) :
  ∃ (v:Int) (q:Nat) (s:Int),spec_l1PickInt.f l p r xs = some (v,(q:Int),s) ∧ v ∈ xs ∧ q ≤ l.length:=by
 obtain ⟨v,q,s,e,hv,hq⟩:=l1Below_is l hl p hp r xs.length h0 h1
 refine ⟨rd xs (v:Int),q,s,?_,by rw [rd_get hv];exact List.getElem_mem hv,hq⟩
 unfold spec_l1PickInt.f
 rw [e]
 simp only [Option.bind_some]
 rw [if_pos (by omega),if_pos (by omega)]
theorem l5Right_at (l:List Int) (hl:l.length ≤ 281474976702464) (n:Nat) (hn:n ≤ 7) (d:Nat):∀ (i p:Nat) (r:Int) (xs:List S70),i + d = n → p ≤ l.length → Nrm xs → Bd xs → xs.length ≤ i →
  ∃ (ys:List S70) (q:Nat) (s:Int),Ev (fun k => spec_l5Right.l0 k xs (n:Int) (i:Int) l (p:Int) r) (ys,(q:Int),s) ∧ Nrm ys ∧ Bd ys ∧ ys.length ≤ n ∧ q ≤ l.length:=by
 induction d with
 | zero =>
  intro i p r xs hi hp hx hb hlx;refine ⟨xs,p,r,Ev.step (fun _ => rfl) ?_,hx,hb,by omega,hp⟩;simp only [spec_l5Right.l0];exact ev_neg (by omega) (ev_some rfl)
 | succ d ih =>
  intro i p r xs hi hp hx hb hlx;obtain ⟨a,q1,s1,e1,ha,ad⟩:=l1Below_is l hl p hp r 20 (by omega) (by omega);obtain ⟨b,q2,s2,e2,aC,aa⟩:=l1Below_is l hl q1 ad s1 20 (by omega) (by omega);obtain ⟨c,q3,s3,e3,hc,ab⟩:=l1Below_is l hl q2 aa s2 10 (by omega) (by omega);obtain ⟨lo,q4,s4,e4,hlo,ae⟩:=pick_mem l hl q3 ab s3 [(a:Int),(b:Int),wrap64 (9990 + (c:Int))] (by simp) (by simp);obtain ⟨w,q5,s5,e5,hw,af⟩:=l1Below_is l hl q4 ae s4 3 (by omega) (by omega)
  have hlr:0 ≤ lo ∧ lo ≤ 9999:=by
   rw [w64 (x:=9990 + (c:Int)) (by omega) (by omega)] at hlo;simp only [List.mem_cons,List.not_mem_nil,or_false] at hlo
   omega
  have emn:spec_l1Min.f (wrap64 (lo + (w:Int))) 9999 = some (if lo + (w:Int) < 9999 then lo + (w:Int) else 9999):=by
   rw [w64 (by omega) (by omega)];unfold spec_l1Min.f
   split <;> rfl
  have hhi:lo ≤ (if lo + (w:Int) < 9999 then lo + (w:Int) else 9999) ∧ (if lo + (w:Int) < 9999 then lo + (w:Int) else 9999) ≤ 9999:=by split <;> omega
  generalize (if lo + (w:Int) < 9999 then lo + (w:Int) else 9999) = hi' at emn hhi;have hput:=spec_put_ev xs ⟨lo,hi'⟩ hb hx (by omega) ⟨hlr.1,hhi.2,hhi.1⟩;have hpl:=put_len xs ⟨lo,hi'⟩;obtain ⟨ys,q6,s6,h6,ar,au,av,ak⟩:=ih (i + 1) q5 s5 (put xs ⟨lo,hi'⟩) (by omega) af (put_ok hx hhi.1).1 (put_bd hb ⟨hlr.1,hhi.2⟩) (by omega);refine ⟨ys,q6,s6,Ev.step (fun _ => rfl) ?_,ar,au,av,ak⟩;simp only [spec_l5Right.l0];refine ev_pos (by omega) (ev_bind0 e1 (ev_bind0 e2 (ev_bind0 e3 (ev_bind0 e4 (ev_bind0 e5 (ev_bind0 emn (Ev.bind hput ?_)))))));rw [wsucc (by omega)];exact h6
theorem l5Draw_ev (l:List Int) (hl:l.length ≤ 281474976702464) (p:Nat) (hp:p ≤ l.length) (r:Int) :
  ∃ (ys:List S70) (q:Nat) (s:Int),Ev (fun k => spec_l5Draw.f k l (p:Int) r) (ys,(q:Int),s) ∧ ys.length ≤ 8 ∧ q ≤ l.length:=by
 obtain ⟨n,q1,s1,e1,hn,ad⟩:=l1Below_is l hl p hp r 7 (by omega) (by omega)
 obtain ⟨ys,q2,s2,h2,_,_,hy,aa⟩:=l5Right_at l hl n (by omega) n 0 q1 s1 [] (by omega) ad trivial (fun _ h => by cases h) (by simp)
 have hR:Ev (fun k => spec_l5Right.f k l (p:Int) r) (ys,(q2:Int),s2):=by
  unfold spec_l5Right.f;exact ev_bind0 e1 h2
 obtain ⟨o,q3,s3,e3,ab⟩:=once_at l hl q2 aa s2 8 (by omega) (by omega)
 cases o with
 | false =>
  refine ⟨ys,q3,s3,?_,by omega,ab⟩;unfold spec_l5Draw.f;exact Ev.bind hR (ev_bind0 e3 (ev_neg (by simp) (ev_some rfl)))
 | true =>
  obtain ⟨a,q4,s4,e4,_,ae⟩:=pick_mem l hl q3 ab s3 [(-1),3,10000] (by simp) (by simp);obtain ⟨b,q5,s5,e5,_,af⟩:=pick_mem l hl q4 ae s4 [5,10000,9223372036854775807] (by simp) (by simp);refine ⟨ys ++ [⟨a,b⟩],q5,s5,?_,by rw [List.length_append];simp only [List.length_cons,List.length_nil];omega,af⟩;unfold spec_l5Draw.f;exact Ev.bind hR (ev_bind0 e3 (ev_pos rfl (ev_bind0 e4 (ev_bind0 e5 (ev_pos (show ys.length < 8796093022208 by omega) (ev_some rfl))))))
theorem impl_add_is {a b:Int} (ha:0 ≤ a ∧ a ≤ 1000000000) (hb:0 ≤ b ∧ b ≤ 1000000000):impl_Add.f a b = some (sadd a b):=by
 unfold impl_Add.f impl_limited.f mn mx
 have e:∀ x:Int,0 ≤ x ∧ x ≤ 1000000000 → (if 1000000000 < (if x < 0 then 0 else x) then 1000000000 else (if x < 0 then 0 else x)) = x:=by
  intro x hx
  repeat' split
  all_goals omega
 rw [e a ha,e b hb,Option.bind_some,Option.bind_some,w64 (x:=a + b) (by omega) (by omega)]
 unfold sadd
 congr 1
 repeat' split
 all_goals omega
theorem impl_copy_at (c s lo hi:Int) (h r:List Int) (R:List (List Int)) (hR:R.length ≤ 1048576) (hx:∀ x ∈ R,x.length ≤ 1048576) (d:Nat):∀ i:Nat,i + d = R.length →
  Ev (fun k => impl_copySketch.l0 k R (R.length:Int) (i:Int) c s lo hi h r (R.take i)) (c,s,lo,hi,h,r,R):=by
 induction d with
 | zero =>
  intro i hi';refine Ev.step (fun _ => rfl) ?_;simp only [impl_copySketch.l0];exact ev_neg (by omega) (ev_some (by rw [show i = R.length by omega,List.take_length]))
 | succ d ih =>
  intro i hi';refine Ev.step (fun _ => rfl) ?_;simp only [impl_copySketch.l0]
  have hiR:i < R.length:=by omega
  have hl:=hx _ (List.getElem_mem hiR);rw [wsucc (by omega),rdR_get hiR];refine ev_pos (by omega) (ev_pos (by omega) (ev_pos (by omega) (ev_bind0 (a:=R[i]) (by unfold impl_copyInts.f;rw [if_pos (by simp;omega),List.nil_append]) (ev_pos (by simp;omega) ?_))));rw [← List.take_succ_eq_append_getElem hiR];exact ih (i + 1) (by omega)
theorem impl_copy_ev (c s lo hi:Int) (h r:List Int) (R:List (List Int)) (hh:h.length ≤ 1048576) (hr:r.length ≤ 1048576) (hR:R.length ≤ 1048576) (hx:∀ x ∈ R,x.length ≤ 1048576) :
  Ev (fun k => impl_copySketch.f k c s lo hi h r R) (c,s,lo,hi,h,r,R):=by
 unfold impl_copySketch.f
 refine ev_bind0 (a:=h) (by unfold impl_copyInts.f;rw [if_pos (by simp;omega),List.nil_append]) (ev_bind0 (a:=r) (by unfold impl_copyInts.f;rw [if_pos (by simp;omega),List.nil_append]) ?_)
 have:=impl_copy_at c s lo hi h r R hR hx R.length 0 (by omega)
 simpa using this
def sameL {α:Type} (eq:α → α → Bool):List α → List α → Bool
 | [],[] => true
 | x :: xs,y :: ys => eq x y && sameL eq xs ys
 | [],_ :: _ => false
 | _ :: _,[] => false
theorem sameL_len {α:Type} (eq:α → α → Bool):∀ a b:List α,a.length ≠ b.length → sameL eq a b = false
 | [],[],h => absurd rfl h
 | _ :: xs,_ :: ys,h => by
  have:=sameL_len eq xs ys (by simpa using h)
  simp [sameL,this]
 | [],_ :: _,_ => rfl
 | _ :: _,[],_ => rfl
theorem sameL_at {α:Type} (eq:α → α → Bool) (a b:List α) (i:Nat) (h:i < a.length) (h1:i < b.length) :
  sameL eq (a.drop i) (b.drop i) = (eq a[i] b[i] && sameL eq (a.drop (i + 1)) (b.drop (i + 1))):=by
 rw [List.drop_eq_getElem_cons h,List.drop_eq_getElem_cons h1]
 rfl
theorem sameL_end {α:Type} (eq:α → α → Bool) (a b:List α) (i:Nat) (h:a.length ≤ i) (h1:b.length ≤ i):sameL eq (a.drop i) (b.drop i) = true:=by
 rw [List.drop_eq_nil_of_le h,List.drop_eq_nil_of_le h1]
 rfl
def eqI (x y:Int):Bool:=decide (x = y)
theorem slices_Equal_at (a b:List Int) (hn:a.length ≤ 1048576) (hl:a.length = b.length) (d:Nat):∀ (i:Nat),i + d = a.length →
  Ev (fun k => slices_Equal_int_int.l0 k a b (a.length:Int) (i:Int)) (sameL eqI (a.drop i) (b.drop i)):=by
 induction d with
 | zero =>
  intro i hi;refine Ev.step (fun _ => rfl) ?_;simp only [slices_Equal_int_int.l0];exact ev_neg (by omega) (ev_some (sameL_end eqI a b i (by omega) (by omega)).symm)
 | succ d ih =>
  intro i hi;refine Ev.step (fun _ => rfl) ?_;simp only [slices_Equal_int_int.l0];rw [sameL_at eqI a b i (by omega) (by omega),rd_get (show i < a.length by omega),rd_get (show i < b.length by omega),wsucc (by omega)];refine ev_pos (by omega) (ev_pos (by omega) (ev_pos (by omega) (ev_pos (by omega) ?_)))
  by_cases e:a[i]'(by omega) = b[i]'(by omega)
  ·refine ev_pos e ?_
   rw [show eqI (a[i]'(by omega)) (b[i]'(by omega)) = true from decide_eq_true e,Bool.true_and];exact ih (i + 1) (by omega)
  ·refine ev_neg e (ev_some ?_)
   rw [show eqI (a[i]'(by omega)) (b[i]'(by omega)) = false from decide_eq_false e,Bool.false_and]
theorem slices_Equal_ev (a b:List Int) (hn:a.length ≤ 1048576):Ev (fun k => slices_Equal_int_int.f k a b) (sameL eqI a b):=by
 unfold slices_Equal_int_int.f
 by_cases hl:a.length = b.length
 ·exact ev_pos (by omega) (slices_Equal_at a b hn hl a.length 0 (by omega))
 ·exact ev_neg (by omega) (ev_some (sameL_len eqI a b hl).symm)
theorem slices_EqualFunc_at (a b:List (List Int)) (hx:∀ x ∈ a,x.length ≤ 1048576) (hl:a.length = b.length):∀ (g i:Nat),i ≤ a.length → i + g = a.length + 1 →
  Ev (fun k => slices_EqualFunc_int_int_int_int.l0 g k a b i) (sameL (sameL eqI) (a.drop i) (b.drop i)):=by
 intro g
 induction g with
 | zero =>
  intro i aw hi;exact absurd hi (by omega)
 | succ g ih =>
  intro i aw hi;simp only [slices_EqualFunc_int_int_int_int.l0]
  by_cases h:i < a.length
  ·simp only [dif_pos h,dif_pos (show i < b.length by omega)]
   rw [sameL_at (sameL eqI) a b i h (by omega)];refine Ev.bind (slices_Equal_ev _ _ (hx _ (List.getElem_mem h))) ?_
   cases e:sameL eqI a[i] (b[i]'(by omega)) with
   | true =>
    rw [Bool.true_and];exact ev_pos rfl (ih (i + 1) (by omega) (by omega))
   | false =>
    rw [Bool.false_and];exact ev_neg (by decide) (ev_some rfl)
  ·simp only [dif_neg h]
   exact ev_some (sameL_end (sameL eqI) a b i (by omega) (by omega)).symm
theorem slices_EqualFunc_ev (a b:List (List Int)) (hx:∀ x ∈ a,x.length ≤ 1048576):Ev (fun k => slices_EqualFunc_int_int_int_int.f k a b) (sameL (sameL eqI) a b):=by
 unfold slices_EqualFunc_int_int_int_int.f
 by_cases hl:a.length = b.length
 ·exact ev_pos hl (slices_EqualFunc_at a b hx hl (a.length + 1) 0 (by omega) (by omega))
 ·exact ev_neg hl (ev_some (sameL_len (sameL eqI) a b hl).symm)
def skSame (c s mn mx:Int) (h r:List Int) (R:List (List Int)) (c' s' mn' mx':Int) (h' r':List Int) (R':List (List Int)):Bool :=
 decide (c = c') && (decide (s = s') && (decide (mn = mn') && (decide (mx = mx') && (sameL eqI h h' && (sameL eqI r r' && sameL (sameL eqI) R R')))))
theorem impl_sketchSame_ev (c s mn mx:Int) (h r:List Int) (R:List (List Int)) (c' s' mn' mx':Int) (h' r':List Int) (R':List (List Int)) (hh:h.length ≤ 1048576) (hr:r.length ≤ 1048576) (_hR:R.length ≤ 1048576) (hx:∀ x ∈ R,x.length ≤ 1048576) :
  Ev (fun k => impl_SketchSame.f k c s mn mx h r R c' s' mn' mx' h' r' R') (skSame c s mn mx h r R c' s' mn' mx' h' r' R'):=by
 unfold impl_SketchSame.f skSame
 by_cases e1:c = c'
 ·by_cases e2:s = s'
  ·by_cases e3:mn = mn'
   ·by_cases e4:mx = mx'
    ·refine ev_pos e1 (ev_pos e2 (ev_pos e3 (ev_pos e4 (Ev.bind (slices_Equal_ev _ _ hh) ?_))))
     rw [decide_eq_true e1,decide_eq_true e2,decide_eq_true e3,decide_eq_true e4];simp only [Bool.true_and]
     cases f1:sameL eqI h h' with
     | false => exact ev_neg (by decide) (ev_some (by simp))
     | true =>
      refine ev_pos rfl (Ev.bind (slices_Equal_ev _ _ hr) ?_);simp only [Bool.true_and]
      cases f2:sameL eqI r r' with
      | false => exact ev_neg (by decide) (ev_some (by simp))
      | true =>
       refine ev_pos rfl ?_;simp only [Bool.true_and];exact Ev.bind (slices_EqualFunc_ev R R' hx) (ev_some rfl)
    ·exact ev_pos e1 (ev_pos e2 (ev_pos e3 (ev_neg e4 (ev_some (by simp [e4])))))
   ·exact ev_pos e1 (ev_pos e2 (ev_neg e3 (ev_some (by simp [e3]))))
  ·exact ev_pos e1 (ev_neg e2 (ev_some (by simp [e2])))
 ·exact ev_neg e1 (ev_some (by simp [e1]))
theorem eqI_self (l:List Int):sameL eqI l l = true:=by
 induction l with
 | nil => rfl
 | cons x xs ih => simp [sameL,eqI,ih]
theorem eqII_self (l:List (List Int)):sameL (sameL eqI) l l = true:=by
 induction l with
 | nil => rfl
 | cons x xs ih => simp [sameL,eqI_self,ih]
def eqSp (x y:S70):Bool:=decide (x.f0 = y.f0) && decide (x.f1 = y.f1)
theorem neSp (x y:S70):(!(x.f0 == y.f0) || (!(x.f1 == y.f1))) = !(eqSp x y):=by
 unfold eqSp
 by_cases h0:x.f0 = y.f0 <;> by_cases h1:x.f1 = y.f1 <;> simp [h0,h1]
theorem impl_Span_at (a b:List S70) (hn:a.length ≤ 1048576) (hl:a.length = b.length) (d:Nat):∀ (i:Nat),i + d = a.length →
  Ev (fun k => slices_Equal_impl_Span.l0 k a b (a.length:Int) (i:Int)) (sameL eqSp (a.drop i) (b.drop i)):=by
 induction d with
 | zero =>
  intro i hi;refine Ev.step (fun _ => rfl) ?_;simp only [slices_Equal_impl_Span.l0];exact ev_neg (by omega) (ev_some (sameL_end eqSp a b i (by omega) (by omega)).symm)
 | succ d ih =>
  intro i hi;refine Ev.step (fun _ => rfl) ?_;simp only [slices_Equal_impl_Span.l0];rw [sameL_at eqSp a b i (by omega) (by omega),rdI_get (show i < a.length by omega),rdI_get (show i < b.length by omega),wsucc (by omega),neSp];refine ev_pos (by omega) (ev_pos (by omega) (ev_pos (by omega) (ev_pos (by omega) ?_)))
  cases e:eqSp (a[i]'(by omega)) (b[i]'(by omega)) with
  | true =>
   rw [Bool.true_and];exact ev_neg (by decide) (ih (i + 1) (by omega))
  | false => exact ev_pos (by decide) (ev_some rfl)
theorem impl_Span_ev (a b:List S70) (hn:a.length ≤ 1048576):Ev (fun k => slices_Equal_impl_Span.f k a b) (sameL eqSp a b):=by
 unfold slices_Equal_impl_Span.f
 by_cases hl:a.length = b.length
 ·exact ev_pos (by omega) (impl_Span_at a b hn hl a.length 0 (by omega))
 ·exact ev_neg (by omega) (ev_some (sameL_len eqSp a b hl).symm)
def enSame (ke wi:Int) (ids:List S70) (c s mn mx:Int) (h r:List Int) (R:List (List Int)) (ke' wi':Int) (ids':List S70) (c' s' mn' mx':Int) (h' r':List Int) (R':List (List Int)):Bool :=
 decide (ke = ke') && (decide (wi = wi') && (sameL eqSp ids ids' && skSame c s mn mx h r R c' s' mn' mx' h' r' R'))
theorem impl_entrySame_ev (ke wi:Int) (ids:List S70) (c s mn mx:Int) (h r:List Int) (R:List (List Int)) (ke' wi':Int) (ids':List S70) (c' s' mn' mx':Int) (h' r':List Int) (R':List (List Int)) (hI:ids.length ≤ 1048576) (hh:h.length ≤ 1048576) (hr:r.length ≤ 1048576) (hR:R.length ≤ 1048576) (hx:∀ x ∈ R,x.length ≤ 1048576) :
  Ev (fun k => impl_EntrySame.f k ke wi ids c s mn mx h r R ke' wi' ids' c' s' mn' mx' h' r' R') (enSame ke wi ids c s mn mx h r R ke' wi' ids' c' s' mn' mx' h' r' R'):=by
 unfold impl_EntrySame.f enSame
 by_cases e1:ke = ke'
 ·by_cases e2:wi = wi'
  ·refine ev_pos e1 (ev_pos e2 (Ev.bind (impl_Span_ev _ _ hI) ?_))
   rw [decide_eq_true e1,decide_eq_true e2];simp only [Bool.true_and]
   cases f1:sameL eqSp ids ids' with
   | false => exact ev_neg (by decide) (ev_some (by simp))
   | true =>
    refine ev_pos rfl ?_;simp only [Bool.true_and];exact Ev.bind (impl_sketchSame_ev c s mn mx h r R c' s' mn' mx' h' r' R' hh hr hR hx) (ev_some rfl)
  ·exact ev_pos e1 (ev_neg e2 (ev_some (by simp [e2])))
 ·exact ev_neg e1 (ev_some (by simp [e1]))
theorem spans_self (l:List S70):sameL eqSp l l = true:=by
 induction l with
 | nil => rfl
 | cons x xs ih => simp [sameL,eqSp,ih]
theorem zip_getD (f:Int → Int → Int):∀ (xs ys:List Int) (i:Nat),i < xs.length → i < ys.length → (List.zipWith f xs ys).getD i 0 = f (xs.getD i 0) (ys.getD i 0):=by
 intro xs ys i h1 h2
 simp only [List.getD_eq_getElem?_getD]
 rw [List.getElem?_eq_getElem h1,List.getElem?_eq_getElem h2,List.getElem?_eq_getElem (by simp;omega)]
 simp
theorem mx_hi (a b:Int):mx a b = hi2 a b:=by
 unfold mx hi2
 repeat' split
 all_goals omega
theorem impl_merge_ev {a b:Su} (ha:a.Ok) (hb:b.Ok):Ev (fun k => impl_Merge.f k a.c a.s a.mn a.mx a.h a.r [a.p,a.q] b.c b.s b.mn b.mx b.h b.r [b.p,b.q]) (suOut (Su.mrg a b) true):=by
 obtain ⟨b1,b2,b3,b4⟩:=su_lens ha
 have G:impl_Merge.G a.c a.s a.h a.r [a.p,a.q] b.c b.s b.h b.r [b.p,b.q]:=by
  have hz:∀ (xs ys:List Int) (n:Nat) (z z':Prop),LOk xs n 1000000000 z → LOk ys n 1000000000 z' → ∀ i,i < n → impl_Add.f (xs.getD i 0) (ys.getD i 0) = some ((List.zipWith sadd xs ys).getD i 0):=by
   intro xs ys n z z' h1 h2 i hi;rw [zip_getD _ _ _ _ (by rw [h1.1];exact hi) (by rw [h2.1];exact hi)];exact impl_add_is (lok_getD h1 hi) (lok_getD h2 hi)
  refine ⟨⟨ha.hh.1,ha.hr.1,rfl,hb.hh.1,hb.hr.1,rfl⟩,impl_add_is ha.hc hb.hc,impl_add_is ha.hs hb.hs,hz _ _ _ _ _ ha.hh hb.hh,fun i hi => ?_,fun i hi => ?_⟩
  ·rw [zip_getD _ _ _ _ (by rw [ha.hr.1];exact hi) (by rw [hb.hr.1];exact hi)]
   exact mx_hi _ _
  ·match i,hi with
   | 0,_ => exact ⟨by show (List.zipWith sadd a.p b.p).length = 4;simp [ha.hp.1,hb.hp.1],ha.hp.1,hb.hp.1,hz _ _ _ _ _ ha.hp hb.hp⟩
   | 1,_ => exact ⟨by show (List.zipWith sadd a.q b.q).length = 4;simp [ha.hq.1,hb.hq.1],ha.hq.1,hb.hq.1,hz _ _ _ _ _ ha.hq hb.hq⟩
 have ea:=impl_sketchOk_ev a.c a.s a.mn a.mx a.h a.r [a.p,a.q]
 have eb:=impl_sketchOk_ev b.c b.s b.mn b.mx b.h b.r [b.p,b.q]
 rw [skOk_true.2 (su_skOk ha)] at ea
 rw [skOk_true.2 (su_skOk hb)] at eb
 unfold impl_Merge.f
 refine Ev.bind ea (ev_pos (by trivial) (Ev.bind eb (ev_pos (by trivial) (Ev.bind (impl_copy_ev a.c a.s a.mn a.mx a.h a.r [a.p,a.q] b1 b2 b3 b4) (ev_pos ⟨⟨rfl,rfl,rfl,rfl,rfl,rfl,rfl⟩,G⟩ (ev_some ?_))))))
 have e1:impl_Merge.lo a.c a.mn b.c b.mn = if a.c = 0 then b.mn else if b.c = 0 then a.mn else lo2 a.mn b.mn:=by
  have:=Su.mn0 ha;have:=Su.mn0 hb;have:=ha.hc;have:=hb.hc;unfold impl_Merge.lo lo2
  repeat' split
  all_goals omega
 rw [e1,mx_hi]
 rfl
theorem spec_sum_at (xs ys:List Int) (n:Nat) (z z':Prop) (h1:LOk xs n 1000000000 z) (h2:LOk ys n 1000000000 z') (hn:n ≤ 1048576) (d:Nat):∀ i:Nat,i + d = n →
  Ev (fun k => spec_l3Sum.l0 k xs ys ((List.zipWith sadd xs ys).take i) (i:Int)) (List.zipWith sadd xs ys):=by
 have l1:=h1.1
 have l2:=h2.1
 have lz:(List.zipWith sadd xs ys).length = n:=by simp [l1,l2]
 induction d with
 | zero =>
  intro i hi;refine Ev.step (fun _ => rfl) ?_;simp only [spec_l3Sum.l0];exact ev_neg (by omega) (ev_some (by rw [List.take_of_length_le (by omega)]))
 | succ d ih =>
  intro i hi;refine Ev.step (fun _ => rfl) ?_;simp only [spec_l3Sum.l0]
  have hlt:i < n:=by omega
  rw [rd_nat,rd_nat,wsucc (by omega)];refine ev_pos (by omega) (ev_pos (by omega) (ev_pos (by omega) (ev_bind0 (spec_add_is (lok_getD h1 hlt) (lok_getD h2 hlt)) (ev_pos (by rw [List.length_take];omega) ?_))))
  have e:(List.zipWith sadd xs ys).take i ++ [sadd (xs.getD i 0) (ys.getD i 0)] = (List.zipWith sadd xs ys).take (i + 1):=by
   rw [List.take_succ_eq_append_getElem (by omega),← zip_getD sadd xs ys i (by omega) (by omega),List.getD_eq_getElem?_getD,List.getElem?_eq_getElem (by omega)]
   rfl
  rw [e];exact ih (i + 1) (by omega)
theorem spec_sum_ev (xs ys:List Int) (n:Nat) (z z':Prop) (h1:LOk xs n 1000000000 z) (h2:LOk ys n 1000000000 z') (hn:n ≤ 1048576):Ev (fun k => spec_l3Sum.f k xs ys) (List.zipWith sadd xs ys):=by
 unfold spec_l3Sum.f
 exact spec_sum_at xs ys n z z' h1 h2 hn n 0 (by omega)
theorem spec_max_is (x y:Int):spec_l1Max.f x y = some (hi2 x y):=by
 unfold spec_l1Max.f hi2
 split <;> rfl
theorem spec_min_is (x y:Int):spec_l1Min.f x y = some (lo2 x y):=by
 unfold spec_l1Min.f lo2
 split <;> rfl
theorem spec_l3Merge_ev {a b:Su} (ha:a.Ok) (hb:b.Ok):Ev (fun k => spec_l3Merge.f k a.c a.s a.mn a.mx a.h a.r [a.p,a.q] b.c b.s b.mn b.mx b.h b.r [b.p,b.q])
  (sadd a.c b.c,sadd a.s b.s,(if a.c = 0 then b.mn else if b.c = 0 then a.mn else lo2 a.mn b.mn),hi2 a.mx b.mx,List.zipWith sadd a.h b.h,List.zipWith hi2 a.r b.r,[List.zipWith sadd a.p b.p,List.zipWith sadd a.q b.q]):=by
 have l1:=ha.hh.1
 have l2:=hb.hh.1
 have l3:=ha.hr.1
 have l4:=hb.hr.1
 have l5:=ha.hp.1
 have l6:=hb.hp.1
 have l7:=ha.hq.1
 have l8:=hb.hq.1
 unfold spec_l3Merge.f
 refine ev_bind0 (spec_add_is ha.hc hb.hc) (ev_bind0 (spec_add_is ha.hs hb.hs) (ev_bind0 (spec_min_is _ _) (ev_bind0 (spec_max_is _ _) (Ev.bind (spec_sum_ev _ _ 8 _ _ ha.hh hb.hh (by omega)) (Ev.bind (a:=List.zipWith sadd a.p b.p) (spec_sum_ev a.p b.p 4 _ _ ha.hp hb.hp (by omega)) (Ev.bind (a:=List.zipWith sadd a.q b.q) (spec_sum_ev a.q b.q 4 _ _ ha.hq hb.hq (by omega)) (ev_pos ?_ (ev_some ?_))))))))
 ·refine ⟨⟨l1,l3,rfl,l2,l4,rfl⟩,⟨by rw [List.length_zipWith];omega,by rw [List.length_zipWith];omega,by rw [List.length_zipWith];omega⟩,by rw [List.length_zipWith];omega,fun i hi => ?_⟩
  rw [spec_max_is,zip_getD hi2 _ _ i (by omega) (by omega)]
 ·have m1:=Su.mn0 ha
  have m2:=Su.mn0 hb
  have e:spec_l3Merge.lo a.c a.mn b.c b.mn (lo2 a.mn b.mn) = (if a.c = 0 then b.mn else if b.c = 0 then a.mn else lo2 a.mn b.mn):=by
   unfold spec_l3Merge.lo
   by_cases e1:a.c = 0
   ·by_cases e2:b.c = 0
    ·rw [if_pos e2,if_pos e1,m1 e1,m2 e2]
    ·rw [if_neg e2,if_pos e1,if_pos e1]
   ·rw [if_neg e1,if_neg e1]
  rw [e]
noncomputable def mrgV (c s lo hi:Int) (h r:List Int) (R:List (List Int)) (c' s' lo' hi':Int) (h' r':List Int) (R':List (List Int)):Int × Int × Int × Int × List Int × List Int × List (List Int) × Bool :=
 if skOk c s lo hi h r R = true ∧ skOk c' s' lo' hi' h' r' R' = true then suOut (Su.mrg ⟨c,s,lo,hi,h,r,rd_L3 R 0,rd_L3 R 1⟩ ⟨c',s',lo',hi',h',r',rd_L3 R' 0,rd_L3 R' 1⟩) true else (0,0,0,0,[],[],[],false)
theorem impl_mrg_ev (c s lo hi:Int) (h r:List Int) (R:List (List Int)) (c' s' lo' hi':Int) (h' r':List Int) (R':List (List Int)):Ev (fun k => impl_Merge.f k c s lo hi h r R c' s' lo' hi' h' r' R') (mrgV c s lo hi h r R c' s' lo' hi' h' r' R'):=by
 have ea:=impl_sketchOk_ev c s lo hi h r R
 have eb:=impl_sketchOk_ev c' s' lo' hi' h' r' R'
 unfold mrgV
 cases oa:skOk c s lo hi h r R with
 | false =>
  rw [oa] at ea;rw [if_neg (by simp)];unfold impl_Merge.f;exact Ev.bind ea (ev_neg (by simp) (ev_some rfl))
 | true =>
  cases ob:skOk c' s' lo' hi' h' r' R' with
  | false =>
   rw [oa] at ea;rw [ob] at eb;rw [if_neg (by simp)];unfold impl_Merge.f;exact Ev.bind ea (ev_pos (by trivial) (Ev.bind eb (ev_neg (by simp) (ev_some rfl))))
  | true =>
   have ha:=skOk_true.1 oa;have hb:=skOk_true.1 ob;obtain ⟨p,q,rfl⟩:=two_rows ha.2.2.2.2.2.1;obtain ⟨p',q',rfl⟩:=two_rows hb.2.2.2.2.2.1;rw [if_pos ⟨rfl,rfl⟩];exact impl_merge_ev (a:=⟨c,s,lo,hi,h,r,p,q⟩) (b:=⟨c',s',lo',hi',h',r',p',q'⟩) (skOk_su ha) (skOk_su hb)
theorem mrgV_su {a b:Su} (ha:a.Ok) (hb:b.Ok):mrgV a.c a.s a.mn a.mx a.h a.r [a.p,a.q] b.c b.s b.mn b.mx b.h b.r [b.p,b.q] = suOut (Su.mrg a b) true:=by
 unfold mrgV
 rw [if_pos ⟨skOk_true.2 (su_skOk ha),skOk_true.2 (su_skOk hb)⟩]
 rfl
theorem su_of_ok {c s lo hi:Int} {h r:List Int} {R:List (List Int)} (o:skOk c s lo hi h r R = true):∃ a:Su,a.Ok ∧ a.c = c ∧ a.s = s ∧ a.mn = lo ∧ a.mx = hi ∧ a.h = h ∧ a.r = r ∧ [a.p,a.q] = R:=by
 have ha:=skOk_true.1 o
 obtain ⟨p,q,rfl⟩:=two_rows ha.2.2.2.2.2.1
 exact ⟨⟨c,s,lo,hi,h,r,p,q⟩,skOk_su ha,rfl,rfl,rfl,rfl,rfl,rfl,rfl⟩
noncomputable def addE (ke wi:Int) (l:List S70) (c s lo hi:Int) (h r:List Int) (R:List (List Int)) (ke' wi':Int) (l':List S70) (c' s' lo' hi':Int) (h' r':List Int) (R':List (List Int)):Int × Int × List S70 × Int × Int × Int × Int × List Int × List Int × List (List Int) × Bool :=
 if entryOk ke wi l c s lo hi h r R = true ∧ entryOk ke' wi' l' c' s' lo' hi' h' r' R' = true ∧ ke = ke' ∧ wi = wi' ∧ setApart l l' = true then
  (ke,wi,joinL l l',(mrgV c s lo hi h r R c' s' lo' hi' h' r' R').1,(mrgV c s lo hi h r R c' s' lo' hi' h' r' R').2.1,(mrgV c s lo hi h r R c' s' lo' hi' h' r' R').2.2.1,(mrgV c s lo hi h r R c' s' lo' hi' h' r' R').2.2.2.1,(mrgV c s lo hi h r R c' s' lo' hi' h' r' R').2.2.2.2.1,(mrgV c s lo hi h r R c' s' lo' hi' h' r' R').2.2.2.2.2.1,(mrgV c s lo hi h r R c' s' lo' hi' h' r' R').2.2.2.2.2.2.1,true)
 else (0,0,[],0,0,0,0,[],[],[],false)
theorem entryOk_skOk {ke wi:Int} {ids:List S70} {c s mn mx:Int} {h r:List Int} {R:List (List Int)} (e:entryOk ke wi ids c s mn mx h r R = true):skOk c s mn mx h r R = true:=by
 unfold entryOk at e
 simp only [Bool.and_eq_true] at e
 simp [e]
theorem setApart_ok {a b:List S70} (e:setApart a b = true):setOk a = true ∧ setOk b = true:=by
 unfold setApart at e
 simp only [Bool.and_eq_true] at e
 exact ⟨e.1.1,e.1.2⟩
theorem spec_l3Mrg_ev {c s lo hi:Int} {h r:List Int} {R:List (List Int)} {c' s' lo' hi':Int} {h' r':List Int} {R':List (List Int)} (oa:skOk c s lo hi h r R = true) (ob:skOk c' s' lo' hi' h' r' R' = true) :
  Ev (fun k => spec_l3Merge.f k c s lo hi h r R c' s' lo' hi' h' r' R') ((mrgV c s lo hi h r R c' s' lo' hi' h' r' R').1,(mrgV c s lo hi h r R c' s' lo' hi' h' r' R').2.1,(mrgV c s lo hi h r R c' s' lo' hi' h' r' R').2.2.1,(mrgV c s lo hi h r R c' s' lo' hi' h' r' R').2.2.2.1,(mrgV c s lo hi h r R c' s' lo' hi' h' r' R').2.2.2.2.1,(mrgV c s lo hi h r R c' s' lo' hi' h' r' R').2.2.2.2.2.1,(mrgV c s lo hi h r R c' s' lo' hi' h' r' R').2.2.2.2.2.2.1):=by
 have ha:=skOk_true.1 oa
 have hb:=skOk_true.1 ob
 obtain ⟨p,q,rfl⟩:=two_rows ha.2.2.2.2.2.1
 obtain ⟨p',q',rfl⟩:=two_rows hb.2.2.2.2.2.1
 unfold mrgV
 rw [if_pos ⟨oa,ob⟩]
 exact spec_l3Merge_ev (a:=⟨c,s,lo,hi,h,r,p,q⟩) (b:=⟨c',s',lo',hi',h',r',p',q'⟩) (skOk_su ha) (skOk_su hb)
theorem specA_of (ke wi:Int) (l:List S70) (c s lo hi:Int) (h r:List Int) (R:List (List Int)) (ke' wi':Int) (l':List S70) (c' s' lo' hi':Int) (h' r':List Int) (R':List (List Int)) (hl:l.length ≤ 1048576) (hl':l'.length ≤ 1048576) {e1 e2 c1 s1 ag ah:Int} {l1:List S70} {g1 r1:List Int} {R1:List (List Int)} {t:Bool}
  (ee:addE ke wi l c s lo hi h r R ke' wi' l' c' s' lo' hi' h' r' R' = (e1,e2,l1,c1,s1,ag,ah,g1,r1,R1,t)):SpecA ke wi l c s lo hi h r R ke' wi' l' c' s' lo' hi' h' r' R' e1 e2 l1 c1 s1 ag ah g1 r1 R1 t:=by
 intro w q x y z q' x' y' z' u u'
 obtain ⟨K1,k1⟩:=spec_entryOk_ev ke wi l c s lo hi h r R hl
 obtain ⟨K2,k2⟩:=spec_entryOk_ev ke' wi' l' c' s' lo' hi' h' r' R' hl'
 obtain ⟨K3,k3⟩:=spec_setApart_ev l l' hl hl'
 by_cases h1:entryOk ke wi l c s lo hi h r R = true
 ·rw [h1] at k1
  by_cases h2:entryOk ke' wi' l' c' s' lo' hi' h' r' R' = true
  ·rw [h2] at k2
   by_cases h3:ke = ke'
   ·by_cases h4:wi = wi'
    ·by_cases h5:setApart l l' = true
     ·rw [h5] at k3
      rw [addE,if_pos ⟨h1,h2,h3,h4,h5⟩] at ee;simp only [Prod.mk.injEq] at ee;obtain ⟨rfl,rfl,rfl,rfl,rfl,rfl,rfl,rfl,rfl,rfl,rfl⟩:=ee;subst h3 h4;obtain ⟨n1,b1⟩:=(setOk_iff l).1 (setApart_ok h5).1;obtain ⟨n2,b2⟩:=(setOk_iff l').1 (setApart_ok h5).2;obtain ⟨K4,k4⟩:=spec_join_ev l l' b1 n1 hl b2 n2.le hl';obtain ⟨K5,k5⟩:=spec_l3Mrg_ev (entryOk_skOk h1) (entryOk_skOk h2);exact spec_EntryAdd.w6 (K1 + K2 + K3 + K4 + K5) _ _ _ _ _ _ _ _ _ _ _ _ _ _ _ _ _ _ ⟨u⟩ ⟨u'⟩ ⟨k1 _ (by omega)⟩ ⟨k2 _ (by omega)⟩ ⟨k3 _ (by omega)⟩ ⟨k4 _ (by omega)⟩ ⟨k5 _ (by omega)⟩
     ·rw [addE,if_neg (fun e => h5 e.2.2.2.2)] at ee
      simp only [Prod.mk.injEq] at ee;obtain ⟨rfl,rfl,rfl,rfl,rfl,rfl,rfl,rfl,rfl,rfl,rfl⟩:=ee;rw [Bool.not_eq_true] at h5;rw [h5] at k3;subst h3 h4;exact spec_EntryAdd.w5 (K1 + K2 + K3) _ _ _ _ _ _ _ _ _ _ ⟨u⟩ ⟨u'⟩ ⟨k1 _ (by omega)⟩ ⟨k2 _ (by omega)⟩ ⟨k3 _ (by omega)⟩
    ·rw [addE,if_neg (fun e => h4 e.2.2.2.1)] at ee
     simp only [Prod.mk.injEq] at ee;obtain ⟨rfl,rfl,rfl,rfl,rfl,rfl,rfl,rfl,rfl,rfl,rfl⟩:=ee;subst h3;exact spec_EntryAdd.w4 (K1 + K2) _ _ _ _ _ _ _ _ _ _ _ ⟨u⟩ ⟨u'⟩ ⟨k1 _ (by omega)⟩ ⟨k2 _ (by omega)⟩ ⟨h4⟩
   ·rw [addE,if_neg (fun e => h3 e.2.2.1)] at ee
    simp only [Prod.mk.injEq] at ee;obtain ⟨rfl,rfl,rfl,rfl,rfl,rfl,rfl,rfl,rfl,rfl,rfl⟩:=ee;exact spec_EntryAdd.w3 (K1 + K2) _ _ _ _ _ _ _ _ _ _ _ _ ⟨u⟩ ⟨u'⟩ ⟨k1 _ (by omega)⟩ ⟨k2 _ (by omega)⟩ ⟨h3⟩
  ·rw [addE,if_neg (fun e => h2 e.2.1)] at ee
   simp only [Prod.mk.injEq] at ee;obtain ⟨rfl,rfl,rfl,rfl,rfl,rfl,rfl,rfl,rfl,rfl,rfl⟩:=ee;rw [Bool.not_eq_true] at h2;rw [h2] at k2;exact spec_EntryAdd.w2 (K1 + K2) _ _ _ _ _ _ _ _ _ _ _ _ ⟨u⟩ ⟨u'⟩ ⟨k1 _ (by omega)⟩ ⟨k2 _ (by omega)⟩
 ·rw [addE,if_neg (fun e => h1 e.1)] at ee
  simp only [Prod.mk.injEq] at ee;obtain ⟨rfl,rfl,rfl,rfl,rfl,rfl,rfl,rfl,rfl,rfl,rfl⟩:=ee;rw [Bool.not_eq_true] at h1;rw [h1] at k1;exact spec_EntryAdd.w1 (K1) _ _ _ _ _ _ _ _ _ _ _ _ ⟨u⟩ ⟨u'⟩ ⟨k1 _ (by omega)⟩
theorem implA_of (ke wi:Int) (l:List S70) (c s lo hi:Int) (h r:List Int) (R:List (List Int)) (ke' wi':Int) (l':List S70) (c' s' lo' hi':Int) (h' r':List Int) (R':List (List Int)) (hl:l.length ≤ 1048576) (hl':l'.length ≤ 1048576) {e1 e2 c1 s1 ag ah:Int} {l1:List S70} {g1 r1:List Int} {R1:List (List Int)} {t:Bool}
  (ee:addE ke wi l c s lo hi h r R ke' wi' l' c' s' lo' hi' h' r' R' = (e1,e2,l1,c1,s1,ag,ah,g1,r1,R1,t)):ImplA ke wi l c s lo hi h r R ke' wi' l' c' s' lo' hi' h' r' R' e1 e2 l1 c1 s1 ag ah g1 r1 R1 t:=by
 intro w q x y z q' x' y' z' u u'
 obtain ⟨K1,k1⟩:=impl_entryOk_ev ke wi l c s lo hi h r R hl
 obtain ⟨K2,k2⟩:=impl_entryOk_ev ke' wi' l' c' s' lo' hi' h' r' R' hl'
 obtain ⟨K3,k3⟩:=impl_setApart_ev l l' hl hl'
 by_cases h1:entryOk ke wi l c s lo hi h r R = true
 ·rw [h1] at k1
  by_cases h2:entryOk ke' wi' l' c' s' lo' hi' h' r' R' = true
  ·rw [h2] at k2
   by_cases h3:ke = ke'
   ·by_cases h4:wi = wi'
    ·by_cases h5:setApart l l' = true
     ·rw [h5] at k3
      rw [addE,if_pos ⟨h1,h2,h3,h4,h5⟩] at ee;simp only [Prod.mk.injEq] at ee;obtain ⟨rfl,rfl,rfl,rfl,rfl,rfl,rfl,rfl,rfl,rfl,rfl⟩:=ee;subst h3 h4;have J:=impl_setJoin_ev l l' hl hl';rw [show joinV l l' = (joinL l l',true) from if_pos (setApart_ok h5)] at J;obtain ⟨K4,k4⟩:=J;obtain ⟨K5,k5⟩:=impl_mrg_ev c s lo hi h r R c' s' lo' hi' h' r' R';exact impl_EntryAdd.w6 (K1 + K2 + K3 + K4 + K5) _ _ _ _ _ _ _ _ _ _ _ _ _ _ _ _ _ _ _ _ ⟨u⟩ ⟨u'⟩ ⟨k1 _ (by omega)⟩ ⟨k2 _ (by omega)⟩ ⟨k3 _ (by omega)⟩ ⟨k4 _ (by omega)⟩ ⟨k5 _ (by omega)⟩
     ·rw [addE,if_neg (fun e => h5 e.2.2.2.2)] at ee
      simp only [Prod.mk.injEq] at ee;obtain ⟨rfl,rfl,rfl,rfl,rfl,rfl,rfl,rfl,rfl,rfl,rfl⟩:=ee;rw [Bool.not_eq_true] at h5;rw [h5] at k3;subst h3 h4;exact impl_EntryAdd.w5 (K1 + K2 + K3) _ _ _ _ _ _ _ _ _ _ ⟨u⟩ ⟨u'⟩ ⟨k1 _ (by omega)⟩ ⟨k2 _ (by omega)⟩ ⟨k3 _ (by omega)⟩
    ·rw [addE,if_neg (fun e => h4 e.2.2.2.1)] at ee
     simp only [Prod.mk.injEq] at ee;obtain ⟨rfl,rfl,rfl,rfl,rfl,rfl,rfl,rfl,rfl,rfl,rfl⟩:=ee;subst h3;exact impl_EntryAdd.w4 (K1 + K2) _ _ _ _ _ _ _ _ _ _ _ ⟨u⟩ ⟨u'⟩ ⟨k1 _ (by omega)⟩ ⟨k2 _ (by omega)⟩ ⟨h4⟩
   ·rw [addE,if_neg (fun e => h3 e.2.2.1)] at ee
    simp only [Prod.mk.injEq] at ee;obtain ⟨rfl,rfl,rfl,rfl,rfl,rfl,rfl,rfl,rfl,rfl,rfl⟩:=ee;exact impl_EntryAdd.w3 (K1 + K2) _ _ _ _ _ _ _ _ _ _ _ _ ⟨u⟩ ⟨u'⟩ ⟨k1 _ (by omega)⟩ ⟨k2 _ (by omega)⟩ ⟨h3⟩
  ·rw [addE,if_neg (fun e => h2 e.2.1)] at ee
   simp only [Prod.mk.injEq] at ee;obtain ⟨rfl,rfl,rfl,rfl,rfl,rfl,rfl,rfl,rfl,rfl,rfl⟩:=ee;rw [Bool.not_eq_true] at h2;rw [h2] at k2;exact impl_EntryAdd.w2 (K1 + K2) _ _ _ _ _ _ _ _ _ _ _ _ ⟨u⟩ ⟨u'⟩ ⟨k1 _ (by omega)⟩ ⟨k2 _ (by omega)⟩
 ·rw [addE,if_neg (fun e => h1 e.1)] at ee
  simp only [Prod.mk.injEq] at ee;obtain ⟨rfl,rfl,rfl,rfl,rfl,rfl,rfl,rfl,rfl,rfl,rfl⟩:=ee;rw [Bool.not_eq_true] at h1;rw [h1] at k1;exact impl_EntryAdd.w1 (K1) _ _ _ _ _ _ _ _ _ _ _ _ ⟨u⟩ ⟨u'⟩ ⟨k1 _ (by omega)⟩
theorem l6Right_at (l:List Int) (hl:l.length ≤ 281474976702464) (p:Nat) (hp:p ≤ l.length) (r0:Int) :
  ∃ (sq cl ke wi c s mn mx:Int) (h g a b:List Int) (q:Nat) (z:Int),Ev (fun k => spec_l6Right.f k l (p:Int) r0) (sq,cl,ke,wi,c,s,mn,mx,h,g,[a,b],(q:Int),z) ∧ (1 ≤ sq ∧ sq ≤ 8) ∧ (0 ≤ cl ∧ cl ≤ 1) ∧ (0 ≤ ke ∧ ke ≤ 1) ∧ (0 ≤ wi ∧ wi ≤ 2) ∧ skOk c s mn mx h g [a,b] = true ∧ h.length = 8 ∧ g.length = 8 ∧ a.length = 4 ∧ b.length = 4 ∧ q ≤ l.length:=by
 obtain ⟨v1,a1,b1,f1,aD,ax⟩:=l1Below_is l hl p hp r0 8 (by omega) (by omega)
 obtain ⟨v2,a2,b2,f2,aE,ay⟩:=l1Below_is l hl a1 ax b1 2 (by omega) (by omega)
 obtain ⟨v3,a3,b3,f3,aF,az⟩:=l1Below_is l hl a2 ay b2 2 (by omega) (by omega)
 obtain ⟨v4,a4,b4,f4,aG,a7⟩:=l1Below_is l hl a3 az b3 3 (by omega) (by omega)
 obtain ⟨ys,q2,s2,f5,hy,aa⟩:=l3Values_ev l hl a4 a7 b4
 have ok:=suOf_ok ys
 have hs:=spec_sketched_ev ys (by omega)
 have w1:wrap64 (1 + (v1:Int)) = 1 + (v1:Int):=w64 (by omega) (by omega)
 have hR:Ev (fun k => spec_l6Right.f k l (p:Int) r0) (wrap64 (1 + (v1:Int)),(v2:Int),(v3:Int),(v4:Int),(suOf ys).c,(suOf ys).s,(suOf ys).mn,(suOf ys).mx,(suOf ys).h,(suOf ys).r,[(suOf ys).p,(suOf ys).q],(q2:Int),s2):=by
  unfold spec_l6Right.f;exact ev_bind0 f1 (ev_bind0 f2 (ev_bind0 f3 (ev_bind0 f4 (Ev.bind f5 (Ev.bind hs (ev_some rfl))))))
 clear hs
 rw [w1] at hR
 clear w1
 generalize suOf ys = S at ok hR
 exact ⟨1 + (v1:Int),(v2:Int),(v3:Int),(v4:Int),S.c,S.s,S.mn,S.mx,S.h,S.r,S.p,S.q,q2,s2,hR,⟨by omega,by omega⟩,⟨by omega,by omega⟩,⟨by omega,by omega⟩,⟨by omega,by omega⟩,skOk_true.2 (su_skOk ok),ok.hh.1,ok.hr.1,ok.hp.1,ok.hq.1,aa⟩
theorem specId_is {v sq:Int} (h1:0 ≤ v ∧ v ≤ 2) (h2:1 ≤ sq ∧ sq ≤ 60):spec_IdOf.f v sq = some (100 * v + sq):=by
 have e1:spec_l1In.f v 0 2 = some true:=by rw [l1In_is,decide_eq_true h1]
 have e2:spec_l1In.f sq 1 60 = some true:=by rw [l1In_is,decide_eq_true h2]
 have e3:wrap64 (wrap64 (100 * v) + sq) = 100 * v + sq:=by rw [w64 (x:=100 * v) (by omega) (by omega),w64 (by omega) (by omega)]
 unfold spec_IdOf.f spec_l6Agent.f
 simp [e1,e2,e3]
theorem en_ev (l:List Int) (hl:l.length ≤ 281474976702464) (p:Nat) (hp:p ≤ l.length) (r0:Int) :
  ∃ (ke wi c s lo hi:Int) (li:List S70) (h r:List Int) (R:List (List Int)) (q:Nat) (z:Int),(∃ K,∀ k,K ≤ k → EnE k l (p:Int) r0 ke wi c s lo hi li h r R (q:Int) z) ∧ li.length ≤ 8 ∧ h.length ≤ 9 ∧ r.length ≤ 9 ∧ R.length ≤ 2 ∧ (∀ x ∈ R,x.length ≤ 9) ∧ q ≤ l.length:=by
 obtain ⟨v,q1,s1,e1,hv,ad⟩:=l1Below_is l hl p hp r0 3 (by omega) (by omega)
 obtain ⟨sq,cl,ke,wi,c,s,lo,hi,h,r,ra,rb,q2,s2,hR,b1,b2,b3,b4,b5,k1,k2,k3,k4,aa⟩:=l6Right_at l hl q1 ad s1
 have hI:=specId_is (v:=(v:Int)) (sq:=sq) ⟨by omega,by omega⟩ ⟨by omega,by omega⟩
 have hO:=spec_itemOk_ev sq cl ke wi c s lo hi h r [ra,rb]
 have a8:itemOk sq cl ke wi c s lo hi h r [ra,rb] = true:=by
  unfold itemOk;simp only [Bool.and_eq_true,decide_eq_true_eq];exact ⟨⟨by omega,by omega⟩,b2,⟨by omega,by omega⟩,⟨by omega,by omega⟩,b5⟩
 rw [a8] at hO
 have hid:¬ 100 * (v:Int) + sq < 0:=by omega
 generalize 100 * (v:Int) + sq = id at hI hid
 have hxx:∀ x ∈ [ra,rb],x.length ≤ 9:=fun x hx => by
  simp only [List.mem_cons,List.not_mem_nil,or_false] at hx
  rcases hx with rfl | rfl <;> omega
 have hC:=spec_copy_ev c s lo hi h r [ra,rb] (by omega) (by omega) (by simp) (fun x hx => Nat.le_trans (hxx x hx) (by omega))
 obtain ⟨t1,q3,s3,g1,ab⟩:=once_at l hl q2 aa s2 4 (by omega) (by omega)
 obtain ⟨li,q4,s4,⟨K4,Y1⟩,N1,bl,ae⟩:∃ (li:List S70) (q4:Nat) (s4:Int),(∃ K,∀ k,K ≤ k → t1 = true → spec_l5Draw.f k l (q3:Int) s3 = some (li,(q4:Int),s4)) ∧ (t1 = false → li = [⟨id,id⟩] ∧ (q4:Int) = (q3:Int) ∧ s4 = s3) ∧ li.length ≤ 8 ∧ q4 ≤ l.length:=by
  cases t1 with
  | false => exact ⟨_,q3,s3,⟨0,fun _ _ e => nomatch e⟩,fun _ => ⟨rfl,rfl,rfl⟩,by simp,ab⟩
  | true =>
   obtain ⟨li,q4,s4,⟨K,h⟩,b,hq⟩:=l5Draw_ev l hl q3 ab s3;exact ⟨li,q4,s4,⟨K,fun k hk _ => h k hk⟩,fun e => (nomatch e),b,hq⟩
 obtain ⟨t2,q5,s5,g2,af⟩:=once_at l hl q4 ae s4 14 (by omega) (by omega)
 obtain ⟨c',s',lo',hi',h',r',R',q6,s6,⟨K6,Y2⟩,N2,d1,d2,d3,d4,ak⟩:∃ (c' s' lo' hi':Int) (h' r':List Int) (R':List (List Int)) (q6:Nat) (s6:Int),(∃ K,∀ k,K ≤ k → t2 = true → spec_l3Draw.f k l (q5:Int) s5 = some (c',s',lo',hi',h',r',R',(q6:Int),s6)) ∧
   (t2 = false → c' = c ∧ s' = s ∧ lo' = lo ∧ hi' = hi ∧ h' = h ∧ r' = r ∧ R' = [ra,rb] ∧ (q6:Int) = (q5:Int) ∧ s6 = s5) ∧ h'.length ≤ 9 ∧ r'.length ≤ 9 ∧ R'.length ≤ 2 ∧ (∀ x ∈ R',x.length ≤ 9) ∧ q6 ≤ l.length:=by
  cases t2 with
  | false => exact ⟨_,_,_,_,_,_,_,q5,s5,⟨0,fun _ _ e => nomatch e⟩,fun _ => ⟨rfl,rfl,rfl,rfl,rfl,rfl,rfl,rfl,rfl⟩,by omega,by omega,by simp,hxx,af⟩
  | true =>
   obtain ⟨c',s',lo',hi',h',r',R',q6,s6,⟨K,h⟩,d1,d2,d3,d4,hq⟩:=l3Draw_ev l hl q5 af s5;exact ⟨c',s',lo',hi',h',r',R',q6,s6,⟨K,fun k hk _ => h k hk⟩,fun e => (nomatch e),d1,d2,d3,d4,hq⟩
 obtain ⟨t3,q7,s7,g3,al⟩:=once_at l hl q6 ak s6 20 (by omega) (by omega)
 obtain ⟨ke',q8,s8,Y3,N3,aA⟩:∃ (ke':Int) (q8:Nat) (s8:Int),(t3 = true → spec_l1PickInt.f l (q7:Int) s7 [(-1),5] = some (ke',(q8:Int),s8)) ∧ (t3 = false → ke' = ke ∧ (q8:Int) = (q7:Int) ∧ s8 = s7) ∧ q8 ≤ l.length:=by
  cases t3 with
  | false => exact ⟨_,q7,s7,fun e => (nomatch e),fun _ => ⟨rfl,rfl,rfl⟩,al⟩
  | true =>
   obtain ⟨x,q8,s8,h,hq⟩:=pick_at l hl q7 al s7 [(-1),5] (by simp) (by simp);exact ⟨x,q8,s8,fun _ => h,fun e => (nomatch e),hq⟩
 obtain ⟨K1,hR⟩:=hR
 obtain ⟨K2,hO⟩:=hO
 obtain ⟨K3,hC⟩:=hC
 exact ⟨ke',wi,c',s',lo',hi',li,h',r',R',q8,s8,⟨K1 + K2 + K3 + K4 + K6,fun k hk => ⟨_,_,_,_,_,_,_,_,_,_,_,_,_,_,_,_,_,_,_,_,_,_,_,_,_,_,_,_,_,⟨e1,hR k (by omega),hI,hO k (by omega),hid,hC k (by omega),g1,Y1 k (by omega),N1,g2,Y2 k (by omega),N2,g3,Y3,N3⟩⟩⟩,bl,d1,d2,d3,d4,aA⟩
theorem l5copy_is (l:List S70) (h:l.length ≤ 1048576):spec_l5Copy.f l = some l:=by
 unfold spec_l5Copy.f
 simp only [Option.bind_some]
 rw [if_pos (by simp;omega)]
 simp
theorem et_ev (l:List Int) (hl:l.length ≤ 281474976702464) :
  ∃ (ke wi c s lo hi:Int) (li:List S70) (h r:List Int) (R:List (List Int)) (kb wb cb sb lob hib:Int) (lb:List S70) (hb rb:List Int) (Rb:List (List Int)),(∃ K,∀ k,K ≤ k → EtE k l ke wi c s lo hi li h r R kb wb cb sb lob hib lb hb rb Rb) ∧ li.length ≤ 8 ∧ lb.length ≤ 8:=by
 obtain ⟨s0,⟨K0,h0⟩⟩:=l1New_ev l
 obtain ⟨ke,wi,c,s,lo,hi,li,h,r,R,q1,s1,⟨K1,h1⟩,b1,b2,b3,b4,b5,ad⟩:=en_ev l hl 0 (by omega) s0
 obtain ⟨ke',wi',c',s',lo',hi',li',h',r',R',q2,s2,⟨K2,h2⟩,d1,d2,d3,d4,d5,aa⟩:=en_ev l hl q1 ad s1
 obtain ⟨t1,q3,s3,g1,ab⟩:=once_at l hl q2 aa s2 4 (by omega) (by omega)
 obtain ⟨kx,wx,Y1,N1⟩:∃ kx wx:Int,(t1 = true → kx = ke' ∧ wx = wi') ∧ (t1 = false → kx = ke ∧ wx = wi):=by
  cases t1 with
  | false => exact ⟨ke,wi,fun e => (nomatch e),fun _ => ⟨rfl,rfl⟩⟩
  | true => exact ⟨ke',wi',fun _ => ⟨rfl,rfl⟩,fun e => (nomatch e)⟩
 obtain ⟨t2,q4,s4,g2,ae⟩:=once_at l hl q3 ab s3 6 (by omega) (by omega)
 obtain ⟨K3,h3⟩:=spec_copy_ev c s lo hi h r R (by omega) (by omega) (by omega) (fun x hx => Nat.le_trans (b5 x hx) (by omega))
 have h5:=l5copy_is li (by omega)
 cases t2 with
 | false => exact ⟨ke,wi,c,s,lo,hi,li,h,r,R,kx,wx,c',s',lo',hi',li',h',r',R',⟨K0 + K1 + K2,fun k hk => ⟨_,_,_,_,_,_,_,_,_,_,_,_,_,_,_,_,_,_,_,_,_,_,_,_,_,⟨h0 k (by omega),h1 k (by omega),h2 k (by omega),g1,Y1,N1,g2,fun e => (nomatch e),fun _ => ⟨rfl,rfl,rfl,rfl,rfl,rfl,rfl,rfl,rfl,rfl⟩⟩⟩⟩,b1,d1⟩
 | true => exact ⟨ke,wi,c,s,lo,hi,li,h,r,R,ke,wi,c,s,lo,hi,li,h,r,R,⟨K0 + K1 + K2 + K3,fun k hk => ⟨_,_,_,_,_,_,_,_,_,_,_,_,_,_,_,_,_,_,_,_,_,_,_,_,_,⟨h0 k (by omega),h1 k (by omega),h2 k (by omega),g1,Y1,N1,g2,fun _ => ⟨h5,h3 k (by omega),rfl,rfl,rfl,rfl,rfl,rfl,rfl,rfl,rfl,rfl⟩,fun e => (nomatch e)⟩⟩⟩,b1,b1⟩
theorem cpos_zip (f:Int → Int → Int) (hf:∀ x y,f x y > 0 → x > 0 ∨ y > 0) (xs:List Int):∀ ys:List Int,cpos (List.zipWith f xs ys) ≤ cpos xs + cpos ys:=by
 induction xs with
 | nil => intro ys;simp [cpos]
 | cons x xs ih =>
  intro ys
  cases ys with
  | nil => simp [cpos]
  | cons y ys =>
   have:=ih ys;have:=hf x y;rw [List.zipWith_cons_cons,cpos_cons,cpos_cons,cpos_cons]
   repeat' split
   all_goals omega
theorem sadd_pos (x y:Int) (h:sadd x y > 0):x > 0 ∨ y > 0:=by unfold sadd at h;split at h <;> omega
theorem hi2_pos (x y:Int) (h:hi2 x y > 0):x > 0 ∨ y > 0:=by unfold hi2 at h;split at h <;> omega
theorem not_apart {a b:List S70} (ha:Nrm a) (hA:Bd a) (hb:Nrm b) (hB:Bd b) {n:Int} (h0:0 ≤ n) (h1:n ≤ 9999) (hn:hasN a n) (hm:hasN b n):¬ setApart a b = true:=fun e => by
 have e0:=(setApart_iff ha hA hb hB).1 e
 unfold card at e0
 have e1:=List.countP_eq_zero.1 e0 n.toNat (List.mem_range.2 (by omega))
 have hc:((n.toNat:Nat):Int) = n:=Int.toNat_of_nonneg h0
 have a1:hasB a n.toNat = true:=(hasB_iff a n.toNat).2 (by rw [hc];exact hn)
 have b1:hasB b n.toNat = true:=(hasB_iff b n.toNat).2 (by rw [hc];exact hm)
 rw [a1,b1] at e1
 exact e1 rfl
theorem first_in {s:List S70} (hs:Nrm s) (hS:Bd s) (hl:0 < s.length):∃ n:Int,0 ≤ n ∧ n ≤ 9999 ∧ hasN s n:=by
 cases s with
 | nil => cases hl
 | cons x xs =>
  have h1:=hs.le x (by simp);have h2:=hS x (by simp);exact ⟨x.f0,h2.1,by omega,x,by simp,by omega,h1⟩
theorem entryOk_parts {ke wi:Int} {ids:List S70} {c s mn mx:Int} {h r:List Int} {R:List (List Int)} (e:entryOk ke wi ids c s mn mx h r R = true):(0 ≤ ke ∧ ke ≤ 4) ∧ (0 ≤ wi ∧ wi ≤ 20) ∧ 0 < ids.length ∧ (Nrm ids ∧ Bd ids) ∧ skOk c s mn mx h r R = true:=by
 unfold entryOk at e
 simp only [Bool.and_eq_true,decide_eq_true_eq] at e
 exact ⟨e.1,e.2.1,by omega,(setOk_iff ids).1 e.2.2.2.1,e.2.2.2.2⟩
theorem entryOk_mk {ke wi:Int} {ids:List S70} {c s mn mx:Int} {h r:List Int} {R:List (List Int)} (h1:0 ≤ ke ∧ ke ≤ 4) (h2:0 ≤ wi ∧ wi ≤ 20) (h3:0 < ids.length) (h4:Nrm ids ∧ Bd ids) (h5:skOk c s mn mx h r R = true):entryOk ke wi ids c s mn mx h r R = true:=by
 unfold entryOk
 rw [decide_eq_true h1,decide_eq_true h2,decide_eq_true (by omega:(ids.length:Int) > 0),(setOk_iff ids).2 h4,h5]
 rfl
theorem enSame_self (ke wi:Int) (ids:List S70) (c s mn mx:Int) (h r:List Int) (R:List (List Int)):enSame ke wi ids c s mn mx h r R ke wi ids c s mn mx h r R = true:=by
 simp [enSame,skSame,eqI_self,eqII_self,spans_self]
theorem law (A:Option Addr) (cp:Nat) (l:List Int) (w:World) (C:(Kd.int .u8).C w A l.length l) (lc:l.length ≤ cp) (hg:l.length ≤ 9223372036854775807 ∧ ∀ x ∈ l,(0 ≤ x ∧ x ≤ 255)) :
  Calls Try.prog 5 #[.slice A l.length cp] w fun e w' => e = .returned (.bool true) ∧ Below w.heap.size w w':=by
 have u:Go.Proofs.Ytdciagkholijlaa.PFnEntries.Bd w ⟨A,l.length,cp⟩ l:=⟨rfl,lc,C⟩
 by_cases hbig:(l.length:Int) > 1048576
 ·exact lawBig A cp l w u (by unfold laws_big.f;rw [decide_eq_true hbig])
 have hB:laws_big.f l = some false:=by unfold laws_big.f;rw [decide_eq_false hbig]
 obtain ⟨ke,wi,c,s,lo,hi,li,h,r,R,kb,wb,cb,sb,lob,hib,lb,hb,rb,Rb,⟨K0,hD⟩,bl,bb⟩:=et_ev l (by omega)
 by_cases P:entryOk ke wi li c s lo hi h r R = true ∧ entryOk kb wb lb cb sb lob hib hb rb Rb = true ∧ ke = kb ∧ wi = wb ∧ setApart li lb = true
 case neg =>
  have P':¬ (entryOk kb wb lb cb sb lob hib hb rb Rb = true ∧ entryOk ke wi li c s lo hi h r R = true ∧ kb = ke ∧ wb = wi ∧ setApart lb li = true):=fun q => P ⟨q.2.1,q.1,q.2.2.1.symm,q.2.2.2.1.symm,by
   obtain ⟨_,_,_,⟨n1,n2⟩,_⟩:=entryOk_parts q.1;obtain ⟨_,_,_,⟨n3,n4⟩,_⟩:=entryOk_parts q.2.1;refine (setApart_iff n3 n4 n1 n2).2 ?_;have:=(setApart_iff n1 n2 n3 n4).1 q.2.2.2.2;rw [← this]
   congr 1
   funext k
   exact Bool.and_comm _ _⟩
  have z1:addE ke wi li c s lo hi h r R kb wb lb cb sb lob hib hb rb Rb = (0,0,[],0,0,0,0,[],[],[],false):=if_neg P;have z2:addE kb wb lb cb sb lob hib hb rb Rb ke wi li c s lo hi h r R = (0,0,[],0,0,0,0,[],[],[],false):=if_neg P';exact lawNo K0 A cp l w u _ _ _ _ _ _ _ _ _ _ _ _ _ _ _ _ _ _ _ _ ⟨⟨hB,hD K0 (Nat.le_refl _),implA_of _ _ _ _ _ _ _ _ _ _ _ _ _ _ _ _ _ _ _ _ (by omega) (by omega) z1,implA_of _ _ _ _ _ _ _ _ _ _ _ _ _ _ _ _ _ _ _ _ (by omega) (by omega) z2,specA_of _ _ _ _ _ _ _ _ _ _ _ _ _ _ _ _ _ _ _ _ (by omega) (by omega) z1⟩⟩
 obtain ⟨oa,ob,rfl,rfl,ap⟩:=P
 obtain ⟨q1,q2,pl,⟨na,ba⟩,sa⟩:=entryOk_parts oa
 obtain ⟨_,_,pb,⟨nb,bB⟩,sB⟩:=entryOk_parts ob
 obtain ⟨a,ha,rfl,rfl,rfl,rfl,rfl,rfl,rfl⟩:=su_of_ok sa
 obtain ⟨b,hb',rfl,rfl,rfl,rfl,rfl,rfl,rfl⟩:=su_of_ok sB
 have hab:=Su.mrg_ok ha hb'
 have nj:=(joinL_ok lb li na nb.le).1
 have bj:=join_bd lb li ba bB
 have lj:=join_len lb li
 have pj:0 < (joinL li lb).length:=by
  obtain ⟨n,_,_,hn⟩:=first_in na ba pl;have:=((joinL_ok lb li na nb.le).2 n).2 (.inl hn);obtain ⟨x,hx,_⟩:=this;exact List.length_pos_of_mem hx
 have oj:entryOk ke wi (joinL li lb) (Su.mrg a b).c (Su.mrg a b).s (Su.mrg a b).mn (Su.mrg a b).mx (Su.mrg a b).h (Su.mrg a b).r [(Su.mrg a b).p,(Su.mrg a b).q] = true:=entryOk_mk q1 q2 pj ⟨nj,bj⟩ (skOk_true.2 (su_skOk hab))
 have aB:=(setApart_iff na ba nb bB).1 ap
 have ap':setApart lb li = true:=by
  refine (setApart_iff nb bB na ba).2 ?_;rw [← aB]
  congr 1
  funext k
  exact Bool.and_comm _ _
 have x1:addE ke wi li a.c a.s a.mn a.mx a.h a.r [a.p,a.q] ke wi lb b.c b.s b.mn b.mx b.h b.r [b.p,b.q] = (ke,wi,joinL li lb,(Su.mrg a b).c,(Su.mrg a b).s,(Su.mrg a b).mn,(Su.mrg a b).mx,(Su.mrg a b).h,(Su.mrg a b).r,[(Su.mrg a b).p,(Su.mrg a b).q],true):=by
  unfold addE;rw [if_pos ⟨oa,ob,rfl,rfl,ap⟩,mrgV_su ha hb']
  rfl
 have x2:addE ke wi lb b.c b.s b.mn b.mx b.h b.r [b.p,b.q] ke wi li a.c a.s a.mn a.mx a.h a.r [a.p,a.q] = (ke,wi,joinL li lb,(Su.mrg a b).c,(Su.mrg a b).s,(Su.mrg a b).mn,(Su.mrg a b).mx,(Su.mrg a b).h,(Su.mrg a b).r,[(Su.mrg a b).p,(Su.mrg a b).q],true):=by
  unfold addE;rw [if_pos ⟨ob,oa,rfl,rfl,ap'⟩,mrgV_su hb' ha,Su.mrg_comm hb' ha,joinL_comm nb na]
  rfl
 have x3:addE ke wi (joinL li lb) (Su.mrg a b).c (Su.mrg a b).s (Su.mrg a b).mn (Su.mrg a b).mx (Su.mrg a b).h (Su.mrg a b).r [(Su.mrg a b).p,(Su.mrg a b).q] ke wi lb b.c b.s b.mn b.mx b.h b.r [b.p,b.q] = (0,0,[],0,0,0,0,[],[],[],false):=if_neg fun q => by
  obtain ⟨n,h0,h1,hn⟩:=first_in nb bB pb;exact not_apart nj bj nb bB h0 h1 (((joinL_ok lb li na nb.le).2 n).2 (.inr hn)) hn q.2.2.2.2
 have x4:addE ke wi li a.c a.s a.mn a.mx a.h a.r [a.p,a.q] ke wi li a.c a.s a.mn a.mx a.h a.r [a.p,a.q] = (0,0,[],0,0,0,0,[],[],[],false):=if_neg fun q => by
  obtain ⟨n,h0,h1,hn⟩:=first_in na ba pl;exact not_apart na ba na ba h0 h1 hn hn q.2.2.2.2
 obtain ⟨K1,e1⟩:=impl_entrySame_ev ke wi (joinL li lb) (Su.mrg a b).c (Su.mrg a b).s (Su.mrg a b).mn (Su.mrg a b).mx (Su.mrg a b).h (Su.mrg a b).r [(Su.mrg a b).p,(Su.mrg a b).q] ke wi (joinL li lb) (Su.mrg a b).c (Su.mrg a b).s (Su.mrg a b).mn (Su.mrg a b).mx (Su.mrg a b).h (Su.mrg a b).r [(Su.mrg a b).p,(Su.mrg a b).q] (by omega) (by rw [hab.hh.1];omega) (by rw [hab.hr.1];omega) (by simp) (fun x hx => by
  simp only [List.mem_cons,List.not_mem_nil,or_false] at hx
  rcases hx with rfl | rfl
  ·rw [hab.hp.1];omega
  ·rw [hab.hq.1];omega)
 rw [enSame_self] at e1
 have e2:=impl_entryOk_ev ke wi (joinL li lb) (Su.mrg a b).c (Su.mrg a b).s (Su.mrg a b).mn (Su.mrg a b).mx (Su.mrg a b).h (Su.mrg a b).r [(Su.mrg a b).p,(Su.mrg a b).q] (by omega)
 rw [oj] at e2
 obtain ⟨K2,e2⟩:=e2
 have e3:=impl_setSize_ev (joinL li lb) (by omega)
 have e4:=impl_setSize_ev li (by omega)
 have e5:=impl_setSize_ev lb (by omega)
 have cj:=card_join na nb
 have aH:=card_le (hasB li)
 have aI:=card_le (hasB lb)
 rw [setSize_is _ (by omega) nj bj,show ((card (hasB (joinL li lb)):Nat):Int) = IntKind.i64.wrap (((card (hasB li):Nat):Int) + ((card (hasB lb):Nat):Int)) by rw [i64_w,w64 (by omega) (by omega)];omega] at e3
 rw [setSize_is _ (by omega) na ba] at e4
 rw [setSize_is _ (by omega) nb bB] at e5
 obtain ⟨K3,e3⟩:=e3
 obtain ⟨K4,e4⟩:=e4
 obtain ⟨K5,e5⟩:=e5
 have e6:=impl_entrySize_ev ke wi (joinL li lb) (Su.mrg a b).c (Su.mrg a b).s (Su.mrg a b).mn (Su.mrg a b).mx (Su.mrg a b).h (Su.mrg a b).r [(Su.mrg a b).p,(Su.mrg a b).q] (by omega)
 have e7:=impl_entrySize_ev ke wi li a.c a.s a.mn a.mx a.h a.r [a.p,a.q] (by omega)
 have e8:=impl_entrySize_ev ke wi lb b.c b.s b.mn b.mx b.h b.r [b.p,b.q] (by omega)
 unfold entrySizeV at e6 e7 e8
 rw [if_pos oj] at e6
 rw [if_pos oa] at e7
 rw [if_pos ob] at e8
 obtain ⟨K6,e6⟩:=e6
 obtain ⟨K7,e7⟩:=e7
 obtain ⟨K8,e8⟩:=e8
 have z1:=cpos_zip sadd sadd_pos a.h b.h
 have z2:=cpos_zip hi2 hi2_pos a.r b.r
 have z3:=cpos_zip sadd sadd_pos a.p b.p
 have z4:=cpos_zip sadd sadd_pos a.q b.q
 have y1:=cpos_le a.h
 have y2:=cpos_le a.r
 have y3:=cpos_le a.p
 have y4:=cpos_le a.q
 have y5:=cpos_le b.h
 have y6:=cpos_le b.r
 have y7:=cpos_le b.p
 have y8:=cpos_le b.q
 have l1:=ha.hh.1
 have l2:=ha.hr.1
 have l3:=ha.hp.1
 have l4:=ha.hq.1
 have l5:=hb'.hh.1
 have l6:=hb'.hr.1
 have l7:=hb'.hp.1
 have l8:=hb'.hq.1
 have hcc:a.c ≤ (Su.mrg a b).c:=by
  have k1:=ha.hc;have k2:=hb'.hc
  show a.c ≤ sadd a.c b.c
  unfold sadd
  split <;> omega
 generalize hK:K0 + K1 + K2 + K3 + K4 + K5 + K6 + K7 + K8 = k
 refine lawYes k A cp l w u ke wi a.c a.s a.mn a.mx ke wi b.c b.s b.mn b.mx (Su.mrg a b).c (Su.mrg a b).s (Su.mrg a b).mn (Su.mrg a b).mx _ _ _ _ _ li lb (joinL li lb) a.h a.r b.h b.r (Su.mrg a b).h (Su.mrg a b).r [a.p,a.q] [b.p,b.q] [(Su.mrg a b).p,(Su.mrg a b).q] ⟨⟨hB,hD k (by omega),implA_of _ _ _ _ _ _ _ _ _ _ _ _ _ _ _ _ _ _ _ _ (by omega) (by omega) x1,implA_of _ _ _ _ _ _ _ _ _ _ _ _ _ _ _ _ _ _ _ _ (by omega) (by omega) x2,specA_of _ _ _ _ _ _ _ _ _ _ _ _ _ _ _ _ _ _ _ _ (by omega) (by omega) x1,implA_of _ _ _ _ _ _ _ _ _ _ _ _ _ _ _ _ _ _ _ _ (by omega) (by omega) x3,implA_of _ _ _ _ _ _ _ _ _ _ _ _ _ _ _ _ _ _ _ _ (by omega) (by omega) x4,e1 k (by omega),e2 k (by omega),e3 k (by omega),e4 k (by omega),e5 k (by omega),e6 k (by omega),e7 k (by omega),e8 k (by omega),?_,hcc⟩⟩
 ·show (((4 + 2 * (joinL li lb).length + cpos (List.zipWith sadd a.h b.h) + cpos (List.zipWith hi2 a.r b.r) + cpos (List.zipWith sadd a.p b.p) + cpos (List.zipWith sadd a.q b.q):Nat):Int)) ≤ IntKind.i64.wrap ((((4 + 2 * li.length + cpos a.h + cpos a.r + cpos a.p + cpos a.q:Nat):Int)) + (((4 + 2 * lb.length + cpos b.h + cpos b.r + cpos b.p + cpos b.q:Nat):Int)))
  rw [i64_w,w64 (by omega) (by omega)]
  omega

end Go.Proofs.Ytdciagkholijlaa.HFnEntries
