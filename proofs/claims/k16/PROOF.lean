import PyProof.Rows.All
import Wide.All
import OpenK.AllK
import Wide.FinOn
import HandS.ForMost
import HandS.Wide
import HandS.Walk
import HandS.Ends
import HandS.Deep
import HandS.Style
import HandS.TupAny
import HandS.Text
import HandS.Conv
import HandS.WordsDict
import PyProof.ReprRoads
import PyProof.CallFns
import HandS.Small
import HandS.Iter
import KE.SortData
import PyProof.EnumMake
import HandS.GenList
import HandS.ExcValue
import PyProof.StrLawsRepr
import PySem.Challenge.RW_allpartings_k16_arcs_by_walking
set_option Elab.async false
set_option linter.all false
set_option maxRecDepth 100000
set_option maxHeartbeats 1000000
namespace Pz
open PySem PySem.Spec PyProof.Rows L2

/-! ### values as trees -/
inductive D where
  | non | bl (b : Bool) | int (i : Int) | str (s : Str)
  | tup (xs : List D) | lst (xs : List D) | dct (kvs : List (Key × D)) | fn (f : Nat)
  deriving Inhabited
inductive O where
  | fz (d : D) | ol (xs : List O) | od (kvs : List (Key × O))
  deriving Inhabited

mutual
def fr : O → D
  | .fz d => d
  | .ol os => .lst (frs os)
  | .od kvs => .dct (frk kvs)
def frs : List O → List D
  | [] => []
  | o :: os => fr o :: frs os
def frk : List (Key × O) → List (Key × D)
  | [] => []
  | (k, o) :: r => (k, fr o) :: frk r
end

/-- what the walk knows of the module: its written part, where defs stand -/
structure Gc where
  K : PySem.W.Frag
  fa : Nat → Addr

mutual
def RepD (c : Gc) (F : Hp) : D → V → Prop
  | .non, v => v = .non
  | .bl b, v => v = .bl b
  | .int i, v => v = .int i
  | .str s, v => v = .str s
  | .tup ds, v => ∃ a vs, v = .ref a ∧ SqT c.K F a vs ∧ RepDs c F ds vs
  | .lst ds, v => ∃ a vs, v = .ref a ∧ SqL c.K F a vs ∧ RepDs c F ds vs
  | .dct kvs, v => ∃ a ps, v = .ref a ∧ Rd F a (.dK ps) ∧ RepDk c F kvs ps
  | .fn f, v => v = .ref (c.fa f)
def RepDs (c : Gc) (F : Hp) : List D → List V → Prop
  | [], vs => vs = []
  | d :: ds, vs => ∃ v r, vs = v :: r ∧ RepD c F d v ∧ RepDs c F ds r
def RepDk (c : Gc) (F : Hp) : List (Key × D) → List (Key × V) → Prop
  | [], ps => ps = []
  | (k, d) :: kvs, ps => ∃ v r, ps = (k, v) :: r ∧ RepD c F d v ∧ RepDk c F kvs r
end

mutual
def RepO (c : Gc) (F H : Hp) : O → V → List Addr → Prop
  | .fz d, v, fp => fp = [] ∧ RepD c F d v
  | .ol os, v, fp => ∃ a vs g, v = .ref a ∧ H a = some (.lst vs) ∧ RepOs c F H os vs g ∧ fp = a :: g
  | .od kvs, v, fp => ∃ a ps g, v = .ref a ∧ H a = some (.dK ps) ∧ RepOk c F H kvs ps g ∧ fp = a :: g ∧ (kvs.map (·.1)).Nodup
def RepOs (c : Gc) (F H : Hp) : List O → List V → List Addr → Prop
  | [], vs, fp => vs = [] ∧ fp = []
  | o :: os, vs, fp => ∃ v r f g, vs = v :: r ∧ RepO c F H o v f ∧ RepOs c F H os r g ∧ fp = f ++ g
def RepOk (c : Gc) (F H : Hp) : List (Key × O) → List (Key × V) → List Addr → Prop
  | [], ps, fp => ps = [] ∧ fp = []
  | (k, o) :: kvs, ps, fp => ∃ v r f g, ps = (k, v) :: r ∧ RepO c F H o v f ∧ RepOk c F H kvs r g ∧ fp = f ++ g
end
def RepE (c : Gc) (F H : Hp) : List (V × O) → List Addr → Prop
  | [], fp => fp = []
  | (v, o) :: L, fp => ∃ f g, RepO c F H o v f ∧ RepE c F H L g ∧ fp = f ++ g

def Ok (c : Gc) (H : Hp) (R : List Addr) (L : List (V × O)) : Prop :=
  ∃ F fp, Same F H ∧ RepE c F H L fp ∧ (R ++ fp).Nodup ∧ (∀ a ∈ R ++ fp, F a = none) ∧ ∀ a ∈ R, ∃ o, H a = some o

variable {c : Gc} {F F' H H' : Hp}

/-! ### what stays -/
theorem SqT.mono {K : PySem.W.Frag} {a : Addr} {vs : List V} (e : Same F F') (h : SqT K F a vs) : SqT K F' a vs := by
  rcases h with (h | ⟨o, h⟩) | h
  · exact .inl (.inl (e _ _ h))
  · exact .inl (.inr ⟨o, e _ _ h⟩)
  · exact .inr h
theorem Rd.mono {a : Addr} {u : HO} (e : Same F F') (h : Rd F a u) : Rd F' a u := by
  rcases h with h | ⟨o, h⟩
  · exact .inl (e _ _ h)
  · exact .inr ⟨o, e _ _ h⟩
mutual
theorem RepD.mono (e : Same F F') : ∀ (d : D) (v : V), RepD c F d v → RepD c F' d v
  | .non, _, h => h
  | .bl _, _, h => h
  | .int _, _, h => h
  | .str _, _, h => h
  | .tup ds, _, ⟨a, vs, h1, h2, h3⟩ => ⟨a, vs, h1, SqT.mono e h2, RepDs.mono e ds vs h3⟩
  | .lst ds, _, ⟨a, vs, h1, h2, h3⟩ => ⟨a, vs, h1, e.seq h2, RepDs.mono e ds vs h3⟩
  | .dct kvs, _, ⟨a, ps, h1, h2, h3⟩ => ⟨a, ps, h1, Rd.mono e h2, RepDk.mono e kvs ps h3⟩
  | .fn _, _, h => h
theorem RepDs.mono (e : Same F F') : ∀ (ds : List D) (vs : List V), RepDs c F ds vs → RepDs c F' ds vs
  | [], _, h => h
  | d :: ds, _, ⟨v, r, h1, h2, h3⟩ => ⟨v, r, h1, RepD.mono e d v h2, RepDs.mono e ds r h3⟩
theorem RepDk.mono (e : Same F F') : ∀ (kvs : List (Key × D)) (ps : List (Key × V)), RepDk c F kvs ps → RepDk c F' kvs ps
  | [], _, h => h
  | (k, d) :: kvs, _, ⟨v, r, h1, h2, h3⟩ => ⟨v, r, h1, RepD.mono e d v h2, RepDk.mono e kvs r h3⟩
end
mutual
theorem RepO.mono (e : Same F F') : ∀ (o : O) (v : V) (fp : List Addr), (∀ a ∈ fp, H' a = H a) → RepO c F H o v fp → RepO c F' H' o v fp
  | .fz d, v, _, _, ⟨h1, h2⟩ => ⟨h1, RepD.mono e d v h2⟩
  | .ol os, _, fp, k, ⟨a, vs, g, h1, h2, h3, h4⟩ => by
    subst h4
    exact ⟨a, vs, g, h1, (k a List.mem_cons_self).trans h2, RepOs.mono e os vs g (fun b hb => k b (List.mem_cons_of_mem _ hb)) h3, rfl⟩
  | .od kvs, _, fp, k, ⟨a, ps, g, h1, h2, h3, h4, h5⟩ => by
    subst h4
    exact ⟨a, ps, g, h1, (k a List.mem_cons_self).trans h2, RepOk.mono e kvs ps g (fun b hb => k b (List.mem_cons_of_mem _ hb)) h3, rfl, h5⟩
theorem RepOs.mono (e : Same F F') : ∀ (os : List O) (vs : List V) (fp : List Addr), (∀ a ∈ fp, H' a = H a) → RepOs c F H os vs fp → RepOs c F' H' os vs fp
  | [], _, _, _, h => h
  | o :: os, _, fp, k, ⟨v, r, f, g, h1, h2, h3, h4⟩ => by
    subst h4
    exact ⟨v, r, f, g, h1, RepO.mono e o v f (fun b hb => k b (List.mem_append_left _ hb)) h2, RepOs.mono e os r g (fun b hb => k b (List.mem_append_right _ hb)) h3, rfl⟩
theorem RepOk.mono (e : Same F F') : ∀ (kvs : List (Key × O)) (ps : List (Key × V)) (fp : List Addr), (∀ a ∈ fp, H' a = H a) → RepOk c F H kvs ps fp → RepOk c F' H' kvs ps fp
  | [], _, _, _, h => h
  | (k', o) :: kvs, _, fp, k, ⟨v, r, f, g, h1, h2, h3, h4⟩ => by
    subst h4
    exact ⟨v, r, f, g, h1, RepO.mono e o v f (fun b hb => k b (List.mem_append_left _ hb)) h2, RepOk.mono e kvs r g (fun b hb => k b (List.mem_append_right _ hb)) h3, rfl⟩
end
theorem RepE.mono (e : Same F F') : ∀ (L : List (V × O)) (fp : List Addr), (∀ a ∈ fp, H' a = H a) → RepE c F H L fp → RepE c F' H' L fp
  | [], _, _, h => h
  | (v, o) :: L, fp, k, ⟨f, g, h2, h3, h4⟩ => by
    subst h4
    exact ⟨f, g, RepO.mono e o v f (fun b hb => k b (List.mem_append_left _ hb)) h2, RepE.mono e L g (fun b hb => k b (List.mem_append_right _ hb)) h3, rfl⟩
/-! what is owned stands in the heap -/
mutual
theorem RepO.there : ∀ (o : O) (v : V) (fp : List Addr), RepO c F H o v fp → ∀ a ∈ fp, ∃ u, H a = some u
  | .fz d, v, _, ⟨h1, h2⟩, a, ha => by subst h1; cases ha
  | .ol os, _, fp, ⟨a, vs, g, h1, h2, h3, h4⟩, b, hb => by
    subst h4
    rcases List.mem_cons.mp hb with e | hb
    · exact ⟨_, by rw [e]; exact h2⟩
    · exact RepOs.there os vs g h3 b hb
  | .od kvs, _, fp, ⟨a, ps, g, h1, h2, h3, h4, _⟩, b, hb => by
    subst h4
    rcases List.mem_cons.mp hb with e | hb
    · exact ⟨_, by rw [e]; exact h2⟩
    · exact RepOk.there kvs ps g h3 b hb
theorem RepOs.there : ∀ (os : List O) (vs : List V) (fp : List Addr), RepOs c F H os vs fp → ∀ a ∈ fp, ∃ u, H a = some u
  | [], _, _, ⟨_, h⟩, a, ha => by subst h; cases ha
  | o :: os, _, fp, ⟨v, r, f, g, h1, h2, h3, h4⟩, a, ha => by
    subst h4
    rcases List.mem_append.mp ha with ha | ha
    · exact RepO.there o v f h2 a ha
    · exact RepOs.there os r g h3 a ha
theorem RepOk.there : ∀ (kvs : List (Key × O)) (ps : List (Key × V)) (fp : List Addr), RepOk c F H kvs ps fp → ∀ a ∈ fp, ∃ u, H a = some u
  | [], _, _, ⟨_, h⟩, a, ha => by subst h; cases ha
  | (k, o) :: kvs, _, fp, ⟨v, r, f, g, h1, h2, h3, h4⟩, a, ha => by
    subst h4
    rcases List.mem_append.mp ha with ha | ha
    · exact RepO.there o v f h2 a ha
    · exact RepOk.there kvs r g h3 a ha
end
theorem RepE.there : ∀ (L : List (V × O)) (fp : List Addr), RepE c F H L fp → ∀ a ∈ fp, ∃ u, H a = some u
  | [], _, h, a, ha => by
    have h' : _ = _ := h
    subst h'; cases ha
  | (v, o) :: L, fp, ⟨f, g, h2, h3, h4⟩, a, ha => by
    subst h4
    rcases List.mem_append.mp ha with ha | ha
    · exact RepO.there o v f h2 a ha
    · exact RepE.there L g h3 a ha
/-! frozen -/
mutual
theorem RepO.frozen (e : Same F F') : ∀ (o : O) (v : V) (fp : List Addr), (∀ a ∈ fp, F' a = H a) → RepO c F H o v fp → RepD c F' (fr o) v
  | .fz d, v, _, _, ⟨_, h2⟩ => by simpa only [fr] using RepD.mono e d v h2
  | .ol os, _, fp, k, ⟨a, vs, g, h1, h2, h3, h4⟩ => by
    subst h4
    simp only [fr]
    exact ⟨a, vs, h1, SqL.of ((k a List.mem_cons_self).trans h2), RepOs.frozen e os vs g (fun b hb => k b (List.mem_cons_of_mem _ hb)) h3⟩
  | .od kvs, _, fp, k, ⟨a, ps, g, h1, h2, h3, h4, _⟩ => by
    subst h4
    simp only [fr]
    exact ⟨a, ps, h1, .inl ((k a List.mem_cons_self).trans h2), RepOk.frozen e kvs ps g (fun b hb => k b (List.mem_cons_of_mem _ hb)) h3⟩
theorem RepOs.frozen (e : Same F F') : ∀ (os : List O) (vs : List V) (fp : List Addr), (∀ a ∈ fp, F' a = H a) → RepOs c F H os vs fp → RepDs c F' (frs os) vs
  | [], _, _, _, ⟨h, _⟩ => by simpa only [frs, RepDs] using h
  | o :: os, _, fp, k, ⟨v, r, f, g, h1, h2, h3, h4⟩ => by
    subst h4
    simp only [frs]
    exact ⟨v, r, h1, RepO.frozen e o v f (fun b hb => k b (List.mem_append_left _ hb)) h2, RepOs.frozen e os r g (fun b hb => k b (List.mem_append_right _ hb)) h3⟩
theorem RepOk.frozen (e : Same F F') : ∀ (kvs : List (Key × O)) (ps : List (Key × V)) (fp : List Addr), (∀ a ∈ fp, F' a = H a) → RepOk c F H kvs ps fp → RepDk c F' (frk kvs) ps
  | [], _, _, _, ⟨h, _⟩ => by simpa only [frk, RepDk] using h
  | (k', o) :: kvs, _, fp, k, ⟨v, r, f, g, h1, h2, h3, h4⟩ => by
    subst h4
    simp only [frk]
    exact ⟨v, r, h1, RepO.frozen e o v f (fun b hb => k b (List.mem_append_left _ hb)) h2, RepOk.frozen e kvs r g (fun b hb => k b (List.mem_append_right _ hb)) h3⟩
end
end Pz
set_option Elab.async false
set_option linter.all false
set_option maxRecDepth 100000
set_option maxHeartbeats 1000000
namespace Pz
open PySem PySem.Spec PyProof.Rows L2
variable {c : Gc} {F F' H H' : Hp} {R : List Addr} {L L' L1 L2 : List (V × O)} {v : V} {o : O} {a p : Addr}

theorem RepE.app : ∀ {L1 L2 : List (V × O)} {fp : List Addr}, RepE c F H (L1 ++ L2) fp ↔ ∃ f g, RepE c F H L1 f ∧ RepE c F H L2 g ∧ fp = f ++ g
  | [], L2, fp => ⟨fun h => ⟨[], fp, rfl, h, rfl⟩, fun ⟨f, g, h1, h2, h3⟩ => by
      have h1' : f = [] := h1
      subst h1'; subst h3; exact h2⟩
  | (v, o) :: L1, L2, fp => by
    constructor
    · rintro ⟨f, g, h1, h2, h3⟩
      obtain ⟨f2, g2, q1, q2, q3⟩ := RepE.app.mp h2
      exact ⟨f ++ f2, g2, ⟨f, f2, h1, q1, rfl⟩, q2, by rw [h3, q3, List.append_assoc]⟩
    · rintro ⟨f, g, ⟨f1, f2, h1, h2, h3⟩, h4, h5⟩
      exact ⟨f1, f2 ++ g, h1, RepE.app.mpr ⟨f2, g, h2, h4, rfl⟩, by rw [h5, h3, List.append_assoc]⟩
theorem RepE.perm (q : L.Perm L') : ∀ {fp : List Addr}, RepE c F H L fp → ∃ fp', RepE c F H L' fp' ∧ fp.Perm fp' := by
  induction q with
  | nil => exact fun {fp} h => ⟨fp, h, .refl _⟩
  | @cons x l1 l2 h ih =>
    rintro fp ⟨f, g, h1, h2, h3⟩
    obtain ⟨g', q1, q2⟩ := ih h2
    exact ⟨f ++ g', ⟨f, g', h1, q1, rfl⟩, by rw [h3]; exact q2.append_left f⟩
  | @swap x y l =>
    rintro fp ⟨f, g, h1, ⟨f2, g2, h2, h3, h4⟩, h5⟩
    exact ⟨f2 ++ (f ++ g2), ⟨f2, f ++ g2, h2, ⟨f, g2, h1, h3, rfl⟩, rfl⟩, by
      rw [h5, h4, ← List.append_assoc, ← List.append_assoc]
      exact (List.perm_append_comm).append_right g2⟩
  | trans _ _ ih1 ih2 =>
    intro fp h
    obtain ⟨f1, h1, q1⟩ := ih1 h
    obtain ⟨f2, h2, q2⟩ := ih2 h1
    exact ⟨f2, h2, q1.trans q2⟩
theorem RepE.zip : ∀ {os : List O} {vs : List V} {fp : List Addr}, RepOs c F H os vs fp → vs.length = os.length ∧ RepE c F H (vs.zip os) fp
  | [], vs, fp, ⟨h1, h2⟩ => by subst h1; exact ⟨rfl, h2⟩
  | o :: os, vs, fp, ⟨v, r, f, g, h1, h2, h3, h4⟩ => by
    subst h1
    obtain ⟨q1, q2⟩ := RepE.zip h3
    exact ⟨by simp [q1], f, g, h2, q2, h4⟩
theorem RepE.unzip : ∀ {os : List O} {vs : List V} {fp : List Addr}, vs.length = os.length → RepE c F H (vs.zip os) fp → RepOs c F H os vs fp
  | [], vs, fp, hl, h => by
    have e : vs = [] := List.eq_nil_of_length_eq_zero hl
    subst e
    exact ⟨rfl, h⟩
  | o :: os, [], fp, hl, h => by simp at hl
  | o :: os, v :: vs, fp, hl, ⟨f, g, h2, h3, h4⟩ => ⟨v, vs, f, g, rfl, h2, RepE.unzip (by simpa using hl) h3, h4⟩
/-- a dict's values as entries -/
def kents : List (Key × V) → List (Key × O) → List (V × O)
  | (_, v) :: ps, (_, o) :: kvs => (v, o) :: kents ps kvs
  | _, _ => []
def KeysEq : List (Key × V) → List (Key × O) → Prop
  | [], [] => True
  | (k, _) :: ps, (k', _) :: kvs => k = k' ∧ KeysEq ps kvs
  | _, _ => False
theorem RepE.kzip : ∀ {kvs : List (Key × O)} {ps : List (Key × V)} {fp : List Addr}, RepOk c F H kvs ps fp → KeysEq ps kvs ∧ RepE c F H (kents ps kvs) fp
  | [], ps, fp, ⟨h1, h2⟩ => by subst h1; exact ⟨trivial, h2⟩
  | (k, o) :: kvs, ps, fp, ⟨v, r, f, g, h1, h2, h3, h4⟩ => by
    subst h1
    obtain ⟨q1, q2⟩ := RepE.kzip h3
    exact ⟨⟨rfl, q1⟩, f, g, h2, q2, h4⟩
theorem RepE.kunzip : ∀ {kvs : List (Key × O)} {ps : List (Key × V)} {fp : List Addr}, KeysEq ps kvs → RepE c F H (kents ps kvs) fp → RepOk c F H kvs ps fp
  | [], [], fp, _, h => ⟨rfl, h⟩
  | [], _ :: _, fp, hl, h => by cases hl
  | _ :: _, [], fp, hl, h => by cases hl
  | (k, o) :: kvs, (k', v) :: ps, fp, ⟨e, hl⟩, ⟨f, g, h2, h3, h4⟩ => by
    subst e
    exact ⟨v, ps, f, g, rfl, h2, RepE.kunzip hl h3, h4⟩

/-! ### Ok: what one may do -/
theorem Ok.perm (h : Ok c H R L) (q : L.Perm L') : Ok c H R L' := by
  obtain ⟨F, fp, h1, h2, h3, h4, h5⟩ := h
  obtain ⟨fp', q1, q2⟩ := RepE.perm q h2
  have q3 : (R ++ fp).Perm (R ++ fp') := q2.append_left R
  exact ⟨F, fp', h1, q1, q3.nodup_iff.mp h3, fun a ha => h4 a (q3.mem_iff.mpr ha), h5⟩
theorem Ok.tail {e : V × O} (h : Ok c H R (e :: L)) : Ok c H R L := by
  obtain ⟨F, fp, h1, ⟨f, g, h2, h6, h7⟩, h3, h4, h5⟩ := h
  subst h7
  have sub : (R ++ g).Sublist (R ++ (f ++ g)) := (List.sublist_append_right f g).append_left R
  exact ⟨F, g, h1, h6, h3.sublist sub, fun a ha => h4 a (sub.subset ha), h5⟩
theorem Ok.drop_left (h : Ok c H R (L1 ++ L2)) : Ok c H R L2 := by
  induction L1 with
  | nil => exact h
  | cons e r ih => exact ih h.tail
theorem Ok.drop_right (h : Ok c H R (L1 ++ L2)) : Ok c H R L1 := (h.perm List.perm_append_comm).drop_left
theorem Ok.dup {d : D} (h : Ok c H R ((v, .fz d) :: L)) : Ok c H R ((v, .fz d) :: (v, .fz d) :: L) := by
  obtain ⟨F, fp, h1, ⟨f, g, ⟨h2, h8⟩, h6, h7⟩, h3, h4, h5⟩ := h
  subst h2
  exact ⟨F, fp, h1, ⟨[], fp, ⟨rfl, h8⟩, ⟨[], fp, ⟨rfl, h8⟩, by simpa [h7] using h6, rfl⟩, rfl⟩, h3, h4, h5⟩
theorem Ok.freeze (h : Ok c H R ((v, o) :: L)) : Ok c H R ((v, .fz (fr o)) :: L) := by
  obtain ⟨F, fp, h1, ⟨f, g, h2, h6, h7⟩, h3, h4, h5⟩ := h
  subst h7
  have nd : (f ++ g).Nodup := (List.nodup_append.mp h3).2.1
  have sm : Same F (fun b => if b ∈ f then H b else F b) := fun b u e => by
    by_cases hb : b ∈ f
    · rw [h4 b (List.mem_append_right _ (List.mem_append_left _ hb))] at e; cases e
    · simp only [if_neg hb]; exact e
  refine ⟨fun b => if b ∈ f then H b else F b, g, fun b u e => ?_, ⟨[], g, ⟨rfl, RepO.frozen (H := H) sm o v f (fun b hb => by simp only [if_pos hb]) h2⟩, RepE.mono sm L g (fun _ _ => rfl) h6, rfl⟩, ?_, fun b hb => ?_, h5⟩
  · by_cases hb : b ∈ f
    · simp only [if_pos hb] at e; exact e
    · simp only [if_neg hb] at e; exact h1 _ _ e
  · exact h3.sublist ((List.sublist_append_right f g).append_left R)
  · have hf : b ∉ f := by
      rcases List.mem_append.mp hb with q | q
      · intro z
        exact (List.nodup_append.mp h3).2.2 b q b (List.mem_append_left _ z) rfl
      · intro z
        exact (List.nodup_append.mp nd).2.2 b z b q rfl
    simp only [if_neg hf]
    exact h4 b (by rcases List.mem_append.mp hb with q | q
                   · exact List.mem_append_left _ q
                   · exact List.mem_append_right _ (List.mem_append_right _ q))
theorem Ok.rep {d : D} (h : Ok c H R ((v, .fz d) :: L)) : RepD c H d v := by
  obtain ⟨F, fp, h1, ⟨f, g, ⟨h2, h8⟩, h6, h7⟩, h3, h4, h5⟩ := h
  exact RepD.mono h1 d v h8
theorem Ok.view (h : Ok c H R ((v, o) :: L)) : RepD c H (fr o) v := h.freeze.rep
theorem Ok.same (h : Ok c H R L) (e : Same H H') : Ok c H' R L := by
  obtain ⟨F, fp, h1, h2, h3, h4, h5⟩ := h
  refine ⟨F, fp, h1.trans e, RepE.mono (Same.refl F) L fp (fun b hb => ?_) h2, h3, h4, fun b hb => ?_⟩
  · obtain ⟨u, hu⟩ := RepE.there L fp h2 b hb
    rw [hu]; exact e _ _ hu
  · obtain ⟨u, hu⟩ := h5 b hb
    exact ⟨u, e _ _ hu⟩
theorem same_upd (hp : H p = none) {u : HO} : Same H (upd H p u) := fun b o e => by
  rw [upd_ne (ne_of_none e hp)]; exact e
/-- a new object's place -/
theorem Ok.reserve (h : Ok c H R L) (hp : H p = none) {u : HO} : Ok c (upd H p u) (p :: R) L := by
  obtain ⟨F, fp, h1, h2, h3, h4, h5⟩ := h
  have hF : F p = none := by
    cases e : F p with
    | none => rfl
    | some o => rw [h1 _ _ e] at hp; cases hp
  have hn : p ∉ R ++ fp := fun hm => by
    rcases List.mem_append.mp hm with q | q
    · obtain ⟨u, hu⟩ := h5 p q
      rw [hu] at hp; cases hp
    · obtain ⟨u, hu⟩ := RepE.there L fp h2 p q
      rw [hu] at hp; cases hp
  refine ⟨F, fp, h1.trans (same_upd hp), RepE.mono (Same.refl F) L fp (fun b hb => upd_ne (fun z => hn (by rw [← z]; exact List.mem_append_right _ hb))) h2, ?_, fun b hb => ?_, fun b hb => ?_⟩
  · exact List.nodup_cons.mpr ⟨hn, h3⟩
  · rcases List.mem_cons.mp hb with e | hb
    · rw [e]; exact hF
    · exact h4 b hb
  · by_cases e : b = p
    · exact ⟨u, by rw [e]; exact upd_same⟩
    · rcases List.mem_cons.mp hb with z | hb
      · exact absurd z e
      · rw [upd_ne e]; exact h5 b hb
/-- the reserved place is filled -/
theorem Ok.close_l {vs : List V} {os : List O} (h : Ok c H (a :: R) (vs.zip os ++ L)) (hl : vs.length = os.length) : Ok c (upd H a (.lst vs)) R ((.ref a, .ol os) :: L) := by
  obtain ⟨F, fp, h1, h2, h3, h4, h5⟩ := h
  obtain ⟨f, g, q1, q2, q3⟩ := RepE.app.mp h2
  subst q3
  have nd := List.nodup_cons.mp h3
  have hF : F a = none := h4 a List.mem_cons_self
  have ne : ∀ b ∈ R ++ (f ++ g), b ≠ a := fun b hb z => nd.1 (z ▸ hb)
  have sm : Same F (upd H a (.lst vs)) := fun b u e => by
    rw [upd_ne (ne_of_none e hF)]; exact h1 _ _ e
  refine ⟨F, a :: f ++ g, sm, ⟨a :: f, g, ⟨a, vs, f, rfl, upd_same, ?_, rfl⟩, ?_, rfl⟩, ?_, fun b hb => ?_, fun b hb => ?_⟩
  · exact RepOs.mono (Same.refl F) os vs f (fun b hb => upd_ne (ne b (List.mem_append_right _ (List.mem_append_left _ hb)))) (RepE.unzip hl q1)
  · exact RepE.mono (Same.refl F) L g (fun b hb => upd_ne (ne b (List.mem_append_right _ (List.mem_append_right _ hb)))) q2
  · have pm : (a :: (R ++ (f ++ g))).Perm (R ++ (a :: f ++ g)) := by
      rw [List.cons_append]
      exact (List.perm_middle).symm
    exact pm.nodup_iff.mp h3
  · refine h4 b ?_
    rcases List.mem_append.mp hb with q | q
    · exact List.mem_cons_of_mem _ (List.mem_append_left _ q)
    · rcases List.mem_cons.mp (show b ∈ a :: (f ++ g) from q) with e | q
      · rw [e]; exact List.mem_cons_self
      · exact List.mem_cons_of_mem _ (List.mem_append_right _ q)
  · rw [upd_ne (ne b (List.mem_append_left _ hb))]
    exact h5 b (List.mem_cons_of_mem _ hb)
theorem Ok.close_d {ps : List (Key × V)} {kvs : List (Key × O)} (h : Ok c H (a :: R) (kents ps kvs ++ L)) (hl : KeysEq ps kvs) (hnd : (kvs.map (·.1)).Nodup) : Ok c (upd H a (.dK ps)) R ((.ref a, .od kvs) :: L) := by
  obtain ⟨F, fp, h1, h2, h3, h4, h5⟩ := h
  obtain ⟨f, g, q1, q2, q3⟩ := RepE.app.mp h2
  subst q3
  have nd := List.nodup_cons.mp h3
  have hF : F a = none := h4 a List.mem_cons_self
  have ne : ∀ b ∈ R ++ (f ++ g), b ≠ a := fun b hb z => nd.1 (z ▸ hb)
  have sm : Same F (upd H a (.dK ps)) := fun b u e => by
    rw [upd_ne (ne_of_none e hF)]; exact h1 _ _ e
  refine ⟨F, a :: f ++ g, sm, ⟨a :: f, g, ⟨a, ps, f, rfl, upd_same, ?_, rfl, hnd⟩, ?_, rfl⟩, ?_, fun b hb => ?_, fun b hb => ?_⟩
  · exact RepOk.mono (Same.refl F) kvs ps f (fun b hb => upd_ne (ne b (List.mem_append_right _ (List.mem_append_left _ hb)))) (RepE.kunzip hl q1)
  · exact RepE.mono (Same.refl F) L g (fun b hb => upd_ne (ne b (List.mem_append_right _ (List.mem_append_right _ hb)))) q2
  · have pm : (a :: (R ++ (f ++ g))).Perm (R ++ (a :: f ++ g)) := by
      rw [List.cons_append]
      exact (List.perm_middle).symm
    exact pm.nodup_iff.mp h3
  · refine h4 b ?_
    rcases List.mem_append.mp hb with q | q
    · exact List.mem_cons_of_mem _ (List.mem_append_left _ q)
    · rcases List.mem_cons.mp (show b ∈ a :: (f ++ g) from q) with e | q
      · rw [e]; exact List.mem_cons_self
      · exact List.mem_cons_of_mem _ (List.mem_append_right _ q)
  · rw [upd_ne (ne b (List.mem_append_left _ hb))]
    exact h5 b (List.mem_cons_of_mem _ hb)
/-- an owned list is opened: its place is reserved, its items stand beside -/
theorem Ok.open_l {os : List O} (h : Ok c H R ((v, .ol os) :: L)) : ∃ a vs, v = .ref a ∧ H a = some (.lst vs) ∧ vs.length = os.length ∧ Ok c H (a :: R) (vs.zip os ++ L) := by
  obtain ⟨F, fp, h1, ⟨f, g, ⟨a, vs, f', e1, e2, e3, e4⟩, h6, h7⟩, h3, h4, h5⟩ := h
  subst e4; subst h7
  obtain ⟨q1, q2⟩ := RepE.zip e3
  have pm : (R ++ (a :: f' ++ g)).Perm (a :: (R ++ (f' ++ g))) := by
    rw [List.cons_append]
    exact List.perm_middle
  refine ⟨a, vs, e1, e2, q1, F, f' ++ g, h1, RepE.app.mpr ⟨f', g, q2, h6, rfl⟩, pm.nodup_iff.mp h3, fun b hb => h4 b (pm.mem_iff.mpr hb), fun b hb => ?_⟩
  rcases List.mem_cons.mp hb with e | hb
  · rw [e]; exact ⟨_, e2⟩
  · exact h5 b hb
theorem Ok.open_d {kvs : List (Key × O)} (h : Ok c H R ((v, .od kvs) :: L)) : ∃ a ps, v = .ref a ∧ H a = some (.dK ps) ∧ KeysEq ps kvs ∧ (kvs.map (·.1)).Nodup ∧ Ok c H (a :: R) (kents ps kvs ++ L) := by
  obtain ⟨F, fp, h1, ⟨f, g, ⟨a, ps, f', e1, e2, e3, e4, e5⟩, h6, h7⟩, h3, h4, h5⟩ := h
  subst e4; subst h7
  obtain ⟨q1, q2⟩ := RepE.kzip e3
  have pm : (R ++ (a :: f' ++ g)).Perm (a :: (R ++ (f' ++ g))) := by
    rw [List.cons_append]
    exact List.perm_middle
  refine ⟨a, ps, e1, e2, q1, e5, F, f' ++ g, h1, RepE.app.mpr ⟨f', g, q2, h6, rfl⟩, pm.nodup_iff.mp h3, fun b hb => h4 b (pm.mem_iff.mpr hb), fun b hb => ?_⟩
  rcases List.mem_cons.mp hb with e | hb
  · rw [e]; exact ⟨_, e2⟩
  · exact h5 b hb
/-- the place given up, the heap as it was -/
theorem Ok.close_l' {vs : List V} {os : List O} (h : Ok c H (a :: R) (vs.zip os ++ L)) (hl : vs.length = os.length) (ha : H a = some (.lst vs)) : Ok c H R ((.ref a, .ol os) :: L) := by
  have q := h.close_l hl
  have e : upd H a (.lst vs) = H := by
    funext b
    by_cases hb : b = a
    · rw [hb, upd_same, ha]
    · rw [upd_ne hb]
  rw [e] at q; exact q
/-- a new list, a new dict -/
theorem Ok.new_l {vs : List V} {os : List O} (h : Ok c H R (vs.zip os ++ L)) (hl : vs.length = os.length) (hp : H p = none) : Ok c (upd H p (.lst vs)) R ((.ref p, .ol os) :: L) := by
  have q := (h.reserve (u := .lst vs) hp).close_l hl
  rw [upd_upd] at q; exact q
theorem Ok.new_d {ps : List (Key × V)} {kvs : List (Key × O)} (h : Ok c H R (kents ps kvs ++ L)) (hl : KeysEq ps kvs) (hnd : (kvs.map (·.1)).Nodup) (hp : H p = none) : Ok c (upd H p (.dK ps)) R ((.ref p, .od kvs) :: L) := by
  have q := (h.reserve (u := .dK ps) hp).close_d hl hnd
  rw [upd_upd] at q; exact q
theorem RepE.fz_all : ∀ {ds : List D} {vs : List V} {fp : List Addr}, vs.length = ds.length → RepE c F H (vs.zip (ds.map O.fz)) fp → fp = [] ∧ RepDs c F ds vs
  | [], vs, fp, hl, h => by
    have e : vs = [] := List.eq_nil_of_length_eq_zero hl
    subst e
    exact ⟨h, rfl⟩
  | d :: ds, [], fp, hl, h => by simp at hl
  | d :: ds, v :: vs, fp, hl, ⟨f, g, ⟨h2, h2'⟩, h3, h4⟩ => by
    obtain ⟨q1, q2⟩ := RepE.fz_all (ds := ds) (by simpa using hl) h3
    subst h2; subst q1
    exact ⟨h4, v, vs, rfl, h2', q2⟩
theorem RepE.of_fz : ∀ {ds : List D} {vs : List V}, RepDs c F ds vs → vs.length = ds.length ∧ RepE c F H (vs.zip (ds.map O.fz)) []
  | [], vs, h => by
    have h' : vs = [] := h
    subst h'; exact ⟨rfl, rfl⟩
  | d :: ds, vs, ⟨v, r, h1, h2, h3⟩ => by
    subst h1
    obtain ⟨q1, q2⟩ := RepE.of_fz h3
    exact ⟨by simp [q1], [], [], ⟨rfl, h2⟩, q2, rfl⟩
/-- a new tuple of frozen things -/
theorem Ok.new_t {vs : List V} {ds : List D} (h : Ok c H R (vs.zip (ds.map O.fz) ++ L)) (hl : vs.length = ds.length) (hp : H p = none) : Ok c (upd H p (.tup vs)) R ((.ref p, .fz (.tup ds)) :: L) := by
  have q0 := h.reserve (u := HO.tup vs) hp
  obtain ⟨F, fp, h1, h2, h3, h4, h5⟩ := q0
  obtain ⟨f, g, q1, q2, q3⟩ := RepE.app.mp h2
  obtain ⟨e1, e2⟩ := RepE.fz_all hl q1
  subst e1
  have q4 : g = fp := q3.symm
  subst q4
  have nd := List.nodup_cons.mp h3
  have hF : F p = none := h4 p List.mem_cons_self
  have sm : Same F (upd F p (.tup vs)) := same_upd hF
  refine ⟨upd F p (.tup vs), g, fun b u e => ?_, ⟨[], g, ⟨rfl, p, vs, rfl, SqT.of upd_same, RepDs.mono sm ds vs e2⟩, RepE.mono sm L g (fun _ _ => rfl) q2, rfl⟩, by simpa using nd.2, fun b hb => ?_, fun b hb => h5 b (List.mem_cons_of_mem _ hb)⟩
  · by_cases hb : b = p
    · rw [hb, upd_same] at e; cases e; rw [hb]; exact upd_same
    · rw [upd_ne hb] at e; exact h1 _ _ e
  · have hb' : b ∈ R ++ ([] ++ g) := by simpa using hb
    have hne : b ≠ p := fun z => nd.1 (by rw [← z]; exact hb')
    rw [upd_ne hne]
    exact h4 b (List.mem_cons_of_mem _ hb')
/-- the items of a frozen tuple, list stand beside it -/
theorem Ok.kids_t {ds : List D} (h : Ok c H R ((v, .fz (.tup ds)) :: L)) : ∃ a vs, v = .ref a ∧ SqT c.K H a vs ∧ vs.length = ds.length ∧ Ok c H R (vs.zip (ds.map O.fz) ++ (v, .fz (.tup ds)) :: L) := by
  obtain ⟨F, fp, h1, ⟨f, g, ⟨h2, h8⟩, h6, h7⟩, h3, h4, h5⟩ := h
  subst h2
  obtain ⟨a, vs, e1, e2, e3⟩ := id h8
  obtain ⟨q1, q2⟩ := RepE.of_fz (H := H) e3
  exact ⟨a, vs, e1, SqT.mono h1 e2, q1, F, fp, h1, RepE.app.mpr ⟨[], fp, q2, ⟨[], g, ⟨rfl, h8⟩, h6, h7⟩, rfl⟩, h3, h4, h5⟩
theorem Ok.kids_l {ds : List D} (h : Ok c H R ((v, .fz (.lst ds)) :: L)) : ∃ a vs, v = .ref a ∧ SqL c.K H a vs ∧ vs.length = ds.length ∧ Ok c H R (vs.zip (ds.map O.fz) ++ (v, .fz (.lst ds)) :: L) := by
  obtain ⟨F, fp, h1, ⟨f, g, ⟨h2, h8⟩, h6, h7⟩, h3, h4, h5⟩ := h
  subst h2
  obtain ⟨a, vs, e1, e2, e3⟩ := id h8
  obtain ⟨q1, q2⟩ := RepE.of_fz (H := H) e3
  exact ⟨a, vs, e1, h1.seq e2, q1, F, fp, h1, RepE.app.mpr ⟨[], fp, q2, ⟨[], g, ⟨rfl, h8⟩, h6, h7⟩, rfl⟩, h3, h4, h5⟩
/-- a scalar -/
def scalD : D → Option V
  | .non => some .non
  | .bl b => some (.bl b)
  | .int i => some (.int i)
  | .str s => some (.str s)
  | _ => none
theorem Ok.scal {d : D} (h : Ok c H R L) (e : scalD d = some v) : Ok c H R ((v, .fz d) :: L) := by
  obtain ⟨F, fp, h1, h2, h3, h4, h5⟩ := h
  refine ⟨F, fp, h1, ⟨[], fp, ⟨rfl, ?_⟩, h2, rfl⟩, h3, h4, h5⟩
  cases d <;> first
    | (have e' := Option.some.inj e; exact e'.symm)
    | cases e
end Pz
set_option Elab.async false
set_option linter.all false
set_option maxRecDepth 100000
set_option maxHeartbeats 1000000
namespace Pz
open PySem PySem.Spec PyProof.Rows L2

/-! ### the meaning of code: slots that hold trees -/
abbrev Env := List (Option O)
abbrev EE := Env → Option (O × Env)
abbrev TB := Env → Option (Bool × Env)
abbrev Fn := List O → Option (O × List (Option O))
/-- an argument: a value of its own, or a name's slot, looked at when all are there -/
inductive A where
  | tmp (o : O) | ref (i : Nat)
abbrev AE := Env → Option (A × Env)
abbrev AL := Env → Option (List A × Env)
inductive Out where
  | nx (S : Env) | rt (o : O) (S : Env) | bk (S : Env) | ct (S : Env)
abbrev SS := Env → Option Out

def allFz : List O → Option (List D)
  | [] => some []
  | .fz d :: r => (allFz r).map (d :: ·)
  | _ :: _ => none
def allFzk : List (Key × O) → Option (List (Key × D))
  | [] => some []
  | (k, .fz d) :: r => (allFzk r).map ((k, d) :: ·)
  | _ :: _ => none
/-- what may be looked at without being frozen -/
def shal : O → Option D
  | .fz d => some d
  | .ol os => (allFz os).map D.lst
  | .od kvs => (allFzk kvs).map D.dct
def rsv : A → Env → Option (D × Env)
  | .tmp o, S => some (fr o, S)
  | .ref i, S => match S[i]? with
    | some (some o) => match shal o with
      | some d => some (d, S)
      | none => some (fr o, S.set i (some (.fz (fr o))))
    | _ => none
def rsvs : List A → Env → Option (List D × Env)
  | [], S => some ([], S)
  | a :: r, S => match rsv a S with
    | some (d, S1) => match rsvs r S1 with
      | some (ds, S2) => some (d :: ds, S2)
      | none => none
    | none => none

def eLit (d : D) : EE := fun S => some (.fz d, S)
def eVar (i : Nat) : EE := fun S => match S[i]? with
  | some (some o) => some (.fz (fr o), S.set i (some (.fz (fr o))))
  | _ => none
def aVar (i : Nat) : AE := fun S => match S[i]? with
  | some (some _) => some (.ref i, S)
  | _ => none
def aTmp (e : EE) : AE := fun S => match e S with
  | some (o, S1) => some (.tmp o, S1)
  | none => none
def aNil : AL := fun S => some ([], S)
def aCons (a : AE) (r : AL) : AL := fun S => match a S with
  | some (x, S1) => match r S1 with
    | some (xs, S2) => some (x :: xs, S2)
    | none => none
  | none => none
/-- what is reckoned of values -/
def eBi (f : List D → Option O) (as : AL) : EE := fun S => match as S with
  | some (xs, S1) => match rsvs xs S1 with
    | some (ds, S2) => match f ds with
      | some o => some (o, S2)
      | none => none
    | none => none
  | none => none
abbrev EL := Env → Option (List O × Env)
def lNil : EL := fun S => some ([], S)
def lCons (e : EE) (r : EL) : EL := fun S => match e S with
  | some (o, S1) => match r S1 with
    | some (os, S2) => some (o :: os, S2)
    | none => none
  | none => none
def eTup (l : EL) : EE := fun S => match l S with
  | some (os, S1) => some (.fz (.tup (frs os)), S1)
  | none => none
def eLst (l : EL) : EE := fun S => match l S with
  | some (os, S1) => some (.ol os, S1)
  | none => none
def eDsp (ks : List Key) (l : EL) : EE := fun S => match l S with
  | some (os, S1) => some (.od (ks.zip os), S1)
  | none => none
/-- the longest list that a proof here speaks of -/
def cap : Nat := 10000000
def eIf (t : TB) (a b : EE) : EE := fun S => match t S with
  | some (true, S1) => a S1
  | some (false, S1) => b S1
  | none => none
/-- an expression's truth -/
def tE (e : EE) : TB := fun S => match e S with
  | some (.fz (.bl b), S1) => some (b, S1)
  | _ => none
def tAnd (t u : TB) : TB := fun S => match t S with
  | some (true, S1) => u S1
  | some (false, S1) => some (false, S1)
  | none => none
def tOr (t u : TB) : TB := fun S => match t S with
  | some (true, S1) => some (true, S1)
  | some (false, S1) => u S1
  | none => none
def tNot (t : TB) : TB := fun S => match t S with
  | some (b, S1) => some (!b, S1)
  | none => none
def eT (t : TB) : EE := fun S => match t S with
  | some (b, S1) => some (.fz (.bl b), S1)
  | none => none

/-! statements -/
def sNil : SS := fun S => some (.nx S)
def sSeq (s u : SS) : SS := fun S => match s S with
  | some (.nx S1) => u S1
  | some o => some o
  | none => none
def sSet (i : Nat) (e : EE) : SS := fun S => match e S with
  | some (o, S1) => some (.nx (S1.set i (some o)))
  | none => none
def sRet (e : EE) : SS := fun S => match e S with
  | some (o, S1) => some (.rt o S1)
  | none => none
def sRetN : SS := fun S => some (.rt (.fz .non) S)
def sIf (t : TB) (a b : SS) : SS := fun S => match t S with
  | some (true, S1) => a S1
  | some (false, S1) => b S1
  | none => none
def sExp (e : EE) : SS := fun S => match e S with
  | some (_, S1) => some (.nx S1)
  | none => none
def sNever : SS := fun _ => none
def sBrk : SS := fun S => some (.bk S)
def sCnt : SS := fun S => some (.ct S)
/-! places: a name, an item of what stands at a place -/
def kLook {α : Type} (kvs : List (Key × α)) (k : Key) : Option α := (kvs.find? fun kv => decide (kv.1 = k)).map (·.2)
def kPut {α : Type} (kvs : List (Key × α)) (k : Key) (x : α) : List (Key × α) :=
  if (kvs.any fun kv => decide (kv.1 = k)) = true then kvs.map (fun kv => if kv.1 = k then (kv.1, x) else kv) else kvs ++ [(k, x)]
def keyD : D → Option Key
  | .int i => some (.inl i)
  | .str s => some (.inr s)
  | _ => none
/-- a quiet value: told without any change -/
abbrev QE := Env → Option D
inductive Pl where
  | slot (i : Nat) | sub (p : Pl) (q : QE)
def subGet : O → D → Option O
  | .ol os, .int k => (ixN os.length k).bind fun j => os[j]?
  | .od kvs, d => (keyD d).bind (kLook kvs)
  | _, _ => none
def subSet : O → D → O → Option O
  | .ol os, .int k, x => (ixN os.length k).map fun j => .ol (os.set j x)
  | .od kvs, d, x => if kvs.length < cap then (keyD d).map fun k => .od (kPut kvs k x) else none
  | _, _, _ => none
def getPl : Pl → Env → Option O
  | .slot i, S => (S[i]?).join
  | .sub p q, S => match getPl p S with
    | some o => match q S with
      | some d => subGet o d
      | none => none
    | none => none
/-- the thing at a place is changed -/
def updPl : Pl → O → Env → Option Env
  | .slot i, x, S => some (S.set i (some x))
  | .sub p q, x, S => match getPl p S with
    | some (.ol os) => match q S with
      | some (.int k) => match ixN os.length k with
        | some j => updPl p (.ol (os.set j x)) S
        | none => none
      | _ => none
    | some (.od kvs) => match q S with
      | some d => match keyD d with
        | some kk => updPl p (.od (kPut kvs kk x)) S
        | none => none
      | none => none
    | _ => none
/-- an item is put there -/
def setIt (p : Pl) (q : QE) (x : O) : Env → Option Env := fun S => match getPl p S with
  | some o => match q S with
    | some d => match subSet o d x with
      | some o' => updPl p o' S
      | none => none
    | none => none
  | none => none
theorem updPl_len : ∀ (p : Pl) (x : O) (S S' : Env), updPl p x S = some S' → S'.length = S.length
  | .slot i, x, S, S', e => by simp only [updPl] at e; cases e; simp
  | .sub p q, x, S, S', e => by
    simp only [updPl] at e
    split at e
    · split at e
      · split at e
        · exact updPl_len p _ S S' e
        · cases e
      · cases e
    · split at e
      · split at e
        · exact updPl_len p _ S S' e
        · cases e
      · cases e
    · cases e
theorem setIt_len {p : Pl} {q : QE} {x : O} {S S' : Env} (e : setIt p q x S = some S') : S'.length = S.length := by
  unfold setIt at e
  split at e
  · split at e
    · split at e
      · exact updPl_len p _ S S' e
      · cases e
    · cases e
  · cases e
/-- a target: a name, a tuple of targets, an item -/
inductive Tg where
  | nm (i : Nat) | tp (ts : List Tg) | it (p : Pl) (q : QE)
mutual
def bindT : Tg → D → Env → Option Env
  | .nm i, d, S => some (S.set i (some (.fz d)))
  | .it p q, d, S => setIt p q (.fz d) S
  | .tp ts, .tup ds, S => bindTs ts ds S
  | .tp _, _, _ => none
def bindTs : List Tg → List D → Env → Option Env
  | [], [], S => some S
  | t :: ts, d :: ds, S => match bindT t d S with
    | some S1 => bindTs ts ds S1
    | none => none
  | _, _, _ => none
end
def sUnp (tg : Tg) (e : EE) : SS := fun S => match e S with
  | some (o, S1) => match bindT tg (fr o) S1 with
    | some S2 => some (.nx S2)
    | none => none
  | none => none
def forGo (tg : Tg) (b : SS) : List D → SS
  | [], S => some (.nx S)
  | d :: ds, S => match bindT tg d S with
    | some S1 => match b S1 with
      | some (.nx S2) => forGo tg b ds S2
      | some (.ct S2) => forGo tg b ds S2
      | some (.bk S2) => some (.nx S2)
      | some (.rt o S2) => some (.rt o S2)
      | none => none
    | none => none
abbrev IE := Env → Option (List D × Env)
def sFor (tg : Tg) (it : IE) (b : SS) : SS := fun S => match it S with
  | some (ds, S1) => forGo tg b ds S1
  | none => none
def whileGo (t : TB) (b : SS) : Nat → SS
  | 0, _ => none
  | n + 1, S => match t S with
    | some (true, S1) => match b S1 with
      | some (.nx S2) => whileGo t b n S2
      | some (.ct S2) => whileGo t b n S2
      | some (.bk S2) => some (.nx S2)
      | some (.rt o S2) => some (.rt o S2)
      | none => none
    | some (false, S1) => some (.nx S1)
    | none => none
/-- laps that any while here may take -/
def laps : Nat := 10 ^ 12
def sWhile (t : TB) (b : SS) : SS := whileGo t b laps

/-! what is walked -/
def items : D → Option (List D)
  | .lst ds => some ds
  | .tup ds => some ds
  | _ => none
/-- all of a list or a tuple; a name's list is frozen by it -/
def iVal (a : AE) : IE := fun S => match a S with
  | some (.tmp o, S1) => match items (fr o) with
    | some ds => some (ds, S1)
    | none => none
  | some (.ref i, S1) => match S1[i]? with
    | some (some o) => match items (fr o) with
      | some ds => some (ds, S1.set i (some (.fz (fr o))))
      | none => none
    | _ => none
  | none => none
def upTo (lo : Int) : Nat → List D
  | 0 => []
  | n + 1 => .int lo :: upTo (lo + 1) n
def small62 (i : Int) : Bool := decide (-(2 ^ 62) ≤ i ∧ i < 2 ^ 62)
def iRange1 (as : AL) : IE := fun S => match as S with
  | some (xs, S1) => match rsvs xs S1 with
    | some ([.int j], S2) => if small62 j then some (upTo 0 j.toNat, S2) else none
    | _ => none
  | none => none
def iRange2 (as : AL) : IE := fun S => match as S with
  | some (xs, S1) => match rsvs xs S1 with
    | some ([.int i, .int j], S2) => if small62 i && small62 j then some (upTo i (j - i).toNat, S2) else none
    | _ => none
  | none => none
def pairsFrom : Nat → List D → List D
  | _, [] => []
  | k, d :: ds => .tup [.int (k : Nat), d] :: pairsFrom (k + 1) ds
def iEnum (a : AE) : IE := fun S => match iVal a S with
  | some (ds, S1) => some (pairsFrom 0 ds, S1)
  | none => none
def zipD : List D → List D → List D
  | d :: ds, e :: es => .tup [d, e] :: zipD ds es
  | _, _ => []

/-! comprehensions -/
def clearS (S : Env) : List Nat → Env
  | [] => S
  | i :: is => (clearS S is).set i none
def putBack (S0 S : Env) : List Nat → Env
  | [] => S
  | i :: is => (putBack S0 S is).set i ((S0[i]?).join)
def lcGo (tg : Tg) (t : TB) (e : EE) (own : List Nat) : List D → List O → Env → Option (List O × Env)
  | [], acc, S => some (acc, S)
  | d :: ds, acc, S => match bindT tg d S with
    | some S1 => match t S1 with
      | some (true, S2) => match e S2 with
        | some (o, S3) => lcGo tg t e own ds (acc ++ [o]) (clearS S3 own)
        | none => none
      | some (false, S2) => lcGo tg t e own ds acc (clearS S2 own)
      | none => none
    | none => none
def tYes : TB := fun S => some (true, S)
def eLc (tg : Tg) (it : IE) (t : TB) (e : EE) (own : List Nat) : EE := fun S => match it S with
  | some (ds, S1) => if ds.length ≤ cap then (match lcGo tg t e own ds [] (clearS S1 own) with
    | some (acc, S2) => some (.ol acc, putBack S1 S2 own)
    | none => none) else none
  | none => none

/-! calls. io: the parameters that the def never binds anew; a name's list or dict is lent there -/
def isOwn : O → Bool
  | .fz _ => false
  | _ => true
/-- the arguments as they are handed over -/
def lend : List Bool → List A → Env → Option (List O × Env)
  | _, [], S => some ([], S)
  | b :: bs, .tmp o :: r, S => match lend bs r S with
    | some (os, S1) => some (o :: os, S1)
    | none => none
  | b :: bs, .ref i :: r, S => match S[i]? with
    | some (some o) => if (b && isOwn o) then (match lend bs r (S.set i none) with
        | some (os, S1) => some (o :: os, S1)
        | none => none)
      else (match lend bs r (S.set i (some (.fz (fr o)))) with
        | some (os, S1) => some (.fz (fr o) :: os, S1)
        | none => none)
    | _ => none
  | [], _ :: _, _ => none
/-- .. and come back -/
def giveBack : List Bool → List A → List (Option O) → Env → Env
  | true :: bs, .ref i :: r, o :: os, S => (giveBack bs r os S).set i o
  | _ :: bs, _ :: r, _ :: os, S => giveBack bs r os S
  | _, _, _, S => S
def eCall (g : Fn) (io : List Bool) (as : AL) : EE := fun S => match as S with
  | some (xs, S1) => match lend io xs S1 with
    | some (os, S2) => match g os with
      | some (o, fs) => some (o, giveBack io xs fs S2)
      | none => none
    | none => none
  | none => none
def finals : List Bool → Env → List (Option O)
  | true :: bs, o :: S => o :: finals bs S
  | false :: bs, _ :: S => none :: finals bs S
  | _, _ => []
/-- a def: n names in all -/
def run (n : Nat) (io : List Bool) (b : SS) : Fn := fun os =>
  match b (os.map some ++ List.replicate (n - os.length) none) with
  | some (.nx S) => some (.fz .non, finals io S)
  | some (.rt o S) => some (o, finals io S)
  | _ => none
end Pz
set_option Elab.async false
set_option linter.all false
set_option maxRecDepth 100000
set_option maxHeartbeats 1000000
namespace Pz
open PySem PySem.Spec L2
open PyProof.Rows hiding St

/-! ### slots -/
def ent : Option V → Option O → List (V × O)
  | some v, some o => [(v, o)]
  | _, _ => []
def ents : St → Env → List (V × O)
  | s :: σ, x :: S => ent s x ++ ents σ S
  | _, _ => []
def Cov : St → Env → Prop
  | s :: σ, x :: S => (∀ o, x = some o → ∃ v, s = some v) ∧ Cov σ S
  | [], [] => True
  | _, _ => False
theorem Cov.len : ∀ {σ : St} {S : Env}, Cov σ S → σ.length = S.length
  | [], [], _ => rfl
  | _ :: _, _ :: _, h => by simp [Cov.len h.2]
  | [], _ :: _, h => h.elim
  | _ :: _, [], h => h.elim
theorem Cov.get : ∀ {σ : St} {S : Env} {i : Nat} {o : O}, Cov σ S → S[i]? = some (some o) → ∃ v, σ[i]? = some (some v)
  | [], [], i, o, _, h => by simp at h
  | s :: σ, x :: S, 0, o, h, e => by
    simp at e
    obtain ⟨v, hv⟩ := h.1 o e
    exact ⟨v, by simp [hv]⟩
  | s :: σ, x :: S, i + 1, o, h, e => by
    obtain ⟨v, hv⟩ := Cov.get (i := i) h.2 (by simpa using e)
    exact ⟨v, by simpa using hv⟩
  | [], _ :: _, _, _, h, _ => h.elim
  | _ :: _, [], _, _, h, _ => h.elim
theorem Cov.set : ∀ {σ : St} {S : Env} {i : Nat} {s : Option V} {x : Option O}, Cov σ S → (∀ o, x = some o → ∃ v, s = some v) → Cov (σ.set i s) (S.set i x)
  | [], [], i, s, x, h, _ => h
  | _ :: σ, _ :: S, 0, s, x, h, k => ⟨k, h.2⟩
  | _ :: σ, _ :: S, i + 1, s, x, h, k => ⟨h.1, Cov.set h.2 k⟩
  | [], _ :: _, _, _, _, h, _ => h.elim
  | _ :: _, [], _, _, _, h, _ => h.elim
theorem set_self {α : Type} : ∀ {l : List α} {i : Nat} {x : α}, l[i]? = some x → l.set i x = l
  | [], i, x, h => by simp at h
  | a :: l, 0, x, h => by simp at h; simp [h]
  | a :: l, i + 1, x, h => by simp; exact set_self (by simpa using h)
/-- one slot, and the others -/
theorem ents_at : ∀ {σ : St} {S : Env} {i : Nat}, Cov σ S → i < S.length → ∃ L1 L2, ∀ s x, ents (σ.set i s) (S.set i x) = L1 ++ (ent s x ++ L2)
  | [], [], i, _, hi => by simp at hi
  | s :: σ, x :: S, 0, _, _ => ⟨[], ents σ S, fun s x => rfl⟩
  | s :: σ, x :: S, i + 1, h, hi => by
    obtain ⟨L1, L2, q⟩ := ents_at (i := i) h.2 (by simpa using hi)
    exact ⟨ent s x ++ L1, L2, fun s' x' => by simp [ents, q, List.append_assoc]⟩
  | [], _ :: _, _, h, _ => h.elim
  | _ :: _, [], _, h, _ => h.elim
theorem lt_of_get {α : Type} {l : List α} {i : Nat} {x : α} (h : l[i]? = some x) : i < l.length := by
  by_cases hi : i < l.length
  · exact hi
  · rw [List.getElem?_eq_none (by omega)] at h; cases h

structure Cs where
  P : Program
  w : World
  K : PySem.W.Frag
  mg : Str → Option Value
  base : Heap
  N : List Str
  sc : Scope
  fa : Nat → Addr
  own : Str → Bool
  k : Nat
abbrev Cs.c (Γ : Cs) : Gc := ⟨Γ.K, Γ.fa⟩
structure XOk (Γ : Cs) (X : Cx) : Prop where
  p : Γ.P = X.prog
  w : Γ.w = X.w
  K : Γ.K = X.K
  mg : Γ.mg = X.mg
  base : Γ.base = X.base
  N : Γ.N = X.N
  sc : Γ.sc = X.env.scope
  nd : X.N.Nodup
  calm : X.calm = true
  room : Room Γ.k X.A
  xe : X.xe = fun _ _ => False
  gd : X.A.guards = some []
  own : ∀ x, Γ.own x = true → Loc X.env.scope x ∧ (X.fn x = true ∨ X.env.scope.names.lookup x = some .local)

structure StOk (c : Gc) (σ : St) (S : Env) (T : List (V × O)) (H : Hp) : Prop where
  cov : Cov σ S
  ok : Ok c H [] (ents σ S ++ T)

section
variable {c : Gc} {σ : St} {S : Env} {T T' : List (V × O)} {H : Hp} {i : Nat} {o : O} {v : V} {d : D}
theorem StOk.permT (h : StOk c σ S T H) (q : T.Perm T') : StOk c σ S T' H := ⟨h.cov, h.ok.perm (q.append_left _)⟩
theorem StOk.drop {e : V × O} (h : StOk c σ S (e :: T) H) : StOk c σ S T H := ⟨h.cov, (h.ok.perm List.perm_middle).tail⟩
theorem StOk.drops : ∀ {L : List (V × O)}, StOk c σ S (L ++ T) H → StOk c σ S T H
  | [], h => h
  | _ :: L, h => StOk.drops (L := L) h.drop
theorem StOk.hd {e : V × O} (h : StOk c σ S (e :: T) H) : Ok c H [] (e :: (ents σ S ++ T)) := h.ok.perm List.perm_middle
theorem StOk.of_hd {e : V × O} (k : Cov σ S) (h : Ok c H [] (e :: (ents σ S ++ T))) : StOk c σ S (e :: T) H := ⟨k, h.perm List.perm_middle.symm⟩
theorem StOk.same {H' : Hp} (h : StOk c σ S T H) (e : Same H H') : StOk c σ S T H' := ⟨h.cov, h.ok.same e⟩
/-- a slot's thing at the front -/
theorem StOk.slot (h : StOk c σ S T H) (e : S[i]? = some (some o)) : ∃ v, σ[i]? = some (some v) ∧ ∃ L1 L2, (∀ s x, ents (σ.set i s) (S.set i x) = L1 ++ (ent s x ++ L2)) ∧ ents σ S = L1 ++ ((v, o) :: L2) := by
  obtain ⟨v, hv⟩ := h.cov.get e
  obtain ⟨L1, L2, q⟩ := ents_at h.cov (lt_of_get e)
  refine ⟨v, hv, L1, L2, q, ?_⟩
  have z := q (some v) (some o)
  rw [set_self hv, set_self e] at z
  exact z
theorem front {L1 L2 T : List (V × O)} {e : V × O} : ((L1 ++ (e :: L2)) ++ T).Perm (e :: ((L1 ++ L2) ++ T)) := by
  rw [List.append_assoc, List.append_assoc, List.cons_append]
  exact List.perm_middle
/-- a slot's thing is changed -/
theorem StOk.upd {o' : O} {H' : Hp} (h : StOk c σ S T H) (e : S[i]? = some (some o)) (hv : σ[i]? = some (some v))
    (k : ∀ L, Ok c H [] ((v, o) :: L) → Ok c H' [] ((v, o') :: L)) : StOk c σ (S.set i (some o')) T H' := by
  obtain ⟨v', hv', L1, L2, q, q2⟩ := h.slot e
  rw [hv] at hv'; cases hv'
  have z := q (some v) (some o')
  rw [set_self hv] at z
  refine ⟨?_, ?_⟩
  · have y := h.cov.set (i := i) (s := some v) (x := some o') fun _ _ => ⟨v, rfl⟩
    rw [set_self hv] at y
    exact y
  · rw [z]
    have h2 := h.ok
    rw [q2] at h2
    exact (k _ (h2.perm front)).perm (by
      show ((v, o') :: ((L1 ++ L2) ++ T)).Perm ((L1 ++ ([(v, o')] ++ L2)) ++ T)
      exact (front (e := (v, o'))).symm)
/-- a slot's thing is frozen and stands beside -/
theorem StOk.read (h : StOk c σ S T H) (e : S[i]? = some (some o)) (hv : σ[i]? = some (some v)) : StOk c σ (S.set i (some (.fz (fr o)))) ((v, .fz (fr o)) :: T) H := by
  have h1 : StOk c σ (S.set i (some (.fz (fr o)))) T H := h.upd e hv fun L q => q.freeze
  have e1 : (S.set i (some (.fz (fr o))))[i]? = some (some (.fz (fr o))) := by
    rw [List.getElem?_set_self (lt_of_get e)]
  obtain ⟨v', hv', L1, L2, q, q2⟩ := h1.slot e1
  rw [hv] at hv'; cases hv'
  refine .of_hd h1.cov ?_
  have h2 := h1.ok
  rw [q2] at h2
  have h3 := (h2.perm front).dup
  rw [q2]
  exact h3.perm (List.Perm.cons _ front.symm)
/-- a value goes to a slot -/
theorem StOk.put (h : StOk c σ S ((v, o) :: T) H) (hi : i < S.length) : StOk c (σ.set i (some v)) (S.set i (some o)) T H := by
  refine ⟨h.cov.set fun _ _ => ⟨v, rfl⟩, ?_⟩
  obtain ⟨L1, L2, q⟩ := ents_at h.cov hi
  rw [q]
  have hlt : i < σ.length := by rw [h.cov.len]; exact hi
  have e0 : ents σ S = L1 ++ (ent σ[i] S[i] ++ L2) := by
    have z := q σ[i] S[i]
    rw [set_self (List.getElem?_eq_getElem hlt), set_self (List.getElem?_eq_getElem hi)] at z
    exact z
  have h2 := h.hd
  rw [e0] at h2
  have pm : ((v, o) :: ((L1 ++ (ent σ[i] S[i] ++ L2)) ++ T)).Perm (ent σ[i] S[i] ++ ((v, o) :: (L1 ++ L2 ++ T))) := by
    have a1 : (L1 ++ (ent σ[i] S[i] ++ L2)).Perm (ent σ[i] S[i] ++ (L1 ++ L2)) := by
      rw [← List.append_assoc, ← List.append_assoc]
      exact List.perm_append_comm.append_right L2
    have a2 : ((v, o) :: ((L1 ++ (ent σ[i] S[i] ++ L2)) ++ T)).Perm ((v, o) :: (ent σ[i] S[i] ++ (L1 ++ L2 ++ T))) := by
      refine List.Perm.cons _ ?_
      have := a1.append_right T
      rw [List.append_assoc (ent σ[i] S[i])] at this
      exact this
    exact a2.trans List.perm_middle.symm
  exact (h2.perm pm).drop_left.perm (by
    show ((v, o) :: (L1 ++ L2 ++ T)).Perm ((L1 ++ ([(v, o)] ++ L2)) ++ T)
    exact (front (e := (v, o))).symm)
/-- a slot is emptied; what stood there stands beside -/
theorem StOk.take (h : StOk c σ S T H) (e : S[i]? = some (some o)) (hv : σ[i]? = some (some v)) : StOk c σ (S.set i none) ((v, o) :: T) H := by
  obtain ⟨v', hv', L1, L2, q, q2⟩ := h.slot e
  rw [hv] at hv'; cases hv'
  have z := q (some v) none
  rw [set_self hv] at z
  refine .of_hd ?_ ?_
  · have y := h.cov.set (i := i) (s := some v) (x := none) fun _ z => by cases z
    rw [set_self hv] at y
    exact y
  · rw [z]
    have h2 := h.ok
    rw [q2] at h2
    exact h2.perm front
end

/-! ### what is to be shown of code -/
def SoundE (Γ : Cs) (e : Expr) (f : EE) : Prop := ∃ t, (∀ X, XOk Γ X → PE X e t) ∧ ∀ σ S T H o S', f S = some (o, S') → StOk Γ.c σ S T H → ∀ Q, (∀ v H', StOk Γ.c σ S' ((v, o) :: T) H' → Q v H') → t σ H Q
def SoundT (Γ : Cs) (e : Expr) (f : TB) : Prop := ∃ t, (∀ X, XOk Γ X → PT X e t) ∧ ∀ σ S T H b S', f S = some (b, S') → StOk Γ.c σ S T H → ∀ Q, (∀ H', StOk Γ.c σ S' T H' → Q b H') → t σ H Q
def tmps : List A → List V → List (V × O)
  | .tmp o :: xs, v :: vs => (v, o) :: tmps xs vs
  | .ref _ :: xs, _ :: vs => tmps xs vs
  | _, _ => []
def RefOk (σ : St) : List A → List V → Prop
  | [], [] => True
  | .tmp _ :: xs, _ :: vs => RefOk σ xs vs
  | .ref i :: xs, v :: vs => σ[i]? = some (some v) ∧ RefOk σ xs vs
  | _, _ => False
def SoundA1 (Γ : Cs) (e : Expr) (f : AE) : Prop := ∃ t, (∀ X, XOk Γ X → PE X e t) ∧ ∀ σ S T H x S', f S = some (x, S') → StOk Γ.c σ S T H → ∀ Q, (∀ v H', RefOk σ [x] [v] → StOk Γ.c σ S' (tmps [x] [v] ++ T) H' → Q v H') → t σ H Q
def SoundA (Γ : Cs) (es : List Expr) (f : AL) : Prop := ∃ t, (∀ X, XOk Γ X → PA X es t) ∧ ∀ σ S T H xs S', f S = some (xs, S') → StOk Γ.c σ S T H → ∀ Q, (∀ vs H', RefOk σ xs vs → StOk Γ.c σ S' (tmps xs vs ++ T) H' → Q vs H') → t σ H Q
def Keep (W : List Nat) (σ σ' : St) : Prop := ∀ j, j ∉ W → σ'[j]? = σ[j]?
def EndsOk (Γ : Cs) (W : List Nat) (σ : St) (T : List (V × O)) (out : Out) (D : Ends) : Prop :=
  match out with
  | .nx S' => ∀ σ' H', Keep W σ σ' → StOk Γ.c σ' S' T H' → D.nx σ' H'
  | .bk S' => ∀ σ' H', Keep W σ σ' → StOk Γ.c σ' S' T H' → D.bk σ' H'
  | .ct S' => ∀ σ' H', Keep W σ σ' → StOk Γ.c σ' S' T H' → D.ct σ' H'
  | .rt o S' => ∀ v σ' H', Keep W σ σ' → StOk Γ.c σ' S' ((v, o) :: T) H' → D.rt v H'
def SoundS (Γ : Cs) (st : Stmt) (f : SS) (W : List Nat) : Prop := ∃ t, (∀ X, XOk Γ X → PS X st t) ∧ ∀ σ S T H out, f S = some out → StOk Γ.c σ S T H → ∀ D, EndsOk Γ W σ T out D → t D σ H
def SoundB (Γ : Cs) (st : List Stmt) (f : SS) (W : List Nat) : Prop := ∃ t, (∀ X, XOk Γ X → PSs X st t) ∧ ∀ σ S T H out, f S = some out → StOk Γ.c σ S T H → ∀ D, EndsOk Γ W σ T out D → t D σ H
def SoundG (Γ : Cs) (e : Expr) (tg : Tg) (W : List Nat) : Prop := ∃ g, (∀ X, XOk Γ X → PG X e g) ∧ ∀ σ S T H v d S', bindT tg d S = some S' → StOk Γ.c σ S ((v, .fz d) :: T) H → ∀ Q, (∀ σ' H', Keep W σ σ' → StOk Γ.c σ' S' T H' → Q σ' H') → g v σ H Q
def SoundGs (Γ : Cs) (es : List Expr) (tgs : List Tg) (W : List Nat) : Prop := ∃ g, (∀ X, XOk Γ X → PGs X es g) ∧ ∀ σ S T H vs ds S', bindTs tgs ds S = some S' → vs.length = ds.length → StOk Γ.c σ S (vs.zip (ds.map O.fz) ++ T) H → ∀ Q, (∀ σ' H', Keep W σ σ' → StOk Γ.c σ' S' T H' → Q σ' H') → g vs σ H Q

variable {Γ : Cs} {e a b : Expr} {es : List Expr} {pos : Pos}

/-! ### expressions -/
theorem se_int {i j} : SoundE Γ (.Constant (.int i) j pos) (eLit (.int i)) := ⟨_, fun X _ => pe_int, fun σ S T H o S' e h Q q => by
  cases e
  exact q _ _ (.of_hd h.cov (h.ok.scal rfl))⟩
theorem se_bl {b j} : SoundE Γ (.Constant (.bool b) j pos) (eLit (.bl b)) := ⟨_, fun X _ => pe_bl, fun σ S T H o S' e h Q q => by
  cases e
  exact q _ _ (.of_hd h.cov (h.ok.scal rfl))⟩
theorem se_non {j} : SoundE Γ (.Constant .none j pos) (eLit .non) := ⟨_, fun X _ => pe_non, fun σ S T H o S' e h Q q => by
  cases e
  exact q _ _ (.of_hd h.cov (h.ok.scal rfl))⟩
theorem se_str {x j} : SoundE Γ (.Constant (.str x) j pos) (eLit (.str x)) := ⟨_, fun X _ => pe_str, fun σ S T H o S' e h Q q => by
  cases e
  exact q _ _ (.of_hd h.cov (h.ok.scal rfl))⟩
theorem se_var {i : Nat} {x : Str} (hN : Γ.N[i]? = some x) (hv : Vis Γ.sc x) (hd : (x == ("__debug__" : Str)) = false) (hcd : (x == ("__classdict__" : Str)) = false) : SoundE Γ (.Name x pos) (eVar i) :=
  ⟨_, fun X hX => pe_var (i := i) (by rw [← hX.N]; exact hN) (by rw [← hX.sc]; exact hv) hd hcd, fun σ S T H o S' e h Q q => by
    unfold eVar at e
    split at e
    · rename_i o' eS
      cases e
      obtain ⟨v, hv', _⟩ := h.slot eS
      exact ⟨v, hv', q _ _ (h.read eS hv')⟩
    · cases e⟩
theorem sa_var {i : Nat} {x : Str} (hN : Γ.N[i]? = some x) (hv : Vis Γ.sc x) (hd : (x == ("__debug__" : Str)) = false) (hcd : (x == ("__classdict__" : Str)) = false) : SoundA1 Γ (.Name x pos) (aVar i) :=
  ⟨_, fun X hX => pe_var (i := i) (by rw [← hX.N]; exact hN) (by rw [← hX.sc]; exact hv) hd hcd, fun σ S T H x S' e h Q q => by
    unfold aVar at e
    split at e
    · rename_i o' eS
      cases e
      obtain ⟨v, hv', _⟩ := h.slot eS
      exact ⟨v, hv', q v H ⟨hv', trivial⟩ h⟩
    · cases e⟩
theorem sa_tmp {f : EE} (he : SoundE Γ e f) : SoundA1 Γ e (aTmp f) := by
  obtain ⟨t, h1, h2⟩ := he
  refine ⟨t, h1, fun σ S T H x S' ee h Q q => ?_⟩
  unfold aTmp at ee
  split at ee
  · rename_i o S1 ef
    cases ee
    exact h2 σ S T H o S' ef h Q fun v H' h' => q v H' trivial h'
  · cases ee
theorem sa_nil : SoundA Γ [] aNil := ⟨_, fun X _ => pa_nil, fun σ S T H xs S' e h Q q => by
  cases e
  exact q [] H trivial h⟩
theorem sa_cons {f : AE} {r : AL} (he : SoundA1 Γ e f) (hr : SoundA Γ es r) (hs : ∀ env, starEach (e :: es) env = (false, eval e env) :: starEach es env) : SoundA Γ (e :: es) (aCons f r) := by
  obtain ⟨t, h1, h2⟩ := he
  obtain ⟨u, g1, g2⟩ := hr
  refine ⟨_, fun X hX => pa_cons (h1 X hX) (g1 X hX) (hs _), fun σ S T H xs S' ee h Q q => ?_⟩
  unfold aCons at ee
  split at ee
  · rename_i x S1 e1
    split at ee
    · rename_i xs1 S2 e2
      cases ee
      refine h2 σ S T H x S1 e1 h _ fun v H1 r1 k1 => ?_
      refine g2 σ S1 _ H1 xs1 S' e2 k1 _ fun vs H2 r2 k2 => ?_
      refine q (v :: vs) H2 ?_ ?_
      · cases x with
        | tmp o => exact r2
        | ref i => exact ⟨r1.1, r2⟩
      · cases x with
        | tmp o =>
          refine k2.permT ?_
          show (tmps xs1 vs ++ ([(v, o)] ++ T)).Perm ((v, o) :: tmps xs1 vs ++ T)
          exact List.perm_middle
        | ref i => exact k2
    · cases ee
  · cases ee
end Pz
set_option Elab.async false
set_option linter.all false
set_option maxRecDepth 100000
set_option maxHeartbeats 1000000
namespace Pz
open PySem PySem.Spec L2
open PyProof.Rows hiding St
variable {c : Gc} {F H H' : Hp} {L : List (V × O)} {R : List Addr} {Γ : Cs} {e a b : Expr} {es : List Expr} {pos : Pos}

/-! ### either of two readings -/
theorem PE.or {X : Cx} {t u : TE} (h : PE X e t) (g : PE X e u) : PE X e (fun σ H Q => t σ H Q ∨ u σ H Q) := ⟨fun pins s σ H Q I hw => hw.elim (h.run pins s σ H Q I) (g.run pins s σ H Q I)⟩
theorem OpR.or {X : Cx} {f : Value → Value → Sem Value} {r r' : R2} (h : OpR X f r) (h' : OpR X f r') : OpR X f (fun x y H Q => r x y H Q ∨ r' x y H Q) := by
  intro pins s σ H x y v u Q I rx ry q
  exact q.elim (h pins s σ H x y v u Q I rx ry) (h' pins s σ H x y v u Q I rx ry)

/-! ### looked at -/
def OkF (c : Gc) (F H : Hp) (R : List Addr) (L : List (V × O)) : Prop :=
  ∃ fp, Same F H ∧ RepE c F H L fp ∧ (R ++ fp).Nodup ∧ (∀ a ∈ R ++ fp, F a = none) ∧ ∀ a ∈ R, ∃ o, H a = some o
theorem OkF.ok (h : OkF c F H R L) : Ok c H R L := ⟨F, h⟩
theorem OkF.same (h : OkF c F H R L) : Same F H := let ⟨_, e, _⟩ := h; e
theorem OkF.add {d : D} {v : V} (h : OkF c F H R L) (r : RepD c F d v) : OkF c F H R ((v, .fz d) :: L) := by
  obtain ⟨fp, h1, h2, h3, h4, h5⟩ := h
  exact ⟨fp, h1, ⟨[], fp, ⟨rfl, r⟩, h2, rfl⟩, h3, h4, h5⟩
theorem OkF.adds (h : OkF c F H R L) : ∀ {ds : List D} {vs : List V}, RepDs c F ds vs → OkF c F H R (vs.zip (ds.map O.fz) ++ L)
  | [], vs, r => by
    have r' : vs = [] := r
    subst r'; exact h
  | d :: ds, vs, ⟨v, w, e, r1, r2⟩ => by
    subst e
    exact (OkF.adds h r2).add r1
theorem RepE.mem {v : V} {o : O} : ∀ {L : List (V × O)} {fp : List Addr}, RepE c F H L fp → (v, o) ∈ L → ∃ fp, RepO c F H o v fp
  | [], fp, _, hm => by cases hm
  | (v', o') :: r, fp, ⟨f, g, q1, q2, _⟩, hm => by
    rcases List.mem_cons.mp hm with e | hm
    · cases e; exact ⟨f, q1⟩
    · exact RepE.mem q2 hm
theorem OkF.at (h : OkF c F H R L) {v : V} {o : O} (hm : (v, o) ∈ L) : ∃ fp, RepO c F H o v fp := by
  obtain ⟨fp, _, h2, _⟩ := h
  exact RepE.mem h2 hm
/-- frozen, or owned by another name and frozen within -/
def ViewF (c : Gc) (F H : Hp) (d : D) (v : V) : Prop :=
  RepD c F d v ∨ (∃ a vs ds, v = .ref a ∧ d = .lst ds ∧ H a = some (.lst vs) ∧ RepDs c F ds vs) ∨ ∃ a ps kvs, v = .ref a ∧ d = .dct kvs ∧ H a = some (.dK ps) ∧ RepDk c F kvs ps
def Views (c : Gc) (F H : Hp) : List D → List V → Prop
  | [], vs => vs = []
  | d :: ds, vs => ∃ v r, vs = v :: r ∧ ViewF c F H d v ∧ Views c F H ds r
theorem allFz_rep : ∀ {os : List O} {ds : List D} {vs : List V} {fp : List Addr}, allFz os = some ds → RepOs c F H os vs fp → RepDs c F ds vs
  | [], ds, vs, fp, e, ⟨h, _⟩ => by
    cases e; exact h
  | .fz d :: os, ds, vs, fp, e, ⟨v, r, f, g, h1, ⟨_, h2⟩, h3, _⟩ => by
    unfold allFz at e
    cases e1 : allFz os with
    | none => rw [e1] at e; cases e
    | some ds' =>
      rw [e1] at e
      cases e
      exact ⟨v, r, h1, h2, allFz_rep e1 h3⟩
  | .ol _ :: _, ds, vs, fp, e, _ => by cases e
  | .od _ :: _, ds, vs, fp, e, _ => by cases e
theorem allFzk_rep : ∀ {os : List (Key × O)} {ds : List (Key × D)} {vs : List (Key × V)} {fp : List Addr}, allFzk os = some ds → RepOk c F H os vs fp → RepDk c F ds vs
  | [], ds, vs, fp, e, ⟨h, _⟩ => by
    cases e; exact h
  | (k, .fz d) :: os, ds, vs, fp, e, ⟨v, r, f, g, h1, ⟨_, h2⟩, h3, _⟩ => by
    unfold allFzk at e
    cases e1 : allFzk os with
    | none => rw [e1] at e; cases e
    | some ds' =>
      rw [e1] at e
      cases e
      exact ⟨v, r, h1, h2, allFzk_rep e1 h3⟩
  | (_, .ol _) :: _, ds, vs, fp, e, _ => by cases e
  | (_, .od _) :: _, ds, vs, fp, e, _ => by cases e
theorem view_of {o : O} {d : D} {v : V} {fp : List Addr} (e : shal o = some d) (h : RepO c F H o v fp) : ViewF c F H d v := by
  cases o with
  | fz d' => cases e; exact .inl h.2
  | ol os =>
    obtain ⟨a, vs, g, h1, h2, h3, _⟩ := h
    simp only [shal] at e
    cases e1 : allFz os with
    | none => rw [e1] at e; cases e
    | some ds => rw [e1] at e; cases e; exact .inr (.inl ⟨a, vs, ds, h1, rfl, h2, allFz_rep e1 h3⟩)
  | od kvs =>
    obtain ⟨a, ps, g, h1, h2, h3, _, _⟩ := h
    simp only [shal] at e
    cases e1 : allFzk kvs with
    | none => rw [e1] at e; cases e
    | some ds => rw [e1] at e; cases e; exact .inr (.inr ⟨a, ps, ds, h1, rfl, h2, allFzk_rep e1 h3⟩)
theorem ViewF.rep {d : D} {v : V} (h : ViewF c F H d v) (s : Same F H) : RepD c H d v := by
  rcases h with h | ⟨a, vs, ds, h1, h2, h3, h4⟩ | ⟨a, ps, kvs, h1, h2, h3, h4⟩
  · exact RepD.mono s d v h
  · subst h2; exact ⟨a, vs, h1, SqL.of h3, RepDs.mono s ds vs h4⟩
  · subst h2; exact ⟨a, ps, h1, .inl h3, RepDk.mono s kvs ps h4⟩
/-- a list that is looked at: its items are frozen -/
theorem ViewF.list {ds : List D} {v : V} (h : ViewF c F H (.lst ds) v) (s : Same F H) : ∃ a vs, v = .ref a ∧ SqL c.K H a vs ∧ RepDs c F ds vs := by
  rcases h with ⟨a, vs, h1, h2, h3⟩ | ⟨a, vs, ds', h1, h2, h3, h4⟩ | ⟨a, ps, kvs, h1, h2, _⟩
  · exact ⟨a, vs, h1, s.seq h2, h3⟩
  · cases h2; exact ⟨a, vs, h1, SqL.of h3, h4⟩
  · cases h2
theorem ViewF.tup {ds : List D} {v : V} (h : ViewF c F H (.tup ds) v) (s : Same F H) : ∃ a vs, v = .ref a ∧ SqT c.K H a vs ∧ RepDs c F ds vs := by
  rcases h with ⟨a, vs, h1, h2, h3⟩ | ⟨a, vs, ds', h1, h2, h3, h4⟩ | ⟨a, ps, kvs, h1, h2, _⟩
  · exact ⟨a, vs, h1, SqT.mono s h2, h3⟩
  · cases h2
  · cases h2
theorem ViewF.dict {kvs : List (Key × D)} {v : V} (h : ViewF c F H (.dct kvs) v) (s : Same F H) : ∃ a ps, v = .ref a ∧ Rd H a (.dK ps) ∧ RepDk c F kvs ps := by
  rcases h with ⟨a, vs, h1, h2, h3⟩ | ⟨a, vs, ds', h1, h2, h3, h4⟩ | ⟨a, ps, kvs, h1, h2, h3, h4⟩
  · exact ⟨a, vs, h1, Rd.mono s h2, h3⟩
  · cases h2
  · cases h2; exact ⟨a, ps, h1, .inl h3, h4⟩
theorem ViewF.int {i : Int} {v : V} (h : ViewF c F H (.int i) v) : v = .int i := by
  rcases h with h | ⟨a, vs, ds', h1, h2, h3, h4⟩ | ⟨a, ps, kvs, h1, h2, _⟩
  · exact h
  · cases h2
  · cases h2
theorem ViewF.bl {i : Bool} {v : V} (h : ViewF c F H (.bl i) v) : v = .bl i := by
  rcases h with h | ⟨a, vs, ds', h1, h2, h3, h4⟩ | ⟨a, ps, kvs, h1, h2, _⟩
  · exact h
  · cases h2
  · cases h2
theorem ViewF.str {i : Str} {v : V} (h : ViewF c F H (.str i) v) : v = .str i := by
  rcases h with h | ⟨a, vs, ds', h1, h2, h3, h4⟩ | ⟨a, ps, kvs, h1, h2, _⟩
  · exact h
  · cases h2
  · cases h2
theorem ViewF.non {v : V} (h : ViewF c F H .non v) : v = .non := by
  rcases h with h | ⟨a, vs, ds', h1, h2, h3, h4⟩ | ⟨a, ps, kvs, h1, h2, _⟩
  · exact h
  · cases h2
  · cases h2

def VW (σ : L2.St) (S : Env) (L0 : List (V × O)) : List D → List V → Prop
  | [], vs => vs = []
  | d :: ds, vs => ∃ v r, vs = v :: r ∧ ((v, O.fz d) ∈ L0 ∨ ∃ (i : Nat) (o : O), σ[i]? = some (some v) ∧ S[i]? = some (some o) ∧ shal o = some d) ∧ VW σ S L0 ds r
theorem VW.mono {σ : L2.St} {S S' : Env} {L0 L1 : List (V × O)} (hm : ∀ e ∈ L0, e ∈ L1) (hs : ∀ (i : Nat) (o : O) (d : D), S[i]? = some (some o) → shal o = some d → S'[i]? = some (some o)) : ∀ {ds : List D} {vs : List V}, VW σ S L0 ds vs → VW σ S' L1 ds vs
  | [], _, h => h
  | d :: ds, _, ⟨v, r, e, h1, h2⟩ => ⟨v, r, e, h1.imp (hm _) fun ⟨i, o, q1, q2, q3⟩ => ⟨i, o, q1, hs i o d q2 q3, q3⟩, VW.mono hm hs h2⟩
theorem ents_mem : ∀ {σ : L2.St} {S : Env} {i : Nat} {v : V} {o : O}, σ[i]? = some (some v) → S[i]? = some (some o) → (v, o) ∈ ents σ S
  | [], _, i, v, o, h, _ => by simp at h
  | _ :: _, [], i, v, o, _, h => by simp at h
  | s :: σ, x :: S, 0, v, o, h1, h2 => by
    simp at h1 h2
    subst h1; subst h2
    exact List.mem_append_left _ (List.mem_singleton.mpr rfl)
  | s :: σ, x :: S, i + 1, v, o, h1, h2 => List.mem_append_right _ (ents_mem (i := i) (by simpa using h1) (by simpa using h2))
theorem VW.views {σ : L2.St} {S : Env} {L0 T : List (V × O)} (h : OkF c F H [] (ents σ S ++ (L0 ++ T))) : ∀ {ds : List D} {vs : List V}, VW σ S L0 ds vs → Views c F H ds vs
  | [], _, e => e
  | d :: ds, _, ⟨v, r, e, h1, h2⟩ => by
    refine ⟨v, r, e, ?_, VW.views h h2⟩
    rcases h1 with hm | ⟨i, o, q1, q2, q3⟩
    · obtain ⟨fp, q⟩ := h.at (List.mem_append_right _ (List.mem_append_left _ hm))
      exact view_of (o := .fz d) rfl q
    · obtain ⟨fp, q⟩ := h.at (List.mem_append_left _ (ents_mem q1 q2))
      exact view_of q3 q
theorem rsv_keep {x : A} {S S' : Env} {d : D} (e : rsv x S = some (d, S'))   : ∀ (i : Nat) (o : O) (d' : D), S[i]? = some (some o) → shal o = some d' → S'[i]? = some (some o) := by
  intro i o d' h1 h2
  cases x with
  | tmp o' => cases e; exact h1
  | ref j =>
    simp only [rsv] at e
    split at e
    · rename_i o' hj
      split at e
      · cases e; exact h1
      · rename_i hn
        cases e
        by_cases hij : j = i
        · subst hij
          rw [hj] at h1; cases h1
          rw [hn] at h2; cases h2
        · rw [List.getElem?_set_ne hij]; exact h1
    · cases e
theorem rsvs_keep : ∀ {xs : List A} {S S' : Env} {ds : List D}, rsvs xs S = some (ds, S') → ∀ (i : Nat) (o : O) (d' : D), S[i]? = some (some o) → shal o = some d' → S'[i]? = some (some o)
  | [], S, S', ds, e => by cases e; exact fun _ _ _ h _ => h
  | x :: xs, S, S', ds, e => by
    unfold rsvs at e
    split at e
    · rename_i d S1 e1
      split at e
      · rename_i ds2 S2 e2
        cases e
        exact fun i o d' h1 h2 => rsvs_keep e2 i o d' (rsv_keep e1 i o d' h1 h2) h2
      · cases e
    · cases e
theorem rsvs_ok {σ : L2.St} : ∀ {xs : List A} {vs : List V} {S S' : Env} {ds : List D} {T : List (V × O)}, rsvs xs S = some (ds, S') → RefOk σ xs vs → StOk c σ S (tmps xs vs ++ T) H → ∃ L0, StOk c σ S' (L0 ++ T) H ∧ VW σ S' L0 ds vs
  | [], [], S, S', ds, T, e, _, h => by cases e; exact ⟨[], h, rfl⟩
  | [], _ :: _, S, S', ds, T, _, r, _ => r.elim
  | .tmp _ :: _, [], S, S', ds, T, _, r, _ => r.elim
  | .ref _ :: _, [], S, S', ds, T, _, r, _ => r.elim
  | x :: xs, v :: vs, S, S', ds, T, e, r, h => by
    unfold rsvs at e
    split at e
    · rename_i d S1 e1
      split at e
      · rename_i ds2 S2 e2
        cases e
        cases x with
        | tmp o =>
          cases e1
          have h1 : StOk c σ S (tmps xs vs ++ ((v, .fz (fr o)) :: T)) H := by
            have h0 : StOk c σ S ((v, o) :: (tmps xs vs ++ T)) H := h
            have h2 : StOk c σ S ((v, .fz (fr o)) :: (tmps xs vs ++ T)) H := .of_hd h0.cov h0.hd.freeze
            exact h2.permT List.perm_middle.symm
          obtain ⟨L0, q1, q2⟩ := rsvs_ok e2 r h1
          refine ⟨L0 ++ [(v, .fz (fr o))], by rw [List.append_assoc]; exact q1, v, vs, rfl, .inl (by simp), q2.mono (fun _ hm => List.mem_append_left _ hm) fun _ _ _ h _ => h⟩
        | ref i =>
          have h0 : StOk c σ S (tmps xs vs ++ T) H := h
          simp only [rsv] at e1
          split at e1
          · rename_i o hi
            split at e1
            · rename_i d' hd
              cases e1
              obtain ⟨L0, q1, q2⟩ := rsvs_ok e2 r.2 h0
              exact ⟨L0, q1, v, vs, rfl, .inr ⟨i, o, r.1, rsvs_keep e2 i o _ hi hd, hd⟩, q2⟩
            · cases e1
              have h1 : StOk c σ (S.set i (some (.fz (fr o)))) (tmps xs vs ++ T) H := h0.upd hi r.1 fun L q => q.freeze
              obtain ⟨L0, q1, q2⟩ := rsvs_ok e2 r.2 h1
              have hs : (S.set i (some (.fz (fr o))))[i]? = some (some (.fz (fr o))) := List.getElem?_set_self (lt_of_get hi)
              exact ⟨L0, q1, v, vs, rfl, .inr ⟨i, .fz (fr o), r.1, rsvs_keep e2 i _ _ hs rfl, rfl⟩, q2⟩
          · cases e1
      · cases e
    · cases e

/-- a built-in thing, by values: r is the hand layer's reading, f the meaning -/
def BiOk (c : Gc) (f : List D → Option O) (r : List V → Hp → VK → Prop) : Prop := ∀ (F H : Hp) (L : List (V × O)) (vs : List V) (ds : List D) (o : O) (Q : VK), f ds = some o → OkF c F H [] L → Views c F H ds vs → (∀ v H', Ok c H' [] ((v, o) :: L) → Q v H') → r vs H Q
theorem se_bi {f : List D → Option O} {r : List V → Hp → VK → Prop} {as : AL} (ha : SoundA Γ es as) (hp : ∀ X, XOk Γ X → ∀ t, PA X es t → PE X e (tCB r t)) (hr : BiOk Γ.c f r) : SoundE Γ e (eBi f as) := by
  obtain ⟨t, h1, h2⟩ := ha
  refine ⟨_, fun X hX => hp X hX t (h1 X hX), fun σ S T H o S' ee h Q q => ?_⟩
  unfold eBi at ee
  split at ee
  · rename_i xs S1 e1
    split at ee
    · rename_i ds S2 e2
      split at ee
      · rename_i o' e3
        cases ee
        refine h2 σ S T H xs S1 e1 h _ fun vs H1 r1 k1 => ?_
        obtain ⟨L0, q1, q2⟩ := rsvs_ok e2 r1 k1
        obtain ⟨F, hF⟩ := q1.ok
        refine hr F H1 (ents σ S' ++ (L0 ++ T)) vs ds o _ e3 hF (q2.views hF) fun v H' hk => ?_
        have hk' : StOk Γ.c σ S' ((v, o) :: (L0 ++ T)) H' := .of_hd q1.cov hk
        exact q v H' (StOk.drops (L := L0) (hk'.permT List.perm_middle.symm))
      · cases ee
    · cases ee
  · cases ee
/-- .. of two values, an operator: its reading -/
theorem se_op_read {f : List D → Option O} {r : R2} {x y : AE} {t u : TE} {σ : L2.St} {S S' : Env} {T : List (V × O)} {H : Hp} {o : O} {Q : VK}
    (h2 : ∀ σ S T H x1 S', x S = some (x1, S') → StOk c σ S T H → ∀ Q, (∀ v H', RefOk σ [x1] [v] → StOk c σ S' (tmps [x1] [v] ++ T) H' → Q v H') → t σ H Q)
    (g2 : ∀ σ S T H x1 S', y S = some (x1, S') → StOk c σ S T H → ∀ Q, (∀ v H', RefOk σ [x1] [v] → StOk c σ S' (tmps [x1] [v] ++ T) H' → Q v H') → u σ H Q)
    (hr : BiOk c f (fun vs H Q => ∃ v w, vs = [v, w] ∧ r v w H Q)) (ee : eBi f (aCons x (aCons y aNil)) S = some (o, S')) (h : StOk c σ S T H) (q : ∀ v H', StOk c σ S' ((v, o) :: T) H' → Q v H') : tOp r t u σ H Q := by
  unfold eBi at ee
  split at ee
  · rename_i xs S1 e1
    split at ee
    · rename_i ds S2 e2
      split at ee
      · rename_i o' e3
        cases ee
        unfold aCons at e1
        split at e1
        · rename_i x1 S3 e4
          split at e1
          · rename_i xs1 S4 e5
            cases e1
            split at e5
            · rename_i x2 S5 e6
              simp only [aNil] at e5
              cases e5
              refine h2 σ S T H x1 S3 e4 h _ fun v H1 r1 k1 => ?_
              refine g2 σ S3 _ H1 x2 S1 e6 k1 _ fun w H2 r2 k2 => ?_
              have rr : RefOk σ [x1, x2] [v, w] := by
                cases x1 with
                | tmp o => exact r2
                | ref i => exact ⟨r1.1, r2⟩
              have kk : StOk c σ S1 (tmps [x1, x2] [v, w] ++ T) H2 := by
                cases x1 with
                | ref i => exact k2
                | tmp o =>
                  refine k2.permT ?_
                  show (tmps [x2] [w] ++ ([(v, o)] ++ T)).Perm ((v, o) :: (tmps [x2] [w] ++ T))
                  exact List.perm_middle
              obtain ⟨L0, q1, q2⟩ := rsvs_ok e2 rr kk
              obtain ⟨F, hF⟩ := q1.ok
              obtain ⟨v', w', z, hz⟩ := hr F H2 (ents σ S' ++ (L0 ++ T)) [v, w] ds o Q e3 hF (q2.views hF) fun v H' hk => by
                have hk' : StOk c σ S' ((v, o) :: (L0 ++ T)) H' := .of_hd q1.cov hk
                exact q v H' (StOk.drops (L := L0) (hk'.permT List.perm_middle.symm))
              cases z
              exact hz
            · cases e5
          · cases e1
        · cases e1
      · cases ee
    · cases ee
  · cases ee
theorem se_op {f : List D → Option O} {r : R2} {x y : AE} (hx : SoundA1 Γ a x) (hy : SoundA1 Γ b y) (hp : ∀ X, XOk Γ X → ∀ t u, PE X a t → PE X b u → PE X e (tOp r t u)) (hr : BiOk Γ.c f (fun vs H Q => ∃ v w, vs = [v, w] ∧ r v w H Q)) : SoundE Γ e (eBi f (aCons x (aCons y aNil))) := by
  obtain ⟨t, h1, h2⟩ := hx
  obtain ⟨u, g1, g2⟩ := hy
  exact ⟨_, fun X hX => hp X hX t u (h1 X hX) (g1 X hX), fun σ S T H o S' ee h Q q => se_op_read h2 g2 hr ee h q⟩

/-! ### displays -/
def SoundL (Γ : Cs) (es : List Expr) (f : EL) (n : Nat) : Prop := (∀ S os S', f S = some (os, S') → os.length = n) ∧ ∃ t, (∀ X, XOk Γ X → PA X es t) ∧ ∀ σ S T H os S', f S = some (os, S') → StOk Γ.c σ S T H → ∀ Q, (∀ vs H', vs.length = os.length → StOk Γ.c σ S' (vs.zip os ++ T) H' → Q vs H') → t σ H Q
theorem sl_nil : SoundL Γ [] lNil 0 := ⟨fun S os S' e => by cases e; rfl, ⟨_, fun X _ => pa_nil, fun σ S T H xs S' e h Q q => by
  cases e
  exact q [] H rfl h⟩⟩
theorem sl_cons {f : EE} {r : EL} {n : Nat} (he : SoundE Γ e f) (hr : SoundL Γ es r n) (hs : ∀ env, starEach (e :: es) env = (false, eval e env) :: starEach es env) : SoundL Γ (e :: es) (lCons f r) (n + 1) := by
  refine ⟨fun S os S' ee => ?_, ?_⟩
  · unfold lCons at ee
    split at ee
    · split at ee
      · rename_i os1 S2 e2
        cases ee
        simp [hr.1 _ _ _ e2]
      · cases ee
    · cases ee
  · obtain ⟨t, h1, h2⟩ := he
    obtain ⟨u, g1, g2⟩ := hr.2
    refine ⟨_, fun X hX => pa_cons (h1 X hX) (g1 X hX) (hs _), fun σ S T H os S' ee h Q q => ?_⟩
    unfold lCons at ee
    split at ee
    · rename_i o S1 e1
      split at ee
      · rename_i os1 S2 e2
        cases ee
        refine h2 σ S T H o S1 e1 h _ fun v H1 k1 => ?_
        refine g2 σ S1 _ H1 os1 S' e2 k1 _ fun vs H2 hl k2 => ?_
        refine q (v :: vs) H2 (by simp [hl]) ?_
        refine k2.permT ?_
        show (vs.zip os1 ++ ((v, o) :: T)).Perm ((v, o) :: (vs.zip os1 ++ T))
        exact List.perm_middle
      · cases ee
    · cases ee
theorem small_line {n : Nat} (h : n ≤ 1000) : n ≤ sizeLine := Nat.le_trans h (by decide)
theorem Ok.freezes : ∀ {os : List O} {vs : List V} {L : List (V × O)}, vs.length = os.length → Ok c H R (vs.zip os ++ L) → Ok c H R (vs.zip ((frs os).map O.fz) ++ L)
  | [], vs, L, hl, h => by
    have e : vs = [] := List.eq_nil_of_length_eq_zero hl
    subst e
    exact h
  | o :: os, [], L, hl, h => by simp at hl
  | o :: os, v :: vs, L, hl, h => by
    have h1 : Ok c H R ((v, .fz (fr o)) :: (vs.zip os ++ L)) := Ok.freeze h
    have h2 : Ok c H R (vs.zip os ++ ((v, .fz (fr o)) :: L)) := h1.perm List.perm_middle.symm
    have h3 := Ok.freezes (os := os) (by simpa using hl) h2
    exact h3.perm List.perm_middle
theorem frs_len : ∀ os : List O, (frs os).length = os.length
  | [] => rfl
  | _ :: os => by simp [frs, frs_len os]
theorem se_tup {l : EL} {n : Nat} {x1} (hl : SoundL Γ es l n) (hn : n ≤ 1000) : SoundE Γ (.Tuple es x1 pos) (eTup l) := by
  obtain ⟨t, h1, h2⟩ := hl.2
  refine ⟨_, fun X hX => pe_tup (h1 X hX), fun σ S T H o S' ee h Q q => ?_⟩
  unfold eTup at ee
  split at ee
  · rename_i os S1 e1
    cases ee
    refine h2 σ S T H os S' e1 h _ fun vs H1 hv k1 => ?_
    have hn' : vs.length ≤ 1000 := by rw [hv, hl.1 _ _ _ e1]; exact hn
    refine ⟨small_line hn', fun p hp => q _ _ (.of_hd k1.cov ?_)⟩
    have k2 : Ok Γ.c H1 [] (vs.zip os ++ (ents σ S' ++ T)) := k1.ok.perm (by
      rw [← List.append_assoc, ← List.append_assoc]
      exact List.perm_append_comm.append_right T)
    exact (k2.freezes hv).new_t (by rw [hv, frs_len]) hp
  · cases ee
theorem se_lst {l : EL} {n : Nat} (hl : SoundL Γ es l n) (hn : n ≤ 1000) : SoundE Γ (.List es pos) (eLst l) := by
  obtain ⟨t, h1, h2⟩ := hl.2
  refine ⟨_, fun X hX => pe_lst (h1 X hX), fun σ S T H o S' ee h Q q => ?_⟩
  unfold eLst at ee
  split at ee
  · rename_i os S1 e1
    cases ee
    refine h2 σ S T H os S' e1 h _ fun vs H1 hv k1 => ?_
    have hn' : vs.length ≤ 1000 := by rw [hv, hl.1 _ _ _ e1]; exact hn
    refine ⟨small_line hn', fun p hp => q _ _ (.of_hd k1.cov ?_)⟩
    have k2 : Ok Γ.c H1 [] (vs.zip os ++ (ents σ S' ++ T)) := k1.ok.perm (by
      rw [← List.append_assoc, ← List.append_assoc]
      exact List.perm_append_comm.append_right T)
    exact k2.new_l hv hp
  · cases ee

/-! ### tests, conditional expressions -/
theorem st_val {f : EE} (he : SoundE Γ e f) (hi : ∀ env whole, isTrue e env whole = (do let v ← whole; standAt e.pos; holding [v] (truthy v))) : SoundT Γ e (tE f) := by
  obtain ⟨t, h1, h2⟩ := he
  refine ⟨_, fun X hX => pt_val (h1 X hX) (hi _), fun σ S T H b S' ee h Q q => ?_⟩
  unfold tE at ee
  split at ee
  · rename_i b' S1 e1
    cases ee
    exact h2 σ S T H _ S' e1 h _ fun v H1 k1 => ⟨b, by have := k1.hd.rep; exact this, q H1 k1.drop⟩
  · cases ee
theorem se_cmp {f : List D → Option O} {r : R2} {x y : AE} {op : CmpOp} (hx : SoundA1 Γ a x) (hy : SoundA1 Γ b y) (ho : ∀ X, XOk Γ X → OpR X (compareOp op) r) (hm : behindInMarks op b = false) (hr : BiOk Γ.c f (fun vs H Q => ∃ v w, vs = [v, w] ∧ r v w H Q)) :
    SoundE Γ (.Compare a [op] [b] pos) (eBi f (aCons x (aCons y aNil))) := se_op hx hy (fun X hX t u ht hu => pe_cmpR (ho X hX) ht hu hm) hr
theorem st_cmp {f : List D → Option O} {r : R2} {x y : AE} {op : CmpOp} (hx : SoundA1 Γ a x) (hy : SoundA1 Γ b y) (ho : ∀ X, XOk Γ X → OpR X (compareOp op) r) (hm : behindInMarks op b = false) (hr : BiOk Γ.c f (fun vs H Q => ∃ v w, vs = [v, w] ∧ r v w H Q)) :
    SoundT Γ (.Compare a [op] [b] pos) (tE (eBi f (aCons x (aCons y aNil)))) := by
  obtain ⟨t, h1, h2⟩ := hx
  obtain ⟨u, g1, g2⟩ := hy
  refine ⟨_, fun X hX => pt_cmpR (ho X hX) (h1 X hX) (g1 X hX) hm, fun σ S T H b S' ee h Q q => ?_⟩
  unfold tE at ee
  split at ee
  · rename_i b' S1 e1
    cases ee
    exact se_op_read h2 g2 hr e1 h fun v H1 k1 => ⟨b, by have := k1.hd.rep; exact this, q H1 k1.drop⟩
  · cases ee
end Pz
set_option Elab.async false
set_option linter.all false
set_option maxRecDepth 100000
set_option maxHeartbeats 1000000
namespace Pz
open PySem PySem.Spec L2
open PyProof.Rows hiding St
variable {c : Gc} {F H H' : Hp} {L : List (V × O)} {R : List Addr} {Γ : Cs} {e a b : Expr} {es : List Expr} {pos : Pos}

/-! ### and, or, not, if .. else -/
def SoundW (Γ : Cs) (e : Expr) (f : TB) : Prop := ∃ t, (∀ X, XOk Γ X → PW X e t) ∧ ∀ σ S T H b S', f S = some (b, S') → StOk Γ.c σ S T H → ∀ Q, (∀ H', StOk Γ.c σ S' T H' → Q b H') → t σ H Q
theorem sw_t {f : TB} (h : SoundW Γ e f) : SoundT Γ e f := by
  obtain ⟨t, h1, h2⟩ := h
  exact ⟨t, fun X hX => (h1 X hX).pt, h2⟩
theorem sw_and1 {f : TB} (h : SoundT Γ a f) : SoundW Γ (.BoolOp .And [a] pos) f := by
  obtain ⟨t, h1, h2⟩ := h
  exact ⟨t, fun X hX => pw_and1 (h1 X hX), h2⟩
theorem sw_or1 {f : TB} (h : SoundT Γ a f) : SoundW Γ (.BoolOp .Or [a] pos) f := by
  obtain ⟨t, h1, h2⟩ := h
  exact ⟨t, fun X hX => pw_or1 (h1 X hX), h2⟩
theorem sw_and {f g : TB} {rest : List Expr} (h : SoundT Γ a f) (k : SoundW Γ (.BoolOp .And (b :: rest) pos) g) : SoundW Γ (.BoolOp .And (a :: b :: rest) pos) (tAnd f g) := by
  obtain ⟨t, h1, h2⟩ := h
  obtain ⟨u, g1, g2⟩ := k
  refine ⟨_, fun X hX => pw_and (h1 X hX) (g1 X hX), fun σ S T H r S' ee hs Q q => ?_⟩
  unfold tAnd at ee
  split at ee
  · rename_i S1 e1
    exact h2 σ S T H true S1 e1 hs _ fun H1 k1 => iteT (g2 σ S1 T H1 r S' ee k1 Q q)
  · rename_i S1 e1
    cases ee
    exact h2 σ S T H false S' e1 hs _ fun H1 k1 => iteF (q H1 k1)
  · cases ee
theorem sw_or {f g : TB} {rest : List Expr} (h : SoundT Γ a f) (k : SoundW Γ (.BoolOp .Or (b :: rest) pos) g) : SoundW Γ (.BoolOp .Or (a :: b :: rest) pos) (tOr f g) := by
  obtain ⟨t, h1, h2⟩ := h
  obtain ⟨u, g1, g2⟩ := k
  refine ⟨_, fun X hX => pw_or (h1 X hX) (g1 X hX), fun σ S T H r S' ee hs Q q => ?_⟩
  unfold tOr at ee
  split at ee
  · rename_i S1 e1
    cases ee
    exact h2 σ S T H true S' e1 hs _ fun H1 k1 => iteT (q H1 k1)
  · rename_i S1 e1
    exact h2 σ S T H false S1 e1 hs _ fun H1 k1 => iteF (g2 σ S1 T H1 r S' ee k1 Q q)
  · cases ee
theorem st_not {f : TB} (h : SoundT Γ a f) : SoundT Γ (.UnaryOp .Not a pos) (tNot f) := by
  obtain ⟨t, h1, h2⟩ := h
  refine ⟨_, fun X hX => pt_not (h1 X hX), fun σ S T H r S' ee hs Q q => ?_⟩
  unfold tNot at ee
  split at ee
  · rename_i b' S1 e1
    cases ee
    exact h2 σ S T H b' S' e1 hs _ fun H1 k1 => q H1 k1
  · cases ee
/-- as values, all of them bools -/
theorem se_one {op : BoolOp} {f : EE} (h : SoundE Γ a f) : SoundE Γ (.BoolOp op [a] pos) f := by
  obtain ⟨t, h1, h2⟩ := h
  exact ⟨t, fun X hX => pe_one (h1 X hX), h2⟩
def eAnd (f g : EE) : EE := fun S => match f S with
  | some (.fz (.bl true), S1) => g S1
  | some (.fz (.bl false), S1) => some (.fz (.bl false), S1)
  | _ => none
def eOr (f g : EE) : EE := fun S => match f S with
  | some (.fz (.bl true), S1) => some (.fz (.bl true), S1)
  | some (.fz (.bl false), S1) => g S1
  | _ => none
theorem se_and {f g : EE} {rest : List Expr} (h : SoundE Γ a f) (k : SoundE Γ (.BoolOp .And (b :: rest) pos) g) : SoundE Γ (.BoolOp .And (a :: b :: rest) pos) (eAnd f g) := by
  obtain ⟨t, h1, h2⟩ := h
  obtain ⟨u, g1, g2⟩ := k
  refine ⟨_, fun X hX => pe_and (h1 X hX) (g1 X hX), fun σ S T H r S' ee hs Q q => ?_⟩
  unfold eAnd at ee
  split at ee
  · rename_i S1 e1
    exact h2 σ S T H _ S1 e1 hs _ fun v H1 k1 => ⟨true, by have := k1.hd.rep; exact this, iteT (g2 σ S1 T H1 r S' ee k1.drop Q q)⟩
  · rename_i S1 e1
    cases ee
    exact h2 σ S T H _ S' e1 hs _ fun v H1 k1 => ⟨false, by have := k1.hd.rep; exact this, iteF (q _ H1 (by
      have e2 : v = .bl false := k1.hd.rep
      rw [← e2]; exact k1))⟩
  · cases ee
theorem se_or {f g : EE} {rest : List Expr} (h : SoundE Γ a f) (k : SoundE Γ (.BoolOp .Or (b :: rest) pos) g) : SoundE Γ (.BoolOp .Or (a :: b :: rest) pos) (eOr f g) := by
  obtain ⟨t, h1, h2⟩ := h
  obtain ⟨u, g1, g2⟩ := k
  refine ⟨_, fun X hX => pe_or (h1 X hX) (g1 X hX), fun σ S T H r S' ee hs Q q => ?_⟩
  unfold eOr at ee
  split at ee
  · rename_i S1 e1
    cases ee
    exact h2 σ S T H _ S' e1 hs _ fun v H1 k1 => ⟨true, by have := k1.hd.rep; exact this, iteT (q _ H1 (by
      have e2 : v = .bl true := k1.hd.rep
      rw [← e2]; exact k1))⟩
  · rename_i S1 e1
    exact h2 σ S T H _ S1 e1 hs _ fun v H1 k1 => ⟨false, by have := k1.hd.rep; exact this, iteF (g2 σ S1 T H1 r S' ee k1.drop Q q)⟩
  · cases ee
def eNot (f : EE) : EE := fun S => match f S with
  | some (.fz (.bl b), S1) => some (.fz (.bl (!b)), S1)
  | _ => none
theorem se_not {f : EE} (h : SoundE Γ a f) : SoundE Γ (.UnaryOp .Not a pos) (eNot f) := by
  obtain ⟨t, h1, h2⟩ := h
  refine ⟨_, fun X hX => pe_not (h1 X hX), fun σ S T H r S' ee hs Q q => ?_⟩
  unfold eNot at ee
  split at ee
  · rename_i b' S1 e1
    cases ee
    exact h2 σ S T H _ S' e1 hs _ fun v H1 k1 => ⟨b', by have := k1.hd.rep; exact this, q _ H1 (.of_hd k1.cov (k1.drop.ok.scal rfl))⟩
  · cases ee
theorem se_if {t : TB} {f g : EE} {cnd : Expr} (h : SoundT Γ cnd t) (hf : SoundE Γ a f) (hg : SoundE Γ b g) : SoundE Γ (.IfExp cnd a b pos) (eIf t f g) := by
  obtain ⟨t1, h1, h2⟩ := h
  obtain ⟨t2, f1, f2⟩ := hf
  obtain ⟨t3, g1, g2⟩ := hg
  refine ⟨_, fun X hX => pe_ifExp (h1 X hX) (f1 X hX) (g1 X hX), fun σ S T H r S' ee hs Q q => ?_⟩
  unfold eIf at ee
  split at ee
  · rename_i S1 e1
    exact h2 σ S T H _ S1 e1 hs _ fun H1 k1 => iteT (f2 σ S1 T H1 r S' ee k1 Q q)
  · rename_i S1 e1
    exact h2 σ S T H _ S1 e1 hs _ fun H1 k1 => iteF (g2 σ S1 T H1 r S' ee k1 Q q)
  · cases ee

/-! ### targets -/
theorem Keep.refl (W : List Nat) (σ : L2.St) : Keep W σ σ := fun _ _ => rfl
theorem Keep.trans {W : List Nat} {σ1 σ2 σ3 : L2.St} (h : Keep W σ1 σ2) (k : Keep W σ2 σ3) : Keep W σ1 σ3 := fun j hj => (k j hj).trans (h j hj)
theorem Keep.mono {W W' : List Nat} {σ1 σ2 : L2.St} (h : Keep W σ1 σ2) (k : ∀ j ∈ W, j ∈ W') : Keep W' σ1 σ2 := fun j hj => h j fun z => hj (k j z)
theorem Keep.set {i : Nat} {σ : L2.St} {s : Option V} : Keep [i] σ (σ.set i s) := fun j hj => List.getElem?_set_ne (fun z => hj (by rw [z]; exact List.mem_singleton.mpr rfl))
theorem sg_nm {i : Nat} {x : Str} (hN : Γ.N[i]? = some x) (ho : Γ.own x = true) : SoundG Γ (.Name x pos) (.nm i) [i] := by
  refine ⟨_, fun X hX => pg_name (i := i) hX.nd (by rw [← hX.N]; exact hN) (hX.own x ho).1 (hX.own x ho).2, fun σ S T H v d S' ee h Q q => ?_⟩
  simp only [bindT] at ee
  cases ee
  by_cases hi : i < S.length
  · exact q _ _ Keep.set (h.put hi)
  · have e1 : S.set i (some (.fz d)) = S := List.set_eq_of_length_le (by omega)
    have e2 : σ.set i (some v) = σ := List.set_eq_of_length_le (by rw [h.cov.len]; omega)
    rw [e1] at q
    exact q _ _ Keep.set (by rw [e2]; exact h.drop)
theorem sgs_nil : SoundGs Γ [] [] [] := ⟨_, fun X hX => pgs_nil, fun σ S T H vs ds S' ee hl h Q q => by
  cases ds with
  | nil =>
    simp only [bindTs] at ee
    cases ee
    have e : vs = [] := List.eq_nil_of_length_eq_zero hl
    subst e
    exact ⟨rfl, q σ H (Keep.refl _ _) h⟩
  | cons d ds => simp only [bindTs] at ee; cases ee⟩
theorem sgs_cons {tg : Tg} {tgs : List Tg} {W1 W2 : List Nat} (h : SoundG Γ e tg W1) (k : SoundGs Γ es tgs W2) (hs : ∀ env, (assignEach (e :: es) env).map (·.2) = assign e env :: (assignEach es env).map (·.2)) : SoundGs Γ (e :: es) (tg :: tgs) (W1 ++ W2) := by
  obtain ⟨t, h1, h2⟩ := h
  obtain ⟨u, g1, g2⟩ := k
  refine ⟨_, fun X hX => pgs_cons (h1 X hX) (g1 X hX) (hs _), fun σ S T H vs ds S' ee hl hh Q q => ?_⟩
  cases ds with
  | nil => simp only [bindTs] at ee; cases ee
  | cons d ds =>
    cases vs with
    | nil => simp at hl
    | cons v vs =>
      simp only [bindTs] at ee
      split at ee
      · rename_i S1 e1
        refine ⟨v, vs, rfl, h2 σ S _ H v d S1 e1 hh _ fun σ1 H1 kp k1 => ?_⟩
        exact g2 σ1 S1 T H1 vs ds S' ee (by simpa using hl) k1 _ fun σ2 H2 kp2 k2 => q σ2 H2 ((kp.mono fun _ z => List.mem_append_left _ z).trans (kp2.mono fun _ z => List.mem_append_right _ z)) k2
      · cases ee
theorem sg_tp {tgs : List Tg} {W : List Nat} {kk : Nat} (h : SoundGs Γ es tgs W) (hn : ∀ env, (assignEach es env).length = tgs.length) (hst : ∀ env, (assignEach es env).findIdx? (·.1) = none) : SoundG Γ (.Tuple es kk pos) (.tp tgs) W := by
  obtain ⟨t, h1, h2⟩ := h
  refine ⟨gTup Γ.K tgs.length t, fun X hX => by rw [hX.K]; exact pg_tup hX.calm (h1 X hX) (hn _) (hst _), fun σ S T H v d S' ee hh Q q => ?_⟩
  cases d with
  | tup ds =>
    simp only [bindT] at ee
    obtain ⟨a, vs, e1, e2, e3, e4⟩ := hh.hd.kids_t
    have hlen : ds.length = tgs.length := by
      clear h2 h1 hh e4 q e2 e3
      have aux : ∀ (tgs : List Tg) (ds : List D) (S S' : Env), bindTs tgs ds S = some S' → ds.length = tgs.length := by
        intro tgs
        induction tgs with
        | nil =>
          intro ds S S' e
          cases ds with
          | nil => rfl
          | cons _ _ => simp only [bindTs] at e; cases e
        | cons tg tgs ih =>
          intro ds S S' e
          cases ds with
          | nil => simp only [bindTs] at e; cases e
          | cons d ds =>
            simp only [bindTs] at e
            split at e
            · simp [ih _ _ _ e]
            · cases e
      exact aux _ _ _ _ ee
    refine ⟨a, vs, e1, e2, by rw [e3, hlen], h2 σ S T H vs ds S' ee e3 ⟨hh.cov, ?_⟩ Q q⟩
    have k2 : Ok Γ.c H [] (vs.zip (ds.map O.fz) ++ (ents σ S ++ T)) := by
      have k3 := e4.perm (show (vs.zip (ds.map O.fz) ++ (v, O.fz (D.tup ds)) :: (ents σ S ++ T)).Perm ((v, O.fz (D.tup ds)) :: (vs.zip (ds.map O.fz) ++ (ents σ S ++ T))) from List.perm_middle)
      exact k3.tail
    exact k2.perm (by
      rw [← List.append_assoc, ← List.append_assoc]
      exact List.perm_append_comm.append_right T)
  | _ => simp only [bindT] at ee; cases ee

/-! ### statements -/
variable {st : Stmt} {rest : List Stmt} {f g : SS} {W W1 W2 : List Nat}
theorem EndsOk.mono {σ σ1 : L2.St} {T : List (V × O)} {out : Out} {D : Ends} (h : EndsOk Γ W σ T out D) (kp : Keep W σ σ1) : EndsOk Γ W σ1 T out D := by
  cases out with
  | nx S' => exact fun σ' H' k s => h σ' H' (kp.trans k) s
  | bk S' => exact fun σ' H' k s => h σ' H' (kp.trans k) s
  | ct S' => exact fun σ' H' k s => h σ' H' (kp.trans k) s
  | rt o S' => exact fun v σ' H' k s => h v σ' H' (kp.trans k) s
theorem EndsOk.sub {σ : L2.St} {T : List (V × O)} {out : Out} {D : Ends} (h : EndsOk Γ W σ T out D) (k : ∀ j ∈ W1, j ∈ W) : EndsOk Γ W1 σ T out D := by
  cases out with
  | nx S' => exact fun σ' H' kp s => h σ' H' (kp.mono k) s
  | bk S' => exact fun σ' H' kp s => h σ' H' (kp.mono k) s
  | ct S' => exact fun σ' H' kp s => h σ' H' (kp.mono k) s
  | rt o S' => exact fun v σ' H' kp s => h v σ' H' (kp.mono k) s
theorem sb_nil : SoundB Γ [] sNil [] := ⟨_, fun X _ => pss_nil, fun σ S T H out ee h D q => by
  cases ee
  exact q σ H (Keep.refl _ _) h⟩
theorem sb_one (h : SoundS Γ st f W) : SoundB Γ [st] f W := by
  obtain ⟨t, h1, h2⟩ := h
  exact ⟨t, fun X hX => pss_one (h1 X hX), h2⟩
theorem sb_cons (h : SoundS Γ st f W1) (k : SoundB Γ rest g W2) : SoundB Γ (st :: rest) (sSeq f g) (W1 ++ W2) := by
  obtain ⟨t, h1, h2⟩ := h
  obtain ⟨u, g1, g2⟩ := k
  refine ⟨_, fun X hX => pss_cons (h1 X hX) (g1 X hX), fun σ S T H out ee hh D q => ?_⟩
  unfold sSeq at ee
  split at ee
  · rename_i S1 e1
    refine h2 σ S T H _ e1 hh _ fun σ1 H1 kp k1 => ?_
    exact g2 σ1 S1 T H1 out ee k1 D ((q.mono (kp.mono fun _ z => List.mem_append_left _ z)).sub fun _ z => List.mem_append_right _ z)
  · rename_i o hno e1
    cases ee
    refine h2 σ S T H _ e1 hh { D with nx := u D } ?_
    have q' := q.sub (W1 := W1) fun _ z => List.mem_append_left _ z
    cases out with
    | nx S' => exact (hno S' rfl).elim
    | bk S' => exact q'
    | ct S' => exact q'
    | rt o S' => exact q'
  · cases ee
theorem sb_never {sts : List Stmt} : SoundB Γ sts sNever [] := ⟨_, fun X hX => pss_never, fun _ _ _ _ _ ee => by cases ee⟩
theorem ss_never : SoundS Γ st sNever [] := ⟨_, fun X hX => ps_never, fun _ _ _ _ _ ee => by cases ee⟩
theorem ss_pass : SoundS Γ (.Pass pos) sNil [] := ⟨_, fun X _ => ps_pass, fun σ S T H out ee h D q => by
  cases ee
  exact q σ H (Keep.refl _ _) h⟩
theorem ss_brk : SoundS Γ (.Break pos) sBrk [] := ⟨_, fun X _ => ps_break, fun σ S T H out ee h D q => by
  cases ee
  exact q σ H (Keep.refl _ _) h⟩
theorem ss_cnt : SoundS Γ (.Continue pos) sCnt [] := ⟨_, fun X _ => ps_continue, fun σ S T H out ee h D q => by
  cases ee
  exact q σ H (Keep.refl _ _) h⟩
theorem ss_ret {f : EE} (h : SoundE Γ e f) : SoundS Γ (.Return (some e) pos) (sRet f) [] := by
  obtain ⟨t, h1, h2⟩ := h
  refine ⟨_, fun X hX => ps_ret (h1 X hX), fun σ S T H out ee hh D q => ?_⟩
  unfold sRet at ee
  split at ee
  · rename_i o S1 e1
    cases ee
    exact h2 σ S T H o S1 e1 hh _ fun v H1 k1 => q v σ H1 (Keep.refl _ _) k1
  · cases ee
theorem ss_retN : SoundS Γ (.Return none pos) sRetN [] := ⟨_, fun X hX => ps_retN, fun σ S T H out ee h D q => by
  cases ee
  exact q .non σ H (Keep.refl _ _) (.of_hd h.cov (h.ok.scal rfl))⟩
theorem ss_exp {f : EE} (h : SoundE Γ e f) (hs : ∀ env, swapsWith e none pos.line env = pure false) : SoundS Γ (.Expr e pos) (sExp f) [] := by
  obtain ⟨t, h1, h2⟩ := h
  refine ⟨_, fun X hX => ps_expr (h1 X hX) (hs _), fun σ S T H out ee hh D q => ?_⟩
  unfold sExp at ee
  split at ee
  · rename_i o S1 e1
    cases ee
    exact h2 σ S T H o S1 e1 hh _ fun v H1 k1 => q σ H1 (Keep.refl _ _) k1.drop
  · cases ee
theorem ss_if {t : TB} {cnd : Expr} {sa sb : List Stmt} (h : SoundT Γ cnd t) (hf : SoundB Γ sa f W1) (hg : SoundB Γ sb g W2) : SoundS Γ (.If cnd sa sb pos) (sIf t f g) (W1 ++ W2) := by
  obtain ⟨t1, h1, h2⟩ := h
  obtain ⟨t2, f1, f2⟩ := hf
  obtain ⟨t3, g1, g2⟩ := hg
  refine ⟨_, fun X hX => ps_if (h1 X hX) (f1 X hX) (g1 X hX), fun σ S T H out ee hh D q => ?_⟩
  unfold sIf at ee
  split at ee
  · rename_i S1 e1
    exact h2 σ S T H _ S1 e1 hh _ fun H1 k1 => iteT (f2 σ S1 T H1 out ee k1 D (q.sub fun _ z => List.mem_append_left _ z))
  · rename_i S1 e1
    exact h2 σ S T H _ S1 e1 hh _ fun H1 k1 => iteF (g2 σ S1 T H1 out ee k1 D (q.sub fun _ z => List.mem_append_right _ z))
  · cases ee
theorem ss_set {i : Nat} {x : Str} {f : EE} {pos' : Pos} (hN : Γ.N[i]? = some x) (ho : Γ.own x = true) (h : SoundE Γ e f) (hs : ∀ env : PySem.Env, env.scope = Γ.sc → swapsWith e (some (.Name x pos')) pos.line env = pure false) : SoundS Γ (.Assign [.Name x pos'] e pos) (sSet i f) [i] := by
  obtain ⟨t, h1, h2⟩ := h
  refine ⟨_, fun X hX => ps_set (i := i) hX.nd (by rw [← hX.N]; exact hN) (hX.own x ho).1 (h1 X hX) (hs _ hX.sc.symm) (hX.own x ho).2, fun σ S T H out ee hh D q => ?_⟩
  unfold sSet at ee
  split at ee
  · rename_i o S1 e1
    cases ee
    refine h2 σ S T H o S1 e1 hh _ fun v H1 k1 => ?_
    by_cases hi : i < S1.length
    · exact q _ _ Keep.set (k1.put hi)
    · have e1 : S1.set i (some o) = S1 := List.set_eq_of_length_le (by omega)
      have e2 : σ.set i (some v) = σ := List.set_eq_of_length_le (by rw [k1.cov.len]; omega)
      refine q _ _ Keep.set ?_
      rw [e1, e2]
      exact k1.drop
  · cases ee
/-- a, b = e (unpacked) -/
theorem ss_unp {tg : Tg} {te : Expr} {f : EE} (h : SoundE Γ e f) (hg : SoundG Γ te tg W) (hs : ∀ env, swapsWithSole [te] e pos.line env = pure false) (hw : ∀ env : PySem.Env, env.scope = Γ.sc → swappedStores [te] e env = pure none) (ha : ∀ env, (assignEach [te] env).map (·.2) = [assign te env]) : SoundS Γ (.Assign [te] e pos) (sUnp tg f) W := by
  obtain ⟨t, h1, h2⟩ := h
  obtain ⟨u, g1, g2⟩ := hg
  refine ⟨_, fun X hX => ps_asg (h1 X hX) (g1 X hX) (hs _) (hw _ hX.sc.symm) (ha _), fun σ S T H out ee hh D q => ?_⟩
  unfold sUnp at ee
  split at ee
  · rename_i o S1 e1
    split at ee
    · rename_i S2 e2
      cases ee
      refine h2 σ S T H o S1 e1 hh _ fun v H1 k1 => ?_
      exact g2 σ S1 T H1 v (fr o) S2 e2 (.of_hd k1.cov k1.hd.freeze) _ fun σ' H' kp k2 => q σ' H' kp k2
    · cases ee
  · cases ee
end Pz
set_option Elab.async false
set_option linter.all false
set_option maxRecDepth 100000
set_option maxHeartbeats 1000000
namespace Pz
open PySem PySem.Spec L2
open PyProof.Rows hiding St
variable {c : Gc} {F H H' : Hp} {L : List (V × O)} {R : List Addr} {Γ : Cs} {e a b tg : Expr} {es : List Expr} {pos : Pos} {W W1 W2 : List Nat}

/-! ### what is walked -/
/-- J gives the items ds one after another, as long as the entries E stand; each item comes as something frozen -/
structure Walks (c : Gc) (J : It) (ds : List D) (E : List (V × O)) : Prop where
  step : ∀ (i : Nat) (H : Hp) (L : List (V × O)) (d : D), ds[i]? = some d → Ok c H [] (E ++ L) → J.go i H ∧ ∀ x H', J.yld i H x H' → Ok c H' [] ((x, .fz d) :: (E ++ L))
  stop : ∀ (H : Hp) (L : List (V × O)), Ok c H [] (E ++ L) → J.stop ds.length H
def SoundI (Γ : Cs) (tg e : Expr) (f : IE) : Prop := ∃ w, (∀ X, XOk Γ X → PI X tg e w) ∧ ∀ σ S T H ds S', f S = some (ds, S') → StOk Γ.c σ S T H → ∀ R, (∀ J H' E, Walks Γ.c J ds E → StOk Γ.c σ S' (E ++ T) H' → R J H') → w σ H R
theorem PI.or {X : Cx} {tg e : Expr} {w w' : TI} (h : PI X tg e w) (h' : PI X tg e w') : PI X tg e (fun σ H R => w σ H R ∨ w' σ H R) := ⟨fun pins s σ H R I hw => hw.elim (h.run pins s σ H R I) (h'.run pins s σ H R I)⟩
theorem zip_mem : ∀ {vs : List V} {os : List O} {i : Nat} {v : V} {o : O}, vs[i]? = some v → os[i]? = some o → (v, o) ∈ vs.zip os
  | [], _, i, v, o, h, _ => by simp at h
  | _ :: _, [], i, v, o, _, h => by simp at h
  | w :: vs, p :: os, 0, v, o, h1, h2 => by simp at h1 h2; subst h1; subst h2; simp
  | w :: vs, p :: os, i + 1, v, o, h1, h2 => by
    rw [List.zip_cons_cons]
    exact List.mem_cons_of_mem _ (zip_mem (i := i) (by simpa using h1) (by simpa using h2))
theorem Ok.pick {v : V} {d : D} (h : Ok c H [] L) (hm : (v, O.fz d) ∈ L) : Ok c H [] ((v, .fz d) :: L) := by
  obtain ⟨F, fp, h1, h2, h3, h4, h5⟩ := h
  obtain ⟨g, q⟩ := RepE.mem h2 hm
  exact ⟨F, fp, h1, ⟨[], fp, ⟨rfl, q.2⟩, h2, rfl⟩, h3, h4, h5⟩
theorem walks_list {a : Addr} {ds : List D} : Walks c (Itl c.K a) ds [(.ref a, .fz (.lst ds))] where
  step := fun i H L d hd h => by
    obtain ⟨a', vs, e1, e2, e3, e4⟩ := Ok.kids_l h
    cases e1
    have hi : i < ds.length := lt_of_get hd
    have hv : vs[i]? = some vs[i] := List.getElem?_eq_getElem (by omega)
    refine ⟨⟨vs, vs[i], e2, hv⟩, fun x H' y => ?_⟩
    obtain ⟨z1, z2⟩ := y
    subst z1
    have hm : (x, O.fz d) ∈ vs.zip (ds.map O.fz) := zip_mem (z2 vs e2) (by rw [List.getElem?_map, hd]; rfl)
    have h3 := e4.pick (List.mem_append_left _ hm)
    exact (h3.perm (List.perm_middle (l₁ := vs.zip (ds.map O.fz))).symm).drop_left
  stop := fun H L h => by
    obtain ⟨a', vs, e1, e2, e3, e4⟩ := Ok.kids_l h
    cases e1
    exact ⟨vs, e2, by omega⟩
theorem walks_tup {a : Addr} {ds : List D} : Walks c (Itt c.K a) ds [(.ref a, .fz (.tup ds))] where
  step := fun i H L d hd h => by
    obtain ⟨a', vs, e1, e2, e3, e4⟩ := Ok.kids_t h
    cases e1
    have hi : i < ds.length := lt_of_get hd
    have hv : vs[i]? = some vs[i] := List.getElem?_eq_getElem (by omega)
    refine ⟨⟨vs, vs[i], e2, hv⟩, fun x H' y => ?_⟩
    obtain ⟨z1, z2⟩ := y
    subst z1
    have hm : (x, O.fz d) ∈ vs.zip (ds.map O.fz) := zip_mem (z2 vs e2) (by rw [List.getElem?_map, hd]; rfl)
    have h3 := e4.pick (List.mem_append_left _ hm)
    exact (h3.perm (List.perm_middle (l₁ := vs.zip (ds.map O.fz))).symm).drop_left
  stop := fun H L h => by
    obtain ⟨a', vs, e1, e2, e3, e4⟩ := Ok.kids_t h
    cases e1
    exact ⟨vs, e2, by omega⟩
theorem upTo_get : ∀ {n : Nat} {lo : Int} {i : Nat} {d : D}, (upTo lo n)[i]? = some d → d = .int (lo + (i : Nat)) ∧ i < n
  | 0, lo, i, d, h => by simp [upTo] at h
  | n + 1, lo, 0, d, h => by simp [upTo] at h; simp [h]
  | n + 1, lo, i + 1, d, h => by
    obtain ⟨q1, q2⟩ := upTo_get (n := n) (lo := lo + 1) (i := i) (d := d) (by simpa [upTo] using h)
    refine ⟨?_, by omega⟩
    rw [q1]
    congr 1
    omega
theorem upTo_len : ∀ {n : Nat} {lo : Int}, (upTo lo n).length = n
  | 0, _ => rfl
  | n + 1, lo => by simp [upTo, upTo_len]
theorem walks_range {lo : Int} {n : Nat} : Walks c (Itr lo n) (upTo lo n) [] where
  step := fun i H L d hd h => by
    obtain ⟨q1, q2⟩ := upTo_get hd
    refine ⟨q2, fun x H' y => ?_⟩
    obtain ⟨z1, z2⟩ := y
    subst z1; subst z2; subst q1
    exact h.scal rfl
  stop := fun H L h => by
    show n ≤ (upTo lo n).length
    rw [upTo_len]; exact Nat.le_refl _
theorem si_val {f : AE} (h : SoundA1 Γ e f) : SoundI Γ tg e (iVal f) := by
  obtain ⟨t, h1, h2⟩ := h
  refine ⟨fun σ H R => iList Γ.K t σ H R ∨ iTup Γ.K t σ H R, fun X hX => by rw [hX.K]; exact PI.or (pi_list (h1 X hX)) (pi_tup (h1 X hX)), fun σ S T H ds S' ee hs R q => ?_⟩
  -- t at its end gives one of both: choose by the meaning
  unfold iVal at ee
  split at ee
  · rename_i o S1 e1
    split at ee
    · rename_i ds' e2
      cases ee
      cases hfo : fr o with
      | lst ds' =>
        rw [hfo] at e2
        cases e2
        refine .inl (h2 σ S T H _ _ e1 hs _ fun v H1 r1 k1 => ?_)
        have k2 : StOk Γ.c σ S' ((v, .fz (fr o)) :: T) H1 := .of_hd k1.cov (StOk.hd (e := (v, o)) k1).freeze
        rw [hfo] at k2
        obtain ⟨a', vs, e1', e2', e3', e4'⟩ := Ok.kids_l k2.hd
        subst e1'
        exact ⟨a', rfl, ⟨vs, e2'⟩, q _ H1 [(.ref a', .fz (.lst ds))] walks_list k2⟩
      | tup ds' =>
        rw [hfo] at e2
        cases e2
        refine .inr (h2 σ S T H _ _ e1 hs _ fun v H1 r1 k1 => ?_)
        have k2 : StOk Γ.c σ S' ((v, .fz (fr o)) :: T) H1 := .of_hd k1.cov (StOk.hd (e := (v, o)) k1).freeze
        rw [hfo] at k2
        obtain ⟨a', vs, e1', e2', e3', e4'⟩ := Ok.kids_t k2.hd
        subst e1'
        exact ⟨a', rfl, ⟨vs, e2'⟩, q _ H1 [(.ref a', .fz (.tup ds))] walks_tup k2⟩
      | _ => rw [hfo] at e2; cases e2
    · cases ee
  · rename_i i S1 e1
    split at ee
    · rename_i o e0
      split at ee
      · rename_i ds' e2
        cases ee
        cases hfo : fr o with
        | lst ds' =>
          rw [hfo] at e2
          cases e2
          refine .inl (h2 σ S T H _ _ e1 hs _ fun v H1 r1 k1 => ?_)
          have k2 := StOk.read (T := T) k1 e0 r1.1
          rw [hfo] at k2 q
          obtain ⟨a', vs, e1', e2', e3', e4'⟩ := Ok.kids_l k2.hd
          subst e1'
          exact ⟨a', rfl, ⟨vs, e2'⟩, q _ H1 [(.ref a', .fz (.lst ds))] walks_list k2⟩
        | tup ds' =>
          rw [hfo] at e2
          cases e2
          refine .inr (h2 σ S T H _ _ e1 hs _ fun v H1 r1 k1 => ?_)
          have k2 := StOk.read (T := T) k1 e0 r1.1
          rw [hfo] at k2 q
          obtain ⟨a', vs, e1', e2', e3', e4'⟩ := Ok.kids_t k2.hd
          subst e1'
          exact ⟨a', rfl, ⟨vs, e2'⟩, q _ H1 [(.ref a', .fz (.tup ds))] walks_tup k2⟩
        | _ => rw [hfo] at e2; cases e2
      · cases ee
    · cases ee
  · cases ee
/-- args looked at: their readings' end -/
theorem SoundA.look {es : List Expr} {as : AL} (hA : ∃ t, (∀ X, XOk Γ X → PA X es t) ∧ ∀ σ S T H xs S', as S = some (xs, S') → StOk Γ.c σ S T H → ∀ Q, (∀ vs H', RefOk σ xs vs → StOk Γ.c σ S' (tmps xs vs ++ T) H' → Q vs H') → t σ H Q) :
    ∃ t, (∀ X, XOk Γ X → PA X es t) ∧ ∀ σ S T H xs S1 ds S', as S = some (xs, S1) → rsvs xs S1 = some (ds, S') → StOk Γ.c σ S T H → ∀ Q, (∀ vs F H' L, OkF Γ.c F H' [] L → Views Γ.c F H' ds vs → StOk Γ.c σ S' T H' → Q vs H') → t σ H Q := by
  obtain ⟨t, h1, h2⟩ := hA
  refine ⟨t, h1, fun σ S T H xs S1 ds S' e1 e2 hs Q q => h2 σ S T H xs S1 e1 hs _ fun vs H1 r1 k1 => ?_⟩
  obtain ⟨L0, q1, q2⟩ := rsvs_ok e2 r1 k1
  obtain ⟨F, hF⟩ := q1.ok
  exact q vs F H1 _ hF (q2.views hF) q1.drops
theorem si_range1 {as : AL} {p : Pos} (ha : SoundA Γ [a] as) (hg : Γ.sc.names.lookup ("range" : Str) = some .globalImplicit) (hm : Γ.mg "range" = none) (hs : ∀ env, starEach [a] env = [(false, eval a env)]) : SoundI Γ tg (.Call (.Name "range" p) [a] [] pos) (iRange1 as) := by
  obtain ⟨t, h1, h2⟩ := SoundA.look ha
  refine ⟨_, fun X hX => pi_range1 (by show X.env.scope.names.lookup _ = _; rw [← hX.sc]; exact hg) (by rw [← hX.mg]; exact hm) (h1 X hX) (hs _), fun σ S T H ds S' ee hh R q => ?_⟩
  unfold iRange1 at ee
  split at ee
  · rename_i xs S1 e1
    split at ee
    · rename_i j S2 e2
      split at ee
      · rename_i hj
        cases ee
        refine h2 σ S T H xs S1 _ S' e1 e2 hh _ fun vs F H1 L hF hv k1 => ?_
        obtain ⟨v, r, e3, e4, e5⟩ := hv
        have e5' : r = [] := e5
        subst e5'; subst e3
        have hj' := of_decide_eq_true hj
        exact ⟨j, by rw [e4.int], hj'.1, hj'.2, q _ H1 [] walks_range k1⟩
      · cases ee
    · cases ee
  · cases ee
theorem si_range2 {as : AL} {p : Pos} (ha : SoundA Γ [a, b] as) (hg : Γ.sc.names.lookup ("range" : Str) = some .globalImplicit) (hm : Γ.mg "range" = none) (hs : ∀ env, starEach [a, b] env = [(false, eval a env), (false, eval b env)]) (hs2 : ∀ env, starEach [b] env = [(false, eval b env)]) : SoundI Γ tg (.Call (.Name "range" p) [a, b] [] pos) (iRange2 as) := by
  obtain ⟨t, h1, h2⟩ := SoundA.look ha
  refine ⟨_, fun X hX => pi_range2 (by show X.env.scope.names.lookup _ = _; rw [← hX.sc]; exact hg) (by rw [← hX.mg]; exact hm) (h1 X hX) (hs _) (hs2 _), fun σ S T H ds S' ee hh R q => ?_⟩
  unfold iRange2 at ee
  split at ee
  · rename_i xs S1 e1
    split at ee
    · rename_i i j S2 e2
      split at ee
      · rename_i hj
        cases ee
        refine h2 σ S T H xs S1 _ S' e1 e2 hh _ fun vs F H1 L hF hv k1 => ?_
        obtain ⟨v, r, e3, e4, w, r2, e5, e6, e7⟩ := hv
        have e7' : r2 = [] := e7
        subst e7'; subst e5; subst e3
        rw [Bool.and_eq_true] at hj
        have hi' := of_decide_eq_true hj.1
        have hj' := of_decide_eq_true hj.2
        exact ⟨i, j, by rw [e4.int, e6.int], ⟨hi'.1, hi'.2, hj'.1, hj'.2⟩, q _ H1 [] walks_range k1⟩
      · cases ee
    · cases ee
  · cases ee

/-! ### for, while -/
theorem ss_for {tgT : Tg} {it : IE} {f : SS} {iter : Expr} {body : List Stmt} (hi : SoundI Γ tg iter it) (hg : SoundG Γ tg tgT W1) (hb : SoundB Γ body f W2) (hs : ∀ env x, foldedSetIterable iter env x = pure x) : SoundS Γ (.For tg iter body [] pos) (sFor tgT it f) (W1 ++ W2) := by
  obtain ⟨w, i1, i2⟩ := hi
  obtain ⟨g, g1, g2⟩ := hg
  obtain ⟨t, b1, b2⟩ := hb
  refine ⟨_, fun X hX => ps_for (by rw [hX.xe]; exact PassesOwn.never) hX.calm (i1 X hX) (g1 X hX) (b1 X hX) (hs _), fun σ S T H out ee hh D q => ?_⟩
  unfold sFor at ee
  split at ee
  · rename_i ds S1 e1
    refine i2 σ S T H ds S1 e1 hh _ fun J H1 E w1 k1 => ?_
    refine ⟨fun i m σ2 H2 => i ≤ ds.length ∧ m = ds.length - i ∧ Keep (W1 ++ W2) σ σ2 ∧ ∃ S2, StOk Γ.c σ2 S2 (E ++ T) H2 ∧ forGo tgT f (ds.drop i) S2 = some out, ⟨ds.length, Nat.zero_le _, rfl, Keep.refl _ _, S1, k1, ee⟩, ?_⟩
    rintro i m σ2 H2 ⟨hle, rfl, kp, S2, k2, e2⟩
    have kE : Ok Γ.c H2 [] (E ++ (ents σ2 S2 ++ T)) := k2.ok.perm (by
      rw [← List.append_assoc, ← List.append_assoc]
      exact List.perm_append_comm.append_right T)
    by_cases hlt : i < ds.length
    · have hd : ds[i]? = some ds[i] := List.getElem?_eq_getElem hlt
      rw [List.drop_eq_getElem_cons hlt] at e2
      simp only [forGo] at e2
      split at e2
      · rename_i S3 e3
        obtain ⟨go, yl⟩ := w1.step i H2 _ _ hd kE
        -- the body's end
        cases hb3 : f S3 with
        | none => rw [hb3] at e2; cases e2
        | some o3 =>
          rw [hb3] at e2
          refine .inr ⟨go, fun σ' H' => Keep (W1 ++ W2) σ σ' ∧ ∃ S', StOk Γ.c σ' S' (E ++ T) H' ∧ forGo tgT f (ds.drop (i + 1)) S' = some out, fun σ' H' ⟨kp', S', k', e'⟩ => ⟨ds.length - (i + 1), by omega, by omega, rfl, kp', S', k', e'⟩, fun x H' y => ?_⟩
          have k3 := yl x H' y
          have k4 : StOk Γ.c σ2 S2 ((x, .fz ds[i]) :: (E ++ T)) H' := .of_hd k2.cov (k3.perm (List.Perm.cons _ (by
            rw [← List.append_assoc, ← List.append_assoc]
            exact List.perm_append_comm.append_right T)))
          refine g2 σ2 S2 (E ++ T) H' x _ S3 e3 k4 _ fun σ4 H4 kp4 k5 => ?_
          have kp5 : Keep (W1 ++ W2) σ σ4 := kp.trans (kp4.mono fun _ z => List.mem_append_left _ z)
          refine b2 σ4 S3 (E ++ T) H4 o3 hb3 k5 _ ?_
          cases o3 with
          | nx S5 => exact fun σ' H' kp6 k6 => ⟨kp5.trans (kp6.mono fun _ z => List.mem_append_right _ z), S5, k6, e2⟩
          | ct S5 => exact fun σ' H' kp6 k6 => ⟨kp5.trans (kp6.mono fun _ z => List.mem_append_right _ z), S5, k6, e2⟩
          | bk S5 =>
            cases e2
            exact fun σ' H' kp6 k6 => q σ' H' (kp5.trans (kp6.mono fun _ z => List.mem_append_right _ z)) k6.drops
          | rt o S5 =>
            cases e2
            refine fun v σ' H' kp6 k6 => q v σ' H' (kp5.trans (kp6.mono fun _ z => List.mem_append_right _ z)) ?_
            have k7 : StOk Γ.c σ' S5 (E ++ ((v, o) :: T)) H' := k6.permT List.perm_middle.symm
            exact k7.drops
      · cases e2
    · have hi : i = ds.length := by omega
      subst hi
      rw [List.drop_length] at e2
      simp only [forGo] at e2
      cases e2
      exact .inl ⟨w1.stop H2 _ kE, q σ2 H2 kp k2.drops⟩
  · cases ee
theorem ss_while {t : TB} {f : SS} {cnd : Expr} {body : List Stmt} (ht : SoundT Γ cnd t) (hb : SoundB Γ body f W) : SoundS Γ (.While cnd body [] pos) (sWhile t f) W := by
  obtain ⟨t1, h1, h2⟩ := ht
  obtain ⟨u, b1, b2⟩ := hb
  refine ⟨_, fun X hX => ps_while (by rw [hX.xe]; exact PassesOwn.never) (h1 X hX) (b1 X hX), fun σ S T H out ee hh D q => ?_⟩
  refine ⟨fun m σ2 H2 => Keep W σ σ2 ∧ ∃ S2, StOk Γ.c σ2 S2 T H2 ∧ whileGo t f m S2 = some out, ⟨laps, Keep.refl _ _, S, hh, ee⟩, ?_⟩
  rintro m σ2 H2 ⟨kp, S2, k2, e2⟩
  cases m with
  | zero => simp only [whileGo] at e2; cases e2
  | succ n =>
    simp only [whileGo] at e2
    split at e2
    · rename_i S3 e3
      cases hb3 : f S3 with
      | none => rw [hb3] at e2; cases e2
      | some o3 =>
        rw [hb3] at e2
        refine h2 σ2 S2 T H2 true S3 e3 k2 _ fun H3 k3 => iteT ?_
        refine ⟨fun σ' H' => Keep W σ σ' ∧ ∃ S', StOk Γ.c σ' S' T H' ∧ whileGo t f n S' = some out, fun σ' H' ⟨kp', S', k', e'⟩ => ⟨n, Nat.lt_succ_self n, kp', S', k', e'⟩, ?_⟩
        refine b2 σ2 S3 T H3 o3 hb3 k3 _ ?_
        cases o3 with
        | nx S5 => exact fun σ' H' kp6 k6 => ⟨kp.trans kp6, S5, k6, e2⟩
        | ct S5 => exact fun σ' H' kp6 k6 => ⟨kp.trans kp6, S5, k6, e2⟩
        | bk S5 =>
          cases e2
          exact fun σ' H' kp6 k6 => q σ' H' (kp.trans kp6) k6
        | rt o S5 =>
          cases e2
          exact fun v σ' H' kp6 k6 => q v σ' H' (kp.trans kp6) k6
    · rename_i S3 e3
      cases e2
      exact h2 σ2 S2 T H2 false S3 e3 k2 _ fun H3 k3 => iteF (q σ2 H3 kp k3)
    · cases e2
end Pz
set_option Elab.async false
set_option linter.all false
set_option maxRecDepth 100000
set_option maxHeartbeats 1000000
namespace Pz
open PySem PySem.Spec L2
open PyProof.Rows hiding St
variable {c : Gc} {F H H' : Hp} {L : List (V × O)} {R : List Addr} {Γ : Cs} {e a b tg elt iter : Expr} {es : List Expr} {pos : Pos} {W W1 W2 : List Nat}

/-! ### a comprehension's block -/
section
variable {σ : L2.St} {S : Env} {T T' : List (V × O)} {i : Nat}
theorem StOk.clear1 (h : StOk c σ S T H) : StOk c σ (S.set i none) T H := by
  by_cases hi : i < S.length
  · cases hS : S[i] with
    | none => rw [set_self (by rw [List.getElem?_eq_getElem hi, hS])]; exact h
    | some o =>
      have e : S[i]? = some (some o) := by rw [List.getElem?_eq_getElem hi, hS]
      obtain ⟨v, hv, _⟩ := h.slot e
      exact (h.take e hv).drop
  · rw [List.set_eq_of_length_le (by omega)]; exact h
theorem StOk.forget {s : Option V} (h : StOk c σ (S.set i none) T H) : StOk c (σ.set i s) (S.set i none) T H := by
  by_cases hi : i < S.length
  · have hi' : i < (S.set i none).length := by simpa using hi
    obtain ⟨L1, L2, q⟩ := ents_at h.cov hi'
    have hlt : i < σ.length := by rw [h.cov.len]; exact hi'
    have z1 := q s none
    have z2 := q σ[i] none
    rw [List.set_set] at z1 z2
    rw [set_self (List.getElem?_eq_getElem hlt)] at z2
    refine ⟨?_, ?_⟩
    · have y := h.cov.set (i := i) (s := s) (x := none) fun _ z => by cases z
      rw [List.set_set] at y
      exact y
    · rw [z1]
      have h2 := h.ok
      rw [z2] at h2
      have e1 : ent σ[i] none = [] := by cases σ[i] <;> rfl
      have e2 : ent s none = [] := by cases s <;> rfl
      rw [e2]
      rw [e1] at h2
      exact h2
  · have e1 : σ.set i s = σ := List.set_eq_of_length_le (by rw [h.cov.len]; simpa using hi)
    rw [e1]; exact h
theorem wipe_get : ∀ {vs : List Nat} {j : Nat}, j ∉ vs → (wipe σ vs)[j]? = σ[j]?
  | [], j, _ => rfl
  | v :: vs, j, h => by
    unfold wipe
    rw [List.getElem?_set_ne (fun z => h (by rw [z]; exact List.mem_cons_self))]
    exact wipe_get fun z => h (List.mem_cons_of_mem _ z)
theorem clear_get : ∀ {vs : List Nat} {j : Nat}, j ∉ vs → (clearS S vs)[j]? = S[j]?
  | [], j, _ => rfl
  | v :: vs, j, h => by
    unfold clearS
    rw [List.getElem?_set_ne (fun z => h (by rw [z]; exact List.mem_cons_self))]
    exact clear_get fun z => h (List.mem_cons_of_mem _ z)
theorem putBack_set {S0 : Env} {x : Option O} : ∀ {vs : List Nat}, i ∉ vs → putBack S0 (S.set i x) vs = (putBack S0 S vs).set i x
  | [], _ => rfl
  | v :: vs, h => by
    unfold putBack
    rw [putBack_set fun z => h (List.mem_cons_of_mem _ z), List.set_comm]
    exact fun z => h (by rw [← z]; exact List.mem_cons_self)
theorem clear_ok : ∀ {own : List Nat}, own.Nodup → StOk c σ S T H → ∃ sv : List (V × O), StOk c (wipe σ own) (clearS S own) (sv ++ T) H ∧ ∀ S2 T2 H2, StOk c (wipe σ own) S2 (sv ++ T2) H2 → StOk c σ (putBack S S2 own) T2 H2
  | [], _, h => ⟨[], h, fun _ _ _ q => q⟩
  | i :: is, nd, h => by
    obtain ⟨ni, nd'⟩ := List.nodup_cons.mp nd
    obtain ⟨sv, k1, back⟩ := clear_ok nd' h
    have g1 : (clearS S is)[i]? = S[i]? := clear_get ni
    have g2 : (wipe σ is)[i]? = σ[i]? := wipe_get ni
    cases hS : (S[i]?).join with
    | none =>
      refine ⟨sv, ?_, fun S2 T2 H2 q => ?_⟩
      · unfold wipe clearS
        exact k1.clear1.forget
      · unfold wipe at q
        unfold putBack
        rw [hS]
        have q2 : StOk c (wipe σ is) (S2.set i none) (sv ++ T2) H2 := by
          have q3 := (q.clear1 (i := i)).forget (i := i) (s := ((wipe σ is)[i]?).join)
          rw [List.set_set] at q3
          have e : (wipe σ is).set i ((wipe σ is)[i]?).join = wipe σ is := by
            cases hw : (wipe σ is)[i]? with
            | none => exact List.set_eq_of_length_le (List.getElem?_eq_none_iff.mp hw)
            | some s => exact set_self hw
          rw [e] at q3
          exact q3
        have q4 := back _ _ _ q2
        rw [putBack_set ni] at q4
        exact q4
    | some o =>
      have e1 : S[i]? = some (some o) := by
        cases hx : S[i]? with
        | none => rw [hx] at hS; cases hS
        | some x => rw [hx] at hS; cases x with
          | none => cases hS
          | some o' => cases hS; rfl
      have e2 : (clearS S is)[i]? = some (some o) := g1.trans e1
      obtain ⟨v, hv, _⟩ := k1.slot e2
      refine ⟨(v, o) :: sv, ?_, fun S2 T2 H2 q => ?_⟩
      · unfold wipe clearS
        exact (k1.take e2 hv).forget
      · unfold wipe at q
        unfold putBack
        rw [hS]
        have hlt : i < S2.length := by
          have := q.cov.len
          rw [List.length_set, wipe_length] at this
          have h3 := h.cov.len
          have h4 := lt_of_get e1
          omega
        have q2 := StOk.put (i := i) q hlt
        rw [List.set_set, set_self hv] at q2
        have q4 := back _ _ _ q2
        rw [putBack_set ni] at q4
        exact q4
end
mutual
theorem bindT_len : ∀ (tg : Tg) (d : D) (S S' : Env), bindT tg d S = some S' → S'.length = S.length
  | .nm i, d, S, S', e => by simp only [bindT] at e; cases e; simp
  | .it p q, d, S, S', e => by simp only [bindT] at e; exact setIt_len e
  | .tp ts, d, S, S', e => by
    cases d with
    | tup ds => simp only [bindT] at e; exact bindTs_len ts ds S S' e
    | _ => simp only [bindT] at e; cases e
theorem bindTs_len : ∀ (ts : List Tg) (ds : List D) (S S' : Env), bindTs ts ds S = some S' → S'.length = S.length
  | [], [], S, S', e => by simp only [bindTs] at e; cases e; rfl
  | [], _ :: _, S, S', e => by simp only [bindTs] at e; cases e
  | _ :: _, [], S, S', e => by simp only [bindTs] at e; cases e
  | t :: ts, d :: ds, S, S', e => by
    simp only [bindTs] at e
    split at e
    · rename_i S1 e1
      rw [bindTs_len ts ds S1 S' e, bindT_len t d S S1 e1]
    · cases e
end
theorem wipe_self : ∀ {σ : L2.St} {own : List Nat} {j : Nat}, j ∈ own → j < σ.length → (wipe σ own)[j]? = some none
  | σ, [], j, h, _ => by cases h
  | σ, v :: vs, j, h, hl => by
    unfold wipe
    by_cases hj : v = j
    · subst hj
      exact List.getElem?_set_self (by rw [wipe_length]; exact hl)
    · rw [List.getElem?_set_ne hj]
      rcases List.mem_cons.mp h with e | h
      · exact absurd e.symm hj
      · exact wipe_self h hl
theorem wipe_keep {σ σ2 : L2.St} {own : List Nat} (hl : σ2.length = σ.length) (k : Keep own (wipe σ own) σ2) : wipe σ2 own = wipe σ own := by
  apply List.ext_getElem?
  intro j
  by_cases hj : j ∈ own
  · by_cases hlt : j < σ.length
    · rw [wipe_self hj hlt, wipe_self hj (by omega)]
    · rw [List.getElem?_eq_none (by rw [wipe_length]; omega), List.getElem?_eq_none (by rw [wipe_length]; omega)]
  · rw [wipe_get hj, k j hj]
/-- the block's own names -/
def ownOf (scope : Scope) (x : Str) : Bool := scope.names.lookup x == some .local || scope.names.lookup x == some .cell
def Cs.blk (Γ : Cs) (scope : Scope) : Cs := { Γ with sc := relS scope Γ.sc, own := ownOf scope }
theorem rel_lookup {sc : Scope} {x : Str} {k : NameKind} (hk : k ≠ .free) : ∀ {l : List (Str × NameKind)}, l.lookup x = some k → (l.map fun (n, k) => if (k == .free && sc.kind == .function && sc.names.lookup n == some .cell) then (n, NameKind.cell) else (n, k)).lookup x = some k
  | [], h => by cases h
  | (n, k') :: l, h => by
    rw [List.lookup_cons] at h
    have key : ∀ z : Str × NameKind, z.1 = n → (x == n) = false → (z :: (l.map fun (n, k) => if (k == .free && sc.kind == .function && sc.names.lookup n == some .cell) then (n, NameKind.cell) else (n, k))).lookup x = some k := by
      rintro ⟨z1, z2⟩ e hb
      have e' : z1 = n := e
      subst e'
      rw [List.lookup_cons, hb]
      rw [hb] at h
      exact rel_lookup hk h
    rw [List.map_cons]
    cases hb : x == n with
    | true =>
      rw [hb] at h
      have h' : k' = k := Option.some.inj h
      subst h'
      have hf : (k' == NameKind.free) = false := by
        cases k' <;> first | rfl | exact absurd rfl hk
      simp only [hf, Bool.false_and, Bool.false_eq_true, if_false]
      rw [List.lookup_cons, hb]
    | false =>
      refine key _ ?_ hb
      dsimp only
      split <;> rfl
theorem XOk.blk {X : Cx} {scope : Scope} (hX : XOk Γ X) (s : Shared) (Hb : Hp) (C : Addr) (cl : List (Str × Addr)) (fp : List Addr) : XOk (Γ.blk scope) (X.blk s Hb scope (compEnvC scope cl C X.env) fp) where
  p := hX.p
  w := hX.w
  K := hX.K
  mg := hX.mg
  base := hX.base
  N := hX.N
  sc := by show relS scope Γ.sc = relS scope X.env.scope; rw [hX.sc]
  nd := hX.nd
  calm := hX.calm
  room := hX.room
  xe := rfl
  gd := hX.gd
  own := fun x hx => by
    have hx' : (scope.names.lookup x == some .local || scope.names.lookup x == some .cell) = true := hx
    rw [Bool.or_eq_true] at hx'
    rcases hx' with h | h
    · have h' : scope.names.lookup x = some .local := by simpa using h
      have q : (relS scope X.env.scope).names.lookup x = some .local := rel_lookup (by decide) h'
      exact ⟨.inl q, .inr q⟩
    · have h' : scope.names.lookup x = some .cell := by simpa using h
      have q : (relS scope X.env.scope).names.lookup x = some .cell := rel_lookup (by decide) h'
      exact ⟨.inr q, .inl h⟩
def SoundTs (Γ : Cs) (ifs : List Expr) (f : TB) : Prop := ∃ t, (∀ X, XOk Γ X → PTs X ifs t) ∧ ∀ σ S T H b S', f S = some (b, S') → StOk Γ.c σ S T H → ∀ Q, (∀ H', StOk Γ.c σ S' T H' → Q b H') → t σ H Q
theorem sts_nil : SoundTs Γ [] tYes := ⟨_, fun X _ => pts_nil, fun σ S T H b S' e h Q q => by cases e; exact q H h⟩
theorem sts_one {f : TB} (h : SoundT Γ e f) : SoundTs Γ [e] f := by
  obtain ⟨t, h1, h2⟩ := h
  exact ⟨_, fun X hX => pts_one (h1 X hX), h2⟩
theorem cap_line : cap ≤ sizeLine := by decide
theorem lc_read {tgT : Tg} {it : IE} {t : TB} {f : EE} {own : List (Str × Nat)} {Wg : List Nat} {w : TI} {g : TG} {tt : TT} {te : TE}
    (nd : (own.map (·.2)).Nodup) (hW : ∀ j ∈ Wg, j ∈ own.map (·.2))
    (i2 : ∀ σ S T H ds S', it S = some (ds, S') → StOk Γ.c σ S T H → ∀ R, (∀ J H' E, Walks Γ.c J ds E → StOk Γ.c σ S' (E ++ T) H' → R J H') → w σ H R)
    (g2 : ∀ σ S T H v d S', bindT tgT d S = some S' → StOk Γ.c σ S ((v, .fz d) :: T) H → ∀ Q, (∀ σ' H', Keep Wg σ σ' → StOk Γ.c σ' S' T H' → Q σ' H') → g v σ H Q)
    (t2 : ∀ σ S T H b S', t S = some (b, S') → StOk Γ.c σ S T H → ∀ Q, (∀ H', StOk Γ.c σ S' T H' → Q b H') → tt σ H Q)
    (e2 : ∀ σ S T H o S', f S = some (o, S') → StOk Γ.c σ S T H → ∀ Q, (∀ v H', StOk Γ.c σ S' ((v, o) :: T) H' → Q v H') → te σ H Q)
    {σ : L2.St} {S S' : Env} {T : List (V × O)} {o : O} {Q : VK} (ee : eLc tgT it t f (own.map (·.2)) S = some (o, S')) (hh : StOk Γ.c σ S T H) (q : ∀ v H', StOk Γ.c σ S' ((v, o) :: T) H' → Q v H') : tLc w g tt te (own.map (·.2)) σ H Q := by
  generalize own.map (·.2) = vs at nd hW ee ⊢
  unfold eLc at ee
  split at ee
  · rename_i ds S1 e1
    split at ee
    · rename_i hcap
      split at ee
      · rename_i accF SF e3
        cases ee
        refine i2 σ S T H ds S1 e1 hh _ fun J H1 E w1 k1 D hD => ?_
        obtain ⟨sv, k2, back⟩ := clear_ok nd k1
        -- the new list stands beside
        have k3 : StOk Γ.c (wipe σ vs) (clearS S1 vs) ((.ref D, .ol []) :: (E ++ (sv ++ T))) (upd H1 D (.lst [])) := by
          have z1 : StOk Γ.c (wipe σ vs) (clearS S1 vs) (E ++ (sv ++ T)) H1 := k2.permT (by
            rw [← List.append_assoc, ← List.append_assoc]
            exact List.perm_append_comm.append_right T)
          exact .of_hd z1.cov (Ok.new_l (vs := []) (os := []) z1.ok rfl hD)
        have hlen : σ.length = S1.length := k1.cov.len
        refine ⟨fun i m H2 => i ≤ ds.length ∧ m = ds.length - i ∧ ∃ (os : List O) (Sb : Env), os.length ≤ i ∧ Sb.length = S1.length ∧ StOk Γ.c (wipe σ vs) Sb ((.ref D, .ol os) :: (E ++ (sv ++ T))) H2 ∧ lcGo tgT t f vs (ds.drop i) os Sb = some (accF, SF), ⟨ds.length, Nat.zero_le _, rfl, [], _, Nat.le_refl _, ?_, k3, e3⟩, ?_⟩
        · have := k2.cov.len
          rw [wipe_length] at this
          omega
        rintro i m H2 ⟨hle, rfl, os, Sb, hos, hSb, k4, e4⟩
        have kE : Ok Γ.c H2 [] (E ++ ((.ref D, .ol os) :: (sv ++ T) ++ ents (wipe σ vs) Sb)) := k4.ok.perm (by
          have a1 : (ents (wipe σ vs) Sb ++ (V.ref D, O.ol os) :: (E ++ (sv ++ T))).Perm ((V.ref D, O.ol os) :: (E ++ (sv ++ T)) ++ ents (wipe σ vs) Sb) := List.perm_append_comm
          refine a1.trans ?_
          show ((V.ref D, O.ol os) :: ((E ++ (sv ++ T)) ++ ents (wipe σ vs) Sb)).Perm (E ++ ((V.ref D, O.ol os) :: ((sv ++ T) ++ ents (wipe σ vs) Sb)))
          rw [List.append_assoc E]
          exact List.perm_middle.symm)
        by_cases hlt : i < ds.length
        · have hd : ds[i]? = some ds[i] := List.getElem?_eq_getElem hlt
          rw [List.drop_eq_getElem_cons hlt] at e4
          simp only [lcGo] at e4
          split at e4
          · rename_i S5 e5
            obtain ⟨go, yl⟩ := w1.step i H2 _ _ hd kE
            refine .inr ⟨go, fun H3 => ∃ (os' : List O) (Sb' : Env), os'.length ≤ i + 1 ∧ Sb'.length = S1.length ∧ StOk Γ.c (wipe σ vs) Sb' ((.ref D, .ol os') :: (E ++ (sv ++ T))) H3 ∧ lcGo tgT t f vs (ds.drop (i + 1)) os' Sb' = some (accF, SF), fun H' ⟨os', Sb', a1, a2, a3, a4⟩ => ⟨ds.length - (i + 1), by omega, by omega, rfl, os', Sb', a1, a2, a3, a4⟩, fun x H' y => ?_⟩
            have k5 := yl x H' y
            have k6 : StOk Γ.c (wipe σ vs) Sb ((x, .fz ds[i]) :: ((.ref D, .ol os) :: (E ++ (sv ++ T)))) H' := .of_hd k4.cov (k5.perm (List.Perm.cons _ (by
              show (E ++ ((V.ref D, O.ol os) :: ((sv ++ T) ++ ents (wipe σ vs) Sb))).Perm (ents (wipe σ vs) Sb ++ (V.ref D, O.ol os) :: (E ++ (sv ++ T)))
              refine List.Perm.trans ?_ List.perm_append_comm
              show (E ++ ((V.ref D, O.ol os) :: ((sv ++ T) ++ ents (wipe σ vs) Sb))).Perm ((V.ref D, O.ol os) :: ((E ++ (sv ++ T)) ++ ents (wipe σ vs) Sb))
              rw [List.append_assoc E]
              exact List.perm_middle)))
            refine g2 _ Sb _ H' x _ S5 e5 k6 _ fun σ5 H5 kp5 k7 => ?_
            have hS5 : S5.length = S1.length := (bindT_len _ _ _ _ e5).trans hSb
            have wk : wipe σ5 vs = wipe σ vs := wipe_keep (by rw [k7.cov.len, hS5, hlen]) (kp5.mono hW)
            refine ⟨wk, ?_⟩
            -- a state behind a turn, the own slots forgotten
            have again : ∀ {S6 : Env} {H6 : Hp} {os' : List O}, S6.length = S1.length → StOk Γ.c σ5 S6 ((.ref D, .ol os') :: (E ++ (sv ++ T))) H6 → StOk Γ.c (wipe σ vs) (clearS S6 vs) ((.ref D, .ol os') :: (E ++ (sv ++ T))) H6 ∧ (clearS S6 vs).length = S1.length := by
              intro S6 H6 os' hl6 k8
              obtain ⟨sv', k9, _⟩ := clear_ok nd k8
              rw [wk] at k9
              have k10 := k9.drops
              refine ⟨k10, ?_⟩
              have := k10.cov.len
              rw [wipe_length] at this
              omega
            split at e4
            · rename_i S6 e6
              refine t2 σ5 S5 _ H5 true S6 e6 k7 _ fun H6 k8 => ?_
              rw [if_pos rfl]
              split at e4
              · rename_i o7 S7 e7
                refine e2 σ5 S6 _ H6 o7 S7 e7 k8 _ fun yv H7 k9 => ?_
                -- the list is opened, one more put to it
                have k10 : Ok Γ.c H7 [] ((.ref D, .ol os) :: ((yv, o7) :: (ents σ5 S7 ++ (E ++ (sv ++ T))))) := k9.ok.perm (by
                  have a1 : (ents σ5 S7 ++ (yv, o7) :: (V.ref D, O.ol os) :: (E ++ (sv ++ T))).Perm ((yv, o7) :: (ents σ5 S7 ++ (V.ref D, O.ol os) :: (E ++ (sv ++ T)))) := List.perm_middle
                  refine a1.trans ?_
                  have a2 : (ents σ5 S7 ++ (V.ref D, O.ol os) :: (E ++ (sv ++ T))).Perm ((V.ref D, O.ol os) :: (ents σ5 S7 ++ (E ++ (sv ++ T)))) := List.perm_middle
                  exact (a2.cons _).trans (List.Perm.swap _ _ _))
                obtain ⟨D', acc, z1, z2, z3, z4⟩ := k10.open_l
                cases z1
                refine ⟨acc, z2, ?_, os ++ [o7], clearS S7 vs, by simp; omega, ?_⟩
                · have := cap_line
                  omega
                have z5 : Ok Γ.c (upd H7 D (.lst (acc ++ [yv]))) [] ((.ref D, .ol (os ++ [o7])) :: (ents σ5 S7 ++ (E ++ (sv ++ T)))) := by
                  refine Ok.close_l (vs := acc ++ [yv]) (os := os ++ [o7]) ?_ (by simp [z3])
                  rw [List.zip_append z3, List.append_assoc]
                  exact z4
                have hS7 : S7.length = S1.length := by
                  have := k9.cov.len
                  have h5 := k7.cov.len
                  omega
                obtain ⟨y1, y2⟩ := again hS7 (.of_hd k9.cov z5)
                exact ⟨y2, y1, e4⟩
              · cases e4
            · rename_i S6 e6
              refine t2 σ5 S5 _ H5 false S6 e6 k7 _ fun H6 k8 => ?_
              rw [if_neg Bool.false_ne_true]
              have hS6 : S6.length = S1.length := by
                have := k8.cov.len
                have h5 := k7.cov.len
                omega
              obtain ⟨y1, y2⟩ := again hS6 k8
              exact ⟨os, clearS S6 vs, by omega, y2, y1, e4⟩
            · cases e4
          · cases e4
        · have hi : i = ds.length := by omega
          subst hi
          rw [List.drop_length] at e4
          simp only [lcGo] at e4
          cases e4
          refine .inl ⟨w1.stop H2 _ kE, ?_⟩
          have k5 : StOk Γ.c (wipe σ vs) SF (sv ++ ((.ref D, .ol accF) :: (E ++ T))) H2 := k4.permT (by
            have a1 : (E ++ (sv ++ T)).Perm (sv ++ (E ++ T)) := by
              rw [← List.append_assoc, ← List.append_assoc]
              exact List.perm_append_comm.append_right T
            exact (a1.cons _).trans List.perm_middle.symm)
          have k6 := back SF _ H2 k5
          exact q _ _ (StOk.drops (L := E) (k6.permT List.perm_middle.symm))
      · cases ee
    · cases ee
  · cases ee
theorem se_lc {scope : Scope} {tgT : Tg} {it : IE} {t : TB} {f : EE} {ifs : List Expr} {own : List (Str × Nat)} {Wg : List Nat} (hi : SoundI Γ tg iter it) (hg : SoundG (Γ.blk scope) tg tgT Wg) (ht : SoundTs (Γ.blk scope) ifs t) (he : SoundE (Γ.blk scope) elt f)
    (ok : blkC Γ.N Γ.sc scope own = true) (nd : (own.map (·.2)).Nodup) (hW : ∀ j ∈ Wg, j ∈ own.map (·.2)) (hs : ∀ env x, foldedSetIterable iter env x = pure x) : SoundE Γ (.ListComp elt [⟨tg, iter, ifs, 0⟩] scope pos) (eLc tgT it t f (own.map (·.2))) := by
  obtain ⟨w, i1, i2⟩ := hi
  obtain ⟨g, g1, g2⟩ := hg
  obtain ⟨tt, t1, t2⟩ := ht
  obtain ⟨te, f1, f2⟩ := he
  exact ⟨_, fun X hX => pe_lc (own := own) hX.calm hX.nd (i1 X hX) (by rw [← hX.N, ← hX.sc]; exact blkOk_by ok) (fun s H C cl fp => g1 _ (hX.blk s H C cl fp)) (fun s H C cl fp => t1 _ (hX.blk s H C cl fp)) (fun s H C cl fp => f1 _ (hX.blk s H C cl fp)) (hs _),
    fun σ S T H o S' ee hh Q q => lc_read (Γ := Γ) (own := own) nd hW i2 g2 t2 f2 ee hh q⟩
/-- name = [..], the name a plain local -/
theorem ss_setLc {i : Nat} {y : Str} {py spos : Pos} {scope : Scope} {tgT : Tg} {it : IE} {t : TB} {f : EE} {ifs : List Expr} {own : List (Str × Nat)} {Wg : List Nat} (hN : Γ.N[i]? = some y) (hy : Γ.sc.names.lookup y = some .local) (hk : Γ.sc.kind = .function)
    (hl : (py.line == pos.line) = true) (ha : (scope.names.any fun (n, k) => n == y && (k == .local || k == .cell)) = false) (hi : SoundI Γ tg iter it) (hg : SoundG (Γ.blk scope) tg tgT Wg) (ht : SoundTs (Γ.blk scope) ifs t) (he : SoundE (Γ.blk scope) elt f)
    (ok : blkC Γ.N Γ.sc scope own = true) (nd : (own.map (·.2)).Nodup) (hW : ∀ j ∈ Wg, j ∈ own.map (·.2)) (hs : ∀ env x, foldedSetIterable iter env x = pure x) : SoundS Γ (.Assign [.Name y py] (.ListComp elt [⟨tg, iter, ifs, 0⟩] scope pos) spos) (sSet i (eLc tgT it t f (own.map (·.2)))) [i] := by
  obtain ⟨w, i1, i2⟩ := hi
  obtain ⟨g, g1, g2⟩ := hg
  obtain ⟨tt, t1, t2⟩ := ht
  obtain ⟨te, f1, f2⟩ := he
  refine ⟨_, fun X hX => ps_setLc (i := i) (own := own) hX.calm hX.nd (by rw [← hX.N]; exact hN) (by rw [← hX.sc]; exact hy) (sw_true (by rw [← hX.sc]; exact hk) (by rw [← hX.sc]; exact hy) hl ha) (i1 X hX) (by rw [← hX.N, ← hX.sc]; exact blkOk_by ok) (fun s H C cl fp => g1 _ (hX.blk s H C cl fp)) (fun s H C cl fp => t1 _ (hX.blk s H C cl fp)) (fun s H C cl fp => f1 _ (hX.blk s H C cl fp)) (hs _),
    fun σ S T H out ee hh D q => ?_⟩
  unfold sSet at ee
  split at ee
  · rename_i o S1 e1
    cases ee
    refine lc_read (Γ := Γ) (own := own) nd hW i2 g2 t2 f2 e1 hh fun v H1 k1 => ?_
    by_cases hi : i < S1.length
    · exact q _ _ Keep.set (k1.put hi)
    · have e1 : S1.set i (some o) = S1 := List.set_eq_of_length_le (by omega)
      have e2 : σ.set i (some v) = σ := List.set_eq_of_length_le (by rw [k1.cov.len]; omega)
      refine q _ _ Keep.set ?_
      rw [e1, e2]
      exact k1.drop
  · cases ee
end Pz
set_option Elab.async false
set_option linter.all false
set_option maxRecDepth 100000
set_option maxHeartbeats 1000000
namespace Pz
open PySem PySem.Spec L2
open PyProof.Rows hiding St
variable {c : Gc} {F H H' : Hp} {L : List (V × O)} {R : List Addr} {Γ : Cs} {e a b : Expr} {es : List Expr} {pos : Pos} {W W1 W2 : List Nat}

/-! ### defs and their calls -/
def fins : List V → List (Option O) → List (V × O)
  | v :: vs, some o :: fs => (v, o) :: fins vs fs
  | _ :: vs, none :: fs => fins vs fs
  | _, _ => []
/-- the promise of a def whose meaning is g -/
def spF (c : Gc) (g : Fn) (n : Nat) : List V → Hp → VK → Prop := fun vs H Q => ∃ os T o fs, vs.length = n ∧ os.length = n ∧ Ok c H [] (vs.zip os ++ T) ∧ g os = some (o, fs) ∧ ∀ v H', Ok c H' [] ((v, o) :: (fins vs fs ++ T)) → Q v H'
section
variable {σ : L2.St}
theorem lend_ok : ∀ {xs : List A} {io : List Bool} {vs : List V} {S S' : Env} {os : List O} {T : List (V × O)}, lend io xs S = some (os, S') → RefOk σ xs vs → StOk c σ S (tmps xs vs ++ T) H → vs.length = os.length ∧ StOk c σ S' (vs.zip os ++ T) H
  | [], _, [], S, S', os, T, e, _, h => by
    have e' : some (([] : List O), S) = some (os, S') := by
      rw [← e]; cases ‹List Bool› <;> rfl
    cases e'
    exact ⟨rfl, h⟩
  | [], _, _ :: _, S, S', os, T, _, r, _ => r.elim
  | .tmp _ :: _, _, [], S, S', os, T, _, r, _ => r.elim
  | .ref _ :: _, _, [], S, S', os, T, _, r, _ => r.elim
  | .tmp o :: xs, [], v :: vs, S, S', os, T, e, r, h => by simp only [lend] at e; cases e
  | .ref i :: xs, [], v :: vs, S, S', os, T, e, r, h => by simp only [lend] at e; cases e
  | .tmp o :: xs, b :: io, v :: vs, S, S', os, T, e, r, h => by
    simp only [lend] at e
    split at e
    · rename_i os1 S1 e1
      cases e
      have h1 : StOk c σ S (tmps xs vs ++ ((v, o) :: T)) H := h.permT (by
        show ((v, o) :: (tmps xs vs ++ T)).Perm (tmps xs vs ++ ((v, o) :: T))
        exact List.perm_middle.symm)
      obtain ⟨q1, q2⟩ := lend_ok e1 r h1
      refine ⟨by simp [q1], q2.permT ?_⟩
      show (vs.zip os1 ++ ((v, o) :: T)).Perm ((v, o) :: (vs.zip os1 ++ T))
      exact List.perm_middle
    · cases e
  | .ref i :: xs, b :: io, v :: vs, S, S', os, T, e, r, h => by
    simp only [lend] at e
    split at e
    · rename_i o hi
      split at e
      · split at e
        · rename_i os1 S1 e1
          cases e
          have h1 : StOk c σ (S.set i none) (tmps xs vs ++ ((v, o) :: T)) H := (StOk.take (T := tmps xs vs ++ T) h hi r.1).permT List.perm_middle.symm
          obtain ⟨q1, q2⟩ := lend_ok e1 r.2 h1
          refine ⟨by simp [q1], q2.permT ?_⟩
          show (vs.zip os1 ++ ((v, o) :: T)).Perm ((v, o) :: (vs.zip os1 ++ T))
          exact List.perm_middle
        · cases e
      · split at e
        · rename_i os1 S1 e1
          cases e
          have h1 : StOk c σ (S.set i (some (.fz (fr o)))) (tmps xs vs ++ ((v, .fz (fr o)) :: T)) H := (StOk.read (T := tmps xs vs ++ T) h hi r.1).permT List.perm_middle.symm
          obtain ⟨q1, q2⟩ := lend_ok e1 r.2 h1
          refine ⟨by simp [q1], q2.permT ?_⟩
          show (vs.zip os1 ++ ((v, .fz (fr o)) :: T)).Perm ((v, .fz (fr o)) :: (vs.zip os1 ++ T))
          exact List.perm_middle
        · cases e
    · cases e
theorem back_ok : ∀ {xs : List A} {io : List Bool} {vs : List V} {S : Env} {fs : List (Option O)} {T : List (V × O)}, RefOk σ xs vs → StOk c σ S (fins vs fs ++ T) H → StOk c σ (giveBack io xs fs S) T H
  | [], io, [], S, fs, T, _, h => by
    have e : giveBack io [] fs S = S := by unfold giveBack; cases io with
      | nil => rfl
      | cons b bs => cases b <;> rfl
    rw [e]; exact h.drops
  | [], _, _ :: _, S, fs, T, r, _ => r.elim
  | .tmp _ :: _, _, [], S, fs, T, r, _ => r.elim
  | .ref _ :: _, _, [], S, fs, T, r, _ => r.elim
  | x :: xs, [], v :: vs, S, fs, T, r, h => by
    have e : giveBack [] (x :: xs) fs S = S := by unfold giveBack; rfl
    rw [e]; exact h.drops
  | x :: xs, b :: io, v :: vs, S, [], T, r, h => by
    have e : giveBack (b :: io) (x :: xs) [] S = S := by
      cases b <;> cases x <;> rfl
    rw [e]; exact h.drops
  | x :: xs, b :: io, v :: vs, S, f :: fs, T, r, h => by
    have r2 : RefOk σ xs vs := by
      cases x with
      | tmp o => exact r
      | ref i => exact r.2
    have rest : StOk c σ (giveBack io xs fs S) ((match f with | some o => [(v, o)] | none => []) ++ T) H := by
      refine back_ok (vs := vs) r2 ?_
      cases f with
      | none => exact h
      | some o =>
        refine h.permT ?_
        show ((v, o) :: (fins vs fs ++ T)).Perm (fins vs fs ++ ([(v, o)] ++ T))
        exact List.perm_middle.symm
    cases b with
    | false =>
      have e : giveBack (false :: io) (x :: xs) (f :: fs) S = giveBack io xs fs S := by cases x <;> rfl
      rw [e]; exact rest.drops
    | true =>
      cases x with
      | tmp o => exact rest.drops
      | ref i =>
        show StOk c σ ((giveBack io xs fs S).set i f) T H
        cases f with
        | none => exact (rest.clear1)
        | some o =>
          have rest' : StOk c σ (giveBack io xs fs S) ((v, o) :: T) H := rest
          by_cases hi : i < (giveBack io xs fs S).length
          · have z := StOk.put (i := i) rest' hi
            rw [set_self r.1] at z
            exact z
          · rw [List.set_eq_of_length_le (by omega)]
            exact rest'.drop
end
def ALen (as : AL) (n : Nat) : Prop := ∀ S xs S', as S = some (xs, S') → xs.length = n
theorem al_nil : ALen aNil 0 := fun S xs S' e => by cases e; rfl
theorem al_cons {f : AE} {r : AL} {n : Nat} (h : ALen r n) : ALen (aCons f r) (n + 1) := fun S xs S' e => by
  unfold aCons at e
  split at e
  · split at e
    · rename_i xs1 S2 e2
      cases e
      simp [h _ _ _ e2]
    · cases e
  · cases e
/-- a def at f does what its meaning tells, wherever no object is being shown (repr's guard) -/
structure FnG (P : Program) (w : World) (K : PySem.W.Frag) (mg : Str → Option Value) (base : Heap) (k : Nat) (f : Addr) (sp : List V → Hp → VK → Prop) : Prop where
  go : ∀ (A : Around) (fr0 : List PySem.Env) (s : Shared) (H : Hp) (us : List Value) (vs : List V) (Q : VK), A.guards = some [] → Room k A → Env0 P w K mg base A fr0 s H → Vals vs us → sp vs H Q →
    codeAny (model P w) A (.call (.ref f) ⟨us, []⟩) (fun r s' => ∃ u, r = .ok (.ret u) ∧ CE fr0 P w H s Q u s') s
theorem FnG.mono {P : Program} {w : World} {K : PySem.W.Frag} {mg : Str → Option Value} {base : Heap} {j k : Nat} {f : Addr} {sp : List V → Hp → VK → Prop} (F : FnG P w K mg base j f sp) (h : j ≤ k) : FnG P w K mg base k f sp :=
  ⟨fun A fr0 s H us vs Q hg hr => F.go A fr0 s H us vs Q hg (hr.mono h)⟩
/-- a def that is called by its name -/
structure Cal (Γ : Cs) (x : Str) (g : Fn) (n : Nat) : Prop where
  gl : Γ.sc.names.lookup x = some .globalImplicit
  call : ∃ f : Addr, Γ.mg x = some (.ref f) ∧ PySem.W.keepIn Γ.K (.ref f) = true ∧ FnG Γ.P Γ.w Γ.K Γ.mg Γ.base Γ.k f (spF Γ.c g n)
/-- a call's reading -/
def tCallG (sp : List V → Hp → VK → Prop) (t : TA) : TE := fun σ H Q => t σ H fun vs H1 => sp vs H1 Q
theorem pe_callG {X : Cx} {k : Nat} {f : Addr} {x : Str} {sp : List V → Hp → VK → Prop} {t : TA} {p : Pos} (F : FnG X.prog X.w X.K X.mg X.base k f sp) (hr : Room k X.A) (hgd : X.A.guards = some []) (hg : Gl X x) (hm : X.mg x = some (.ref f)) (hk : PySem.W.keepIn X.K (.ref f) = true)
    (ha : PA X (e :: es) t) (hd : (x == ("__debug__" : Str)) = false) (h1 : starEach (e :: es) X.env = (false, eval e X.env) :: starEach es X.env) (h2 : (backTo pos (starEach es X.env)).any (·.1) = false) : PE X (.Call (.Name x p) (e :: es) [] pos) (tCallG sp t) := by
  constructor
  intro pn s0 σ0 H0 Q0 J hq
  refine wpAny_Call_Name_kw (ld_glob J hg hm ?_ hd)
  refine PySem.W.callWith_K (h₀ := X.base) J.ok.mod.kin hk (thn (ha.run pos pn s0 σ0 H0 _ J hq) ?_) h1 h2
  rintro us s1 ⟨vs, H1, J1, rv, hsp⟩
  refine ⟨J1.kIn, wpAny_call ?_⟩
  refine codeAny_mono (F.go X.A X.stack s1 H1 us vs Q0 hgd hr J1.env0 rv hsp) ?_
  rintro r s2 ⟨u, rfl, hce⟩
  exact J1.after hce
theorem se_call {x : Str} {g : Fn} {n : Nat} {io : List Bool} {as : AL} {p : Pos} (C : Cal Γ x g n) (hn : n = (e :: es).length) (ha : SoundA Γ (e :: es) as) (hd : (x == ("__debug__" : Str)) = false)
    (he : ∀ env, starEach (e :: es) env = (false, eval e env) :: starEach es env) (hpl : ∀ env, (backTo pos (starEach es env)).any (·.1) = false) (hA : ALen as n) : SoundE Γ (.Call (.Name x p) (e :: es) [] pos) (eCall g io as) := by
  obtain ⟨t, h1, h2⟩ := ha
  obtain ⟨f, hm, hk, F⟩ := C.call
  refine ⟨tCallG (spF Γ.c g n) t, fun X hX => ?_, fun σ S T H o S' ee hh Q q => ?_⟩
  · obtain ⟨P, w, K, mg, base, N, sc, fa, own, k⟩ := Γ
    have e1 := hX.p; have e2 := hX.w; have e3 := hX.K; have e4 := hX.mg; have e5 := hX.base
    dsimp only at e1 e2 e3 e4 e5
    subst e1; subst e2; subst e3; subst e4; subst e5
    exact pe_callG F hX.room hX.gd (by show X.env.scope.names.lookup _ = _; rw [← hX.sc]; exact C.gl) hm hk (h1 X hX) hd (he _) (hpl _)
  · unfold eCall at ee
    split at ee
    · rename_i xs S1 e1
      split at ee
      · rename_i os S2 e2
        split at ee
        · rename_i o' fs e3
          cases ee
          refine h2 σ S T H xs S1 e1 hh _ fun vs H1 r1 k1 => ?_
          obtain ⟨q1, q2⟩ := lend_ok e2 r1 k1
          have hxs := hA _ _ _ e1
          have hvs : vs.length = n := by
            rw [← hxs]
            clear q2 q1 k1 h2 q hh e2 e1 hxs
            induction xs generalizing vs with
            | nil => cases vs with
              | nil => rfl
              | cons _ _ => exact r1.elim
            | cons x xs ih => cases vs with
              | nil => cases x <;> exact r1.elim
              | cons v vs =>
                cases x with
                | tmp o => simp [ih vs r1]
                | ref i => simp [ih vs r1.2]
          refine ⟨os, ents σ S2 ++ T, o, fs, by simp [hvs], by omega, ?_, e3, fun v H2 k2 => ?_⟩
          · exact q2.ok.perm (by
              rw [← List.append_assoc, ← List.append_assoc]
              exact List.perm_append_comm.append_right T)
          · have k3 : StOk Γ.c σ S2 (fins vs fs ++ ((v, o) :: T)) H2 := ⟨q2.cov, k2.perm (by
              have a1 : ((v, o) :: (fins vs fs ++ (ents σ S2 ++ T))).Perm ((v, o) :: (ents σ S2 ++ (fins vs fs ++ T))) := by
                refine List.Perm.cons _ ?_
                rw [← List.append_assoc, ← List.append_assoc]
                exact List.perm_append_comm.append_right T
              refine a1.trans ?_
              have a2 : ((v, o) :: (ents σ S2 ++ (fins vs fs ++ T))).Perm (ents σ S2 ++ ((v, o) :: (fins vs fs ++ T))) := List.perm_middle.symm
              exact a2.trans (List.Perm.append_left _ List.perm_middle.symm))⟩
            exact q v H2 (back_ok r1 k3)
        · cases ee
      · cases ee
    · cases ee
/-- where a parameter is lent, the def never binds it -/
def ioFree (W : List Nat) : Nat → List Bool → Bool
  | _, [] => true
  | j, b :: bs => (!b || !(W.contains j)) && ioFree W (j + 1) bs
theorem ioFree_at : ∀ {io : List Bool} {j k : Nat}, ioFree W k io = true → io[j]? = some true → k + j ∉ W
  | [], j, k, _, h => by simp at h
  | b :: bs, 0, k, h, e => by
    simp at e; subst e
    unfold ioFree at h
    simp at h
    simpa using h.1
  | b :: bs, j + 1, k, h, e => by
    unfold ioFree at h
    rw [Bool.and_eq_true] at h
    have := ioFree_at (j := j) h.2 (by simpa using e)
    rw [show k + (j + 1) = k + 1 + j by omega]
    exact this
theorem finals_ok : ∀ {io : List Bool} {σ : L2.St} {S : Env} {vs : List V} {T : List (V × O)}, Cov σ S → (∀ j : Nat, io[j]? = some true → σ[j]? = (vs[j]?).map some) → Ok c H [] (ents σ S ++ T) → Ok c H [] (fins vs (finals io S) ++ T)
  | [], σ, S, vs, T, _, _, h => by
    have e : fins vs (finals [] S) = [] := by
      have : finals [] S = [] := by unfold finals; rfl
      rw [this]
      cases vs <;> rfl
    rw [e]; exact h.drop_left
  | b :: io, [], [], vs, T, _, _, h => by
    have e : fins vs (finals (b :: io) []) = [] := by
      have : finals (b :: io) [] = [] := by cases b <;> rfl
      rw [this]
      cases vs <;> rfl
    rw [e]; exact h.drop_left
  | _ :: _, [], _ :: _, _, _, hc, _, _ => hc.elim
  | _ :: _, _ :: _, [], _, _, hc, _, _ => hc.elim
  | b :: io, s :: σ, x :: S, [], T, _, _, h => by
    have e : fins [] (finals (b :: io) (x :: S)) = [] := by cases b <;> cases x <;> rfl
    rw [e]; exact h.drop_left
  | b :: io, s :: σ, x :: S, v :: vs, T, hc, k, h => by
    have h1 : Ok c H [] (ents σ S ++ (ent s x ++ T)) := h.perm (by
      show ((ent s x ++ ents σ S) ++ T).Perm (ents σ S ++ (ent s x ++ T))
      rw [← List.append_assoc]
      exact List.perm_append_comm.append_right T)
    have h2 := finals_ok (io := io) (vs := vs) hc.2 (fun j hj => by simpa using k (j + 1) (by simpa using hj)) h1
    have h3 : Ok c H [] (ent s x ++ (fins vs (finals io S) ++ T)) := h2.perm (by
      rw [← List.append_assoc, ← List.append_assoc]
      exact List.perm_append_comm.append_right T)
    cases b with
    | false => exact h3.drop_left
    | true =>
      cases x with
      | none =>
        have e : ent s none = [] := by cases s <;> rfl
        rw [e] at h3
        exact h3
      | some o =>
        have e := k 0 rfl
        simp at e
        subst e
        exact h3
theorem start_cov : ∀ {vs : List V} {os : List O} {n : Nat}, vs.length = os.length → Cov (vs.map some ++ List.replicate n none) (os.map some ++ List.replicate n none) ∧ ents (vs.map some ++ List.replicate n none) (os.map some ++ List.replicate n none) = vs.zip os
  | [], [], n, _ => by
    have aux : ∀ n, Cov (List.replicate n none) (List.replicate n none) ∧ ents (List.replicate n none) (List.replicate n none) = [] := by
      intro n
      induction n with
      | zero => exact ⟨trivial, rfl⟩
      | succ n ih => exact ⟨⟨fun o z => by (cases z), ih.1⟩, ih.2⟩
    exact aux n
  | v :: vs, o :: os, n, hl => by
    obtain ⟨q1, q2⟩ := start_cov (vs := vs) (os := os) (n := n) (by simpa using hl)
    refine ⟨⟨fun o z => ⟨v, rfl⟩, q1⟩, ?_⟩
    show ent (some v) (some o) ++ ents (List.map some vs ++ List.replicate n none) (List.map some os ++ List.replicate n none) = _
    rw [q2]; rfl
  | [], _ :: _, _, hl => by simp at hl
  | _ :: _, [], _, hl => by simp at hl
/-- a def keeps the promise of its meaning -/
theorem def_ok {P : Program} {w : World} {K : PySem.W.Frag} {mg : Str → Option Value} {base : Heap} {fa : Nat → Addr} {x qual : Str} {st : Stmt} {f : Addr} {fd : FuncData} {N ps : List Str} {k : Nat} {b : SS} {io : List Bool}
    (F : Fun K x qual st f fd) (S : FnScope N ps (defScope st)) (hbn : Binds K fd ps [])
    (hb : SoundB ⟨P, w, K, mg, base, N, defScope st, fa, ownOf (defScope st), k⟩ (defBody st) b W) (hio : ioFree W 0 io = true) (hl : io.length ≤ ps.length) :
    FnG P w K mg base (k + 1) f (spF ⟨K, fa⟩ (run N.length io b) ps.length) := by
  obtain ⟨t, h1, h2⟩ := hb
  obtain ⟨oc, od, kV, doc, pm, an, cdv, ct, osl, rfl, lk, hcd⟩ := F.ex
  constructor
  intro A fr0 s H us vs Q hgd hr e0 rv hsp
  have h := hsp
  obtain ⟨os, T, o, fs, q1, q2, q3, q4, q5⟩ := h
  have KX : K.In s.heap := e0.mod.kin.keeps fun c0 o0 e => (e0.bs c0 o0 e).1
  have nl : s.heap.NoLimit := e0.mod.nolimit.keeps fun c0 o0 e => (e0.bs c0 o0 e).1
  have hul : us.length = ps.length := rv.length.symm.trans q1
  have kinds : ∀ y ∈ ps.zip us, (defScope st).names.lookup y.1 = some .local ∨ ((defScope st).names.lookup y.1 = some .cell ∧ ((cellsFrom (s.heap.objs.size + 1) (defScope st).names []).lookup y.1).isSome = true) := by
    rintro ⟨n0, v0⟩ hy
    exact (S.par n0 (List.of_mem_zip hy).1).imp id fun z => ⟨z, PySem.W.cellsFrom_some _ _ _ (.inl z)⟩
  have hbd := hbn s us KX (by simpa using hul)
  rw [List.append_nil] at hbd
  refine codeAny_call_function hr.depth (KX _ _ lk) rfl S.co S.gen rfl (PySem.W.codeRec_of KX hcd) (hbd _ _ _ _ ?_)
  refine wpAny_newFunctionEnv_cells S.kind kinds ?_
  rintro env rfl s1 x1
  refine ⟨nl.keeps x1.toInCall.keep, codeAny_func ?_⟩
  have J := inv_start (CX := CX0) (qual := qual) (f := f) (cd := cdv) (E := fun _ _ _ => False) S hr.hd e0 q1 rv x1
  have hX : XOk ⟨P, w, K, mg, base, N, defScope st, fa, ownOf (defScope st), k⟩ (cxOf CX0 P w K mg base N qual (defScope st) f cdv A fr0 s H (fun _ _ _ => False)).nox := by
    refine ⟨rfl, rfl, rfl, rfl, rfl, rfl, rfl, S.nd, rfl, hr.deeper _, rfl, hgd, fun y hy => ?_⟩
    have hy' : ((defScope st).names.lookup y == some .local || (defScope st).names.lookup y == some .cell) = true := hy
    rw [Bool.or_eq_true] at hy'
    exact ⟨hy'.imp (fun z => (by simpa using z : (defScope st).names.lookup y = some .local)) (fun z => (by simpa using z : (defScope st).names.lookup y = some .cell)), .inl rfl⟩
  -- the body, at the parameters' values
  have body : t { nx := fun _ H' => Q .non H', rt := Q } (L2.start N vs) H := by
    unfold run at q4
    obtain ⟨c1, c2⟩ := start_cov (vs := vs) (os := os) (n := N.length - os.length) (by omega)
    have hst : L2.start N vs = vs.map some ++ List.replicate (N.length - os.length) none := by
      unfold L2.start
      rw [q1, q2]
    have k0 : StOk ⟨K, fa⟩ (L2.start N vs) (os.map some ++ List.replicate (N.length - os.length) none) T H := by
      rw [hst]
      refine ⟨c1, ?_⟩
      rw [c2]; exact q3
    -- the parameters that are lent stand where they stood
    have lent : ∀ σ', Keep W (L2.start N vs) σ' → ∀ j : Nat, io[j]? = some true → σ'[j]? = (vs[j]?).map some := by
      intro σ' kp j hj
      have h3 := ioFree_at hio hj
      rw [Nat.zero_add] at h3
      rw [kp j h3, hst]
      have hj' : j < io.length := lt_of_get hj
      have hlt : j < vs.length := by omega
      rw [List.getElem?_append_left (by simpa using hlt), List.getElem?_map]
    split at q4
    · rename_i S' e1
      cases q4
      refine h2 _ _ T H _ e1 k0 _ fun σ' H' kp k1 => q5 .non H' ?_
      have k2 := finals_ok (io := io) k1.cov (lent σ' kp) k1.ok
      exact k2.scal rfl
    · rename_i o' S' e1
      cases q4
      refine h2 _ _ T H _ e1 k0 _ fun v σ' H' kp k1 => q5 v H' ?_
      have k2 := finals_ok (io := io) (T := (v, o) :: T) k1.cov (lent σ' kp) k1.ok
      exact k2.perm List.perm_middle
    · cases q4
  refine wpAny_mono ((h1 _ hX).nox.run [] s1 (L2.start N vs) H _ J body) ?_ ?_
  · intro fl s2 hs
    have fin : ∀ {σ' : L2.St} {H' : Hp} {v : V} {u : Value}, Inv (cxOf CX0 P w K mg base N qual (defScope st) f cdv A fr0 s H (fun _ _ _ => False)) [] σ' H' s2 → RelV v u → Q v H' → CE fr0 P w H s Q u s2 := fun {σ' H' v u} J2 r2 hq => ⟨v, H', J2.os, J2.bare, J2.base, J2.hok, r2, hq⟩
    cases fl with
    | ret u =>
      obtain ⟨v, σ', H', J2, r2, hq⟩ := hs
      exact ⟨u, rfl, fin J2 r2 hq⟩
    | next =>
      obtain ⟨σ', H', J2, hq⟩ := hs
      exact ⟨Value.none, rfl, fin (v := V.non) (u := Value.none) J2 rfl hq⟩
    | brk =>
      obtain ⟨_, _, _, hq⟩ := hs
      exact hq.elim
    | cont =>
      obtain ⟨_, _, _, hq⟩ := hs
      exact hq.elim
  · intro e2 s2 hs
    exact wpAny_mono hs (fun _ _ z => z.elim) fun _ _ z => z.elim
end Pz
set_option Elab.async false
set_option linter.all false
set_option maxRecDepth 100000
set_option maxHeartbeats 1000000
namespace Pz
open PySem PySem.Spec L2
open PyProof.Rows hiding St

/-! ### the law's own call, from its meaning -/
theorem law_run {P : Program} {w : World} {K : PySem.W.Frag} {mg mb : Str → Option Value} {k : Nat} {lf sc : Addr} {g : Fn} {fa : Nat → Addr} {s : Shared} {vs : List Value} {ns : List Int} {fs : List (Option O)}
    (kin : K.In s.heap) (gl : s.heap.Ns mainGlobals mg) (bl : s.heap.Ns builtinsNs mb) (bb : ∀ x : Str, x ≠ "__name__" → mb x = bootBuiltins x) (nl : s.heap.NoLimit) (ng : s.gens = #[])
    (hs : s.heap.get? sc = some { cls := .type "list", data := .seq vs.toArray }) (hi : IntsAre vs ns) (hz : ns.length ≤ sizeLine) (room : Room k callerA)
    (F : ∀ base : Heap, K.In base → base.Ns mainGlobals mg → FnG P w K mg base k lf (spF ⟨K, fa⟩ g 1))
    (hg : g [.fz (.lst (ns.map D.int))] = some (.fz (.bl true), fs)) :
    codeAny (model P w) callerA (.call (.ref lf) ⟨[.ref sc], []⟩) (fun r s' => r = .ok (.ret (.bool true)) ∧ OldK s.heap s'.heap ∧ s'.os = s.os ∧ AllBare s'.gens) s := by
  have rv : Vals (ns.map V.int) vs := vals_ints hi
  have ln := hi.length
  have reps : ∀ F : Hp, RepDs ⟨K, fa⟩ F (ns.map D.int) (ns.map V.int) := fun F => by
    clear hg hz ln rv hi
    induction ns with
    | nil => rfl
    | cons n r ih => exact ⟨.int n, _, rfl, rfl, ih⟩
  -- whatever is tracked is the script alone, known to its object
  suffices main : ∀ H : Hp, (∀ b u, H b = some u → b = sc ∧ K.lookup sc = none ∧ ∃ ob xs, u = .frz ob (.lst xs)) → SqL K H sc (ns.map V.int) → HOk P w H s.heap →
      codeAny (model P w) callerA (.call (.ref lf) ⟨[.ref sc], []⟩) (fun r s' => r = .ok (.ret (.bool true)) ∧ OldK s.heap s'.heap ∧ s'.os = s.os ∧ AllBare s'.gens) s by
    cases hk : K.lookup sc with
    | some o =>
      have e1 := kin sc o hk
      rw [hs] at e1
      cases e1
      refine main (fun _ => none) (fun b u z => nomatch z) (.inr ⟨_, vs.toArray, _, hk, rfl, rfl, rfl, ?_, by simpa using rv⟩) (fun b u z => nomatch z)
      rw [List.size_toArray, ln]; exact hz
    | none =>
      let Z : Hp := fun b => if b = sc then some (.frz { cls := .type "list", data := .seq vs.toArray } (.lst (ns.map V.int))) else none
      have zs : ∀ b u, Z b = some u → b = sc ∧ u = .frz { cls := .type "list", data := .seq vs.toArray } (.lst (ns.map V.int)) := by
        intro b u z
        by_cases hb : b = sc
        · have z2 := (if_pos hb).symm.trans z
          exact ⟨hb, (Option.some.inj z2).symm⟩
        · have z2 := (if_neg hb).symm.trans z
          cases z2
      refine main Z (fun b u z => ?_) (.inl (.inr ⟨_, if_pos rfl⟩)) (fun b u z => ?_)
      · obtain ⟨q1, q2⟩ := zs b u z
        exact ⟨q1, hk, _, _, q2⟩
      · obtain ⟨q1, q2⟩ := zs b u z
        subst q1; subst q2
        refine ⟨hs, ?_, vs, _, rv, hs⟩
        rw [List.length_map]; exact hz
  intro H only sq hok
  have hid : ∀ {b : Addr} {o : Obj}, s.heap.get? b = some o → H b = none → (hidT s.heap H).get? b = some o := fun q n => hidT_get q n
  have dictfree : ∀ {b : Addr} {o : Obj} {es : Array DictEntry} {ep : Nat}, s.heap.get? b = some o → o.data = .dict es ep → H b = none := by
    intro b o es ep q d
    cases z : H b with
    | none => rfl
    | some u =>
      obtain ⟨q1, _⟩ := only b u z
      subst q1
      rw [hs] at q
      cases q
      cases d
  have nsof : ∀ {b : Addr} {m : Str → Option Value}, s.heap.Ns b m → (hidT s.heap H).Ns b m := by
    rintro b m ⟨o, es, ep, q, d, r⟩
    exact ⟨o, es, ep, hid q (dictfree q d), d, r⟩
  have kinB : K.In (hidT s.heap H) := by
    intro b o q
    refine hid (kin b o q) ?_
    cases z : H b with
    | none => rfl
    | some u =>
      obtain ⟨q1, q2, _⟩ := only b u z
      subst q1
      rw [q2] at q; cases q
  have modl : Mod K mg (hidT s.heap H) := by
    obtain ⟨mc, n1, n2⟩ := nl
    exact ⟨kinB, nsof gl, ⟨mb, nsof bl, bb⟩, ⟨mc, nsof n1, n2⟩⟩
  have env : Env0 P w K mg (hidT s.heap H) callerA [] s H := by
    refine ⟨rfl, modl, fun b o q => of_hidT q, Nat.le_of_eq (hidT_size _ _), trivial, ?_, hok, .of_eq ng⟩
    intro b hb
    cases hb
  have start : Ok ⟨K, fa⟩ H [] ((.ref sc, .fz (.lst (ns.map D.int))) :: []) := by
    refine ⟨H, [], Same.refl H, ⟨[], [], ⟨rfl, sc, _, rfl, sq, reps H⟩, rfl, rfl⟩, List.nodup_nil, ?_, ?_⟩
    · intro b hb; cases hb
    · intro b hb; cases hb
  have hsp : spF ⟨K, fa⟩ g 1 [.ref sc] H (fun v H' => v = .bl true) := by
    refine ⟨[.fz (.lst (ns.map D.int))], [], _, fs, rfl, rfl, start, hg, fun v H' k => ?_⟩
    exact k.rep
  refine codeAny_mono ((F _ kinB (nsof gl)).go callerA [] s H [.ref sc] [.ref sc] _ rfl room env (.cons rfl .nil) hsp) ?_
  rintro r s' ⟨u, rfl, v, H', o1, bare, un, hok', ru, q⟩
  have q' : v = .bl true := q
  subst q'
  have ru' : u = Value.bool true := ru
  subst ru'
  refine ⟨rfl, OldK.of_keep fun b o q => ?_, o1, bare⟩
  cases z : H b with
  | none => exact un.keep b o q z (fun z => nomatch z) (fun z => nomatch z)
  | some u =>
    obtain ⟨_, _, ob, xs, e⟩ := only b u z
    subst e
    obtain ⟨a1, _⟩ := hok b _ z
    obtain ⟨a2, _⟩ := hok' b _ (un.frzs b ob _ z)
    rw [q] at a1
    cases a1
    exact a2
/-- the end of a law row -/
theorem law_end {l : PySem.W.OpenLaw} {n k : Nat} {q : Program} {loose : List Str} {XP : (Str → Option Value) → Heap → Prop} {YP : World → Heap → Prop} {d : DefRec} {K : Params → PySem.W.Frag} {g : Fn}
    (hn : l.most = some n) (hn2 : n ≤ sizeLine) (hdf : d.params.defaults = []) (room : Room k callerA)
    (hY : ∀ (w : World) (h : Heap), YP w h → (K w.params).In h)
    (F : ∀ (w : World) (mg : Str → Option Value) (lf : Addr) (h : Heap), (K w.params).In h → h.Ns mainGlobals mg → mg d.name = some (.ref lf) →
      ∃ fa : Nat → Addr, ∀ base : Heap, (K w.params).In base → base.Ns mainGlobals mg → FnG l.prog w (K w.params) mg base k lf (spF ⟨K w.params, fa⟩ g 1))
    (hg : ∀ ns : List Int, ns.length ≤ n → ∃ fs, g [.fz (.lst (ns.map D.int))] = some (.fz (.bl true), fs)) :
    PySem.W.WalkO q loose XP YP l.row.toRowW d [] (fun f vs => PySem.call f vs) := by
  refine Att.attach_call hn hdf ?_
  intro w s0 s mg mb lf o pm cd doc a vs ns G Y ho hd hcd hmg hobj hints hlen hgn
  have kin := hY w _ Y
  obtain ⟨fa, hF⟩ := F w mg lf _ kin G.T.g hmg
  obtain ⟨fs, hfs⟩ := hg ns hlen
  exact law_run kin G.T.g G.T.b G.T.builtins G.T.nolimit hgn hobj hints (Nat.le_trans hlen hn2) room hF hfs
/-- no number of a script that can be laid is too great -/
theorem bits_of : ∀ {ns : List Int} {m : Nat}, PySem.W.WData.weightAll (ns.map PySem.W.WData.int) ≤ m → ∀ i ∈ ns, i.natAbs.log2 ≤ m
  | [], _, _, i, hi => by cases hi
  | n :: ns, m, h, i, hi => by
    have h' : PySem.W.WData.weight (.int n) + 1 + PySem.W.WData.weightAll (ns.map PySem.W.WData.int) ≤ m := h
    rcases List.mem_cons.mp hi with e | hi
    · subst e
      have hw : PySem.W.WData.weight (.int i) = if i == 0 then 0 else i.natAbs.log2 + 1 := rfl
      rw [hw] at h'
      by_cases hz : i = 0
      · subst hz; simp
      · rw [if_neg (by simpa using hz)] at h'; omega
    · exact bits_of (ns := ns) (by omega) i hi
/-- the end of a law row, the numbers' size told -/
theorem law_endB {l : PySem.W.OpenLaw} {n k : Nat} {q : Program} {loose : List Str} {XP : (Str → Option Value) → Heap → Prop} {YP : World → Heap → Prop} {d : DefRec} {K : Params → PySem.W.Frag} {g : Fn}
    (hn : l.most = some n) (hn2 : n ≤ sizeLine) (hdf : d.params.defaults = []) (room : Room k callerA)
    (hY : ∀ (w : World) (h : Heap), YP w h → (K w.params).In h)
    (F : ∀ (w : World) (mg : Str → Option Value) (lf : Addr) (h : Heap), (K w.params).In h → h.Ns mainGlobals mg → mg d.name = some (.ref lf) →
      ∃ fa : Nat → Addr, ∀ base : Heap, (K w.params).In base → base.Ns mainGlobals mg → FnG l.prog w (K w.params) mg base k lf (spF ⟨K w.params, fa⟩ g 1))
    (hg : ∀ ns : List Int, ns.length ≤ n → (∀ i ∈ ns, i.natAbs.log2 ≤ 2 ^ 20) → ∃ fs, g [.fz (.lst (ns.map D.int))] = some (.fz (.bl true), fs)) :
    PySem.W.WalkO q loose XP YP l.row.toRowW d [] (fun f vs => PySem.call f vs) := by
  intro w s0 s mg mb G Y lf o pm cd doc dV kV ho hd hcd hD hmg hgn args vals as hpre hlay hrd hwl hlo
  cases PySem.W.Dflts.none hD hdf
  cases PySem.W.Dflts.noKw hD
  obtain ⟨a, vs, ns, e1, e2, hobj, hints, hlen⟩ := Att.script_of hn hpre hwl
  subst e1; subst e2
  have hw : PySem.W.WData.weightAll (ns.map PySem.W.WData.int) ≤ 2 ^ 20 := by
    have h1 : (PySem.W.WData.canLay (.list (ns.map PySem.W.WData.int)) && decide (PySem.W.WData.depth (.list (ns.map PySem.W.WData.int)) ≤ 64) && decide (PySem.W.WData.weight (.list (ns.map PySem.W.WData.int)) ≤ 2 ^ 20) && true) = true := hlay
    rw [Bool.and_true, Bool.and_eq_true] at h1
    exact of_decide_eq_true h1.2
  obtain ⟨fa, hF⟩ := F w mg lf _ (hY w _ Y) G.T.g hmg
  obtain ⟨fs, hfs⟩ := hg ns hlen (bits_of hw)
  have run := law_run (hY w _ Y) G.T.g G.T.b G.T.builtins G.T.nolimit hgn hobj hints (Nat.le_trans hlen hn2) room hF hfs
  refine PySem.W.enter_call (codeAny_mono run fun r s' hq => ?_)
  obtain ⟨e3, h2, h3, h4⟩ := hq
  subst e3
  refine ⟨.inl ⟨.bool true, .bool true, [], rfl, fun _ => rfl, .bool true, Att.post_true l _, fun _ => ⟨List.Pairwise.nil, fun _ hm => ?_⟩⟩, h2, h3, h4⟩
  cases hm
end Pz
set_option Elab.async false
set_option linter.all false
set_option maxRecDepth 100000
set_option maxHeartbeats 1000000
namespace Pz
open PySem PySem.Spec L2
open PyProof.Rows hiding St
variable {c : Gc} {F H H' : Hp} {L : List (V × O)} {R : List Addr} {Γ : Cs} {e a b : Expr} {es : List Expr} {pos : Pos}

/-! ### data -/
mutual
def py : D → PyData
  | .non => .none
  | .bl b => .bool b
  | .int i => .int i
  | .str s => .str s
  | .tup ds => .tuple (pys ds)
  | .lst ds => .list (pys ds)
  | .dct _ => .dict []
  | .fn _ => .dict []
def pys : List D → List PyData
  | [] => []
  | d :: ds => py d :: pys ds
end
def okD (d : D) : Bool := SeqAt.shaped (py d)
def eqD (d e : D) : Bool := PyData.eqv (py d) (py e)
mutual
theorem rep_dp : ∀ (d : D) (v : V), (py d).canLay0 = true → RepD c H d v → Dp c.K H v (py d)
  | .non, v, _, h => by
    have h' : v = .non := h
    subst h'; exact .non
  | .bl b, v, _, h => by
    have h' : v = .bl b := h
    subst h'; exact .bl b
  | .int i, v, _, h => by
    have h' : v = .int i := h
    subst h'; exact .int i
  | .str s, v, _, h => by
    have h' : v = .str s := h
    subst h'; exact .str s
  | .tup ds, v, k, ⟨a, vs, e1, e2, e3⟩ => by
    subst e1
    exact .tup e2 (reps_dp ds vs (by simpa [py, PyData.canLay0] using k) e3)
  | .lst ds, v, k, ⟨a, vs, e1, e2, e3⟩ => by
    subst e1
    exact .lst e2 (reps_dp ds vs (by simpa [py, PyData.canLay0] using k) e3)
  | .dct _, v, k, _ => by simp [py, PyData.canLay0] at k
  | .fn _, v, k, _ => by simp [py, PyData.canLay0] at k
theorem reps_dp : ∀ (ds : List D) (vs : List V), PyData.canLayAll0 (pys ds) = true → RepDs c H ds vs → DpAll c.K H vs (pys ds)
  | [], vs, _, h => by
    have h' : vs = [] := h
    subst h'; exact .nil
  | d :: ds, vs, k, ⟨v, r, e1, e2, e3⟩ => by
    subst e1
    have k' : (py d).canLay0 = true ∧ PyData.canLayAll0 (pys ds) = true := by simpa [pys, PyData.canLayAll0] using k
    exact .cons (rep_dp d v k'.1 e2) (reps_dp ds r k'.2 e3)
end
theorem okD.dp {d : D} {v : V} (h : okD d = true) (r : RepD c H d v) : Dp c.K H v (py d) := rep_dp d v (SeqAt.canLay_of_shaped h) r

/-! ### one, two values -/
theorem Views.one {d : D} {vs : List V} (h : Views c F H [d] vs) : ∃ v, vs = [v] ∧ ViewF c F H d v := by
  obtain ⟨v, r, e, h1, h2⟩ := h
  have h2' : r = [] := h2
  subst h2'; exact ⟨v, e, h1⟩
theorem Views.two {d e : D} {vs : List V} (h : Views c F H [d, e] vs) : ∃ v w, vs = [v, w] ∧ ViewF c F H d v ∧ ViewF c F H e w := by
  obtain ⟨v, r, e1, h1, w, r2, e2, h2, h3⟩ := h
  have h3' : r2 = [] := h3
  subst h3'; subst e2; exact ⟨v, w, e1, h1, h2⟩
theorem okf_scal {d : D} {v : V} {R : List Addr} (h : OkF c F H R L) (e : scalD d = some v) : Ok c H R ((v, .fz d) :: L) := h.ok.scal e

/-! ### whole numbers -/
def fI2 (g : Int → Int → Option O) : List D → Option O
  | [.int i, .int j] => g i j
  | _ => none
theorem bi_I2 {g : Int → Int → Option O} {C : Int → Int → Prop} {gv : Int → Int → V} {gd : Int → Int → D} (hg : ∀ i j o, g i j = some o → C i j ∧ o = .fz (gd i j)) (hs : ∀ i j, scalD (gd i j) = some (gv i j)) :
    BiOk c (fI2 g) (fun vs H Q => ∃ v w, vs = [v, w] ∧ rI C gv v w H Q) := by
  intro F H L vs ds o Q e hF hv q
  unfold fI2 at e
  split at e
  · rename_i i j
    obtain ⟨v, w, e1, h1, h2⟩ := hv.two
    obtain ⟨hC, ho⟩ := hg _ _ _ e
    subst ho
    exact ⟨v, w, e1, i, j, h1.int, h2.int, hC, q _ _ (okf_scal hF (hs i j))⟩
  · cases e
theorem rI0_of {g : Int → Int → V} {x y : V} {H : Hp} {Q : VK} (h : rI (fun _ _ => True) g x y H Q) : rI0 g x y H Q := by
  obtain ⟨i, j, h1, h2, _, h3⟩ := h
  exact ⟨i, j, h1, h2, h3⟩
theorem BiOk.mono {f : List D → Option O} {r r' : List V → Hp → VK → Prop} (h : BiOk c f r) (k : ∀ vs H Q, r vs H Q → r' vs H Q) : BiOk c f r' := fun F H L vs ds o Q e hF hv q => k _ _ _ (h F H L vs ds o Q e hF hv q)
theorem BiOk.orl {f : List D → Option O} {r r' : List V → Hp → VK → Prop} (h : BiOk c f r) : BiOk c f (fun vs H Q => r vs H Q ∨ r' vs H Q) := h.mono fun _ _ _ z => .inl z
theorem BiOk.orr {f : List D → Option O} {r r' : List V → Hp → VK → Prop} (h : BiOk c f r') : BiOk c f (fun vs H Q => r vs H Q ∨ r' vs H Q) := h.mono fun _ _ _ z => .inr z
/-- by cases of the values -/
theorem BiOk.cases {f g k : List D → Option O} {r : List V → Hp → VK → Prop} (h1 : BiOk c g r) (h2 : BiOk c k r) (hf : ∀ ds o, f ds = some o → g ds = some o ∨ k ds = some o) : BiOk c f r := fun F H L vs ds o Q e hF hv q =>
  (hf ds o e).elim (fun z => h1 F H L vs ds o Q z hF hv q) (fun z => h2 F H L vs ds o Q z hF hv q)

def mulOk (i j : Int) : Bool := decide (i.natAbs.log2 + j.natAbs.log2 < 10000000)
def divOk (j : Int) : Bool := decide (j ≠ 0 ∧ j.natAbs.log2 < 9000)
def gAdd (i j : Int) : Option O := some (.fz (.int (i + j)))
def fSub : List D → Option O := fI2 fun i j => some (.fz (.int (i - j)))
def fMulI : List D → Option O := fI2 fun i j => if mulOk i j = true then some (.fz (.int (i * j))) else none
def fDiv : List D → Option O := fI2 fun i j => if divOk j = true then some (.fz (.int (i.fdiv j))) else none
def fMod : List D → Option O := fI2 fun i j => if j ≠ 0 then some (.fz (.int (i.fmod j))) else none
def fLt : List D → Option O := fI2 fun i j => some (.fz (.bl (decide (i < j))))
def fLe : List D → Option O := fI2 fun i j => some (.fz (.bl (decide (i ≤ j))))
def fGt : List D → Option O := fI2 fun i j => some (.fz (.bl (decide (j < i))))
def fGe : List D → Option O := fI2 fun i j => some (.fz (.bl (decide (j ≤ i))))
theorem mulOk.ok {i j : Int} (h : mulOk i j = true) : IntMulOk i j := by
  have b : ∀ x : Int, Builtin.Int.intBits x ≤ x.natAbs.log2 + 1 := fun x => by
    unfold Builtin.Int.intBits
    split <;> omega
  have h1 := b i
  have h2 := b j
  have h3 : i.natAbs.log2 + j.natAbs.log2 < 10000000 := of_decide_eq_true h
  have e : bitsLine = 134217728 := by decide
  unfold IntMulOk
  intro z
  rw [Bool.and_eq_true] at z
  have z2 := z.2
  unfold Builtin.Int.intTooBig at z2
  have z3 := of_decide_eq_true z2
  rw [e] at z3
  omega
theorem op_mulA {X : Cx} : OpR X (binaryOp .Mult) (rI (fun i j => mulOk i j = true) fun i j => .int (i * j)) := opI fun _ _ _ _ _ _ _ hc q => mul_int q (mulOk.ok hc)
theorem op_divA {X : Cx} : OpR X (binaryOp .FloorDiv) (rI (fun _ j => divOk j = true) fun i j => .int (i.fdiv j)) := opI fun i j _ _ _ _ _ hc q => floordiv_int (of_decide_eq_true hc).1 q (.inl (PyProof.noPylong_of_log2 (of_decide_eq_true hc).2))
theorem bi_sub : BiOk c fSub (fun vs H Q => ∃ v w, vs = [v, w] ∧ rI0 (fun i j => .int (i - j)) v w H Q) :=
  (bi_I2 (C := fun _ _ => True) (gv := fun i j => .int (i - j)) (gd := fun i j => .int (i - j)) (fun i j o h => by cases h; exact ⟨trivial, rfl⟩) fun _ _ => rfl).mono fun _ _ _ ⟨v, w, h1, h2⟩ => ⟨v, w, h1, rI0_of h2⟩
theorem bi_lt : BiOk c fLt (fun vs H Q => ∃ v w, vs = [v, w] ∧ rI0 (fun i j => .bl (decide (i < j))) v w H Q) :=
  (bi_I2 (C := fun _ _ => True) (gv := fun i j => .bl (decide (i < j))) (gd := fun i j => .bl (decide (i < j))) (fun i j o h => by cases h; exact ⟨trivial, rfl⟩) fun _ _ => rfl).mono fun _ _ _ ⟨v, w, h1, h2⟩ => ⟨v, w, h1, rI0_of h2⟩
theorem bi_le : BiOk c fLe (fun vs H Q => ∃ v w, vs = [v, w] ∧ rI0 (fun i j => .bl (decide (i ≤ j))) v w H Q) :=
  (bi_I2 (C := fun _ _ => True) (gv := fun i j => .bl (decide (i ≤ j))) (gd := fun i j => .bl (decide (i ≤ j))) (fun i j o h => by cases h; exact ⟨trivial, rfl⟩) fun _ _ => rfl).mono fun _ _ _ ⟨v, w, h1, h2⟩ => ⟨v, w, h1, rI0_of h2⟩
theorem bi_gt : BiOk c fGt (fun vs H Q => ∃ v w, vs = [v, w] ∧ rI0 (fun i j => .bl (decide (j < i))) v w H Q) :=
  (bi_I2 (C := fun _ _ => True) (gv := fun i j => .bl (decide (j < i))) (gd := fun i j => .bl (decide (j < i))) (fun i j o h => by cases h; exact ⟨trivial, rfl⟩) fun _ _ => rfl).mono fun _ _ _ ⟨v, w, h1, h2⟩ => ⟨v, w, h1, rI0_of h2⟩
theorem bi_ge : BiOk c fGe (fun vs H Q => ∃ v w, vs = [v, w] ∧ rI0 (fun i j => .bl (decide (j ≤ i))) v w H Q) :=
  (bi_I2 (C := fun _ _ => True) (gv := fun i j => .bl (decide (j ≤ i))) (gd := fun i j => .bl (decide (j ≤ i))) (fun i j o h => by cases h; exact ⟨trivial, rfl⟩) fun _ _ => rfl).mono fun _ _ _ ⟨v, w, h1, h2⟩ => ⟨v, w, h1, rI0_of h2⟩
theorem bi_mulI : BiOk c fMulI (fun vs H Q => ∃ v w, vs = [v, w] ∧ rI (fun i j => mulOk i j = true) (fun i j => .int (i * j)) v w H Q) :=
  bi_I2 (gd := fun i j => .int (i * j)) (fun i j o h => by
    split at h
    · rename_i hm; cases h; exact ⟨hm, rfl⟩
    · cases h) fun _ _ => rfl
theorem bi_div : BiOk c fDiv (fun vs H Q => ∃ v w, vs = [v, w] ∧ rI (fun _ j => divOk j = true) (fun i j => .int (i.fdiv j)) v w H Q) :=
  bi_I2 (gd := fun i j => .int (i.fdiv j)) (fun i j o h => by
    split at h
    · rename_i hm; cases h; exact ⟨hm, rfl⟩
    · cases h) fun _ _ => rfl
theorem bi_mod : BiOk c fMod (fun vs H Q => ∃ v w, vs = [v, w] ∧ rI (fun _ j => j ≠ 0) (fun i j => .int (i.fmod j)) v w H Q) :=
  bi_I2 (gd := fun i j => .int (i.fmod j)) (fun i j o h => by
    split at h
    · rename_i hm; cases h; exact ⟨hm, rfl⟩
    · cases h) fun _ _ => rfl

/-! ### + of numbers, texts, lists, tuples -/
/-- list + list, each looked at (tracked, or one's own) -/
def rCatL (K : PySem.W.Frag) : R2 := fun x y H Q => ∃ l b xs zs, x = .ref l ∧ y = .ref b ∧ SqL K H l xs ∧ SqL K H b zs ∧ xs.length + zs.length ≤ sizeLine ∧ ∀ p, H p = none → Q (.ref p) (upd H p (.lst (xs ++ zs)))
theorem op_catL {X : Cx} : OpR X (binaryOp .Add) (rCatL X.K) := by
  intro pins s σ H x y v u Q I rx ry h
  obtain ⟨l, b, xs, zs, rfl, rfl, hH, hB, hz, q⟩ := h
  cases rx
  cases ry
  obtain ⟨its, r, p1, z1⟩ := I.list hH
  obtain ⟨its2, r2, p2, z2⟩ := I.list hB
  have hl := r.length
  have hl2 := r2.length
  obtain ⟨⟨cls, dd, data, sl⟩, n1, e1, c1, d1, t1⟩ := p1
  obtain ⟨⟨cls2, dd2, data2, sl2⟩, n2, e2, c2, d2, t2⟩ := p2
  simp only at c1 d1 t1 c2 d2 t2
  subst c1 d1 t1 c2 d2 t2
  have ea : its.toArray ++ its2.toArray = (its ++ its2).toArray := by simp
  refine concat_meets ⟨_, e1, rfl⟩ ⟨_, e2, rfl⟩ noFill_list_add seq_list_add PySem.F.slot_list_add PySem.F.entry_list_add (PySem.F.args_list_add_2 _ _) (list_addW l b its.toArray its2.toArray n1 n2 none none sl sl2 (by rw [List.size_toArray, List.size_toArray]; omega)) ⟨e1, e2, ?_⟩
  rw [ea]
  exact ⟨.ref _, _, I.lnew (t' := s.toks) (r.append r2) (by rw [List.length_append]; omega), rfl, q _ I.fresh⟩

def lenS (x : Str) : Nat := x.length
def fAdd : List D → Option O
  | [.int i, .int j] => some (.fz (.int (i + j)))
  | [.str x, .str y] => if lenS x + lenS y ≤ cap then some (.fz (.str (x ++ y))) else none
  | [.lst xs, .lst ys] => if xs.length + ys.length ≤ cap then some (.ol ((xs ++ ys).map O.fz)) else none
  | [.tup xs, .tup ys] => if xs.length + ys.length ≤ cap then some (.fz (.tup (xs ++ ys))) else none
  | _ => none
def rAddA (K : PySem.W.Frag) : R2 := fun x y H Q => ((rI0 (fun i j => .int (i + j)) x y H Q ∨ ∃ i j, x = .str i ∧ y = .str j ∧ i.length + j.length ≤ sizeLine ∧ Q (.str (i ++ j)) H) ∨ rCatL K x y H Q) ∨ rCatA K x y H Q
theorem op_addA {X : Cx} : OpR X (binaryOp .Add) (rAddA X.K) := OpR.or (OpR.or (OpR.or op_add op_add_str) op_catL) op_catA
theorem RepDs.len : ∀ {ds : List D} {vs : List V}, RepDs c F ds vs → vs.length = ds.length
  | [], _, h => by
    have h' : _ = [] := h
    subst h'; rfl
  | d :: ds, _, ⟨v, r, e, h1, h2⟩ => by subst e; simp [RepDs.len h2]
theorem RepDs.app : ∀ {xs ys : List D} {vs ws : List V}, RepDs c F xs vs → RepDs c F ys ws → RepDs c F (xs ++ ys) (vs ++ ws)
  | [], _, _, _, h, k => by
    have h' : _ = [] := h
    subst h'; exact k
  | d :: ds, _, _, _, ⟨v, r, e, h1, h2⟩, k => by subst e; exact ⟨v, _, rfl, h1, RepDs.app h2 k⟩
/-- a new list, a new tuple of frozen things -/
theorem OkF.newL {ds : List D} {vs : List V} {p : Addr} (h : OkF c F H [] L) (r : RepDs c F ds vs) (hp : H p = none) : Ok c (upd H p (.lst vs)) [] ((.ref p, .ol (ds.map O.fz)) :: L) :=
  (h.adds r).ok.new_l (by rw [r.len, List.length_map]) hp
theorem OkF.newT {ds : List D} {vs : List V} {p : Addr} (h : OkF c F H [] L) (r : RepDs c F ds vs) (hp : H p = none) : Ok c (upd H p (.tup vs)) [] ((.ref p, .fz (.tup ds)) :: L) :=
  (h.adds r).ok.new_t (by rw [r.len]) hp
theorem ViewF.tupF {ds : List D} {v : V} (h : ViewF c F H (.tup ds) v) : RepD c F (.tup ds) v := by
  rcases h with z | ⟨_, _, _, _, z, _⟩ | ⟨_, _, _, _, z, _⟩
  · exact z
  · cases z
  · cases z
theorem bi_add : BiOk c fAdd (fun vs H Q => ∃ v w, vs = [v, w] ∧ rAddA c.K v w H Q) := by
  intro F H L vs ds o Q e hF hv q
  unfold fAdd at e
  split at e
  · cases e
    obtain ⟨v, w, e1, h1, h2⟩ := hv.two
    exact ⟨v, w, e1, .inl (.inl (.inl ⟨_, _, h1.int, h2.int, q _ _ (okf_scal hF rfl)⟩))⟩
  · split at e
    · rename_i hc
      cases e
      obtain ⟨v, w, e1, h1, h2⟩ := hv.two
      exact ⟨v, w, e1, .inl (.inl (.inr ⟨_, _, h1.str, h2.str, Nat.le_trans hc cap_line, q _ _ (okf_scal hF rfl)⟩))⟩
    · cases e
  · split at e
    · rename_i hc
      cases e
      obtain ⟨v, w, e1, h1, h2⟩ := hv.two
      obtain ⟨l, xs, a1, a2, a3⟩ := h1.list hF.same
      obtain ⟨b, ys, b1, b2, b3⟩ := h2.list hF.same
      exact ⟨v, w, e1, .inl (.inr ⟨l, b, xs, ys, a1, b1, a2, b2, by rw [a3.len, b3.len]; exact Nat.le_trans hc cap_line, fun p hp => q _ _ (hF.newL (a3.app b3) hp)⟩)⟩
    · cases e
  · split at e
    · rename_i hc
      cases e
      obtain ⟨v, w, e1, h1, h2⟩ := hv.two
      obtain ⟨l, xs, a1, a2, a3⟩ := h1.tup hF.same
      obtain ⟨b, ys, b1, b2, b3⟩ := h2.tup hF.same
      have r1 := h1.tupF
      have r2 := h2.tupF
      have nil_of : ∀ {ds : List D} {vs : List V}, RepDs c F ds vs → vs = [] → ds = [] := fun {ds vs} r e => by
        cases ds with
        | nil => rfl
        | cons d ds => obtain ⟨_, _, e', _⟩ := r; rw [e] at e'; cases e'
      refine ⟨v, w, e1, .inr ⟨l, b, xs, ys, a1, b1, a2, b2, by rw [a3.len, b3.len]; exact Nat.le_trans hc cap_line, fun z => ?_, fun _ z => ?_, fun _ _ p hp => q _ _ (hF.newT (a3.app b3) hp)⟩⟩
      · have z' := nil_of a3 z
        subst z'
        rw [← b1]
        exact q w H (hF.add r2).ok
      · have z' := nil_of b3 z
        subst z'
        rw [← a1, List.append_nil] at *
        exact q v H (hF.add r1).ok
    · cases e
  · cases e

/-! ### == and != of data -/
def fEq : List D → Option O
  | [d, e] => if (okD d && okD e) = true then some (.fz (.bl (eqD d e))) else none
  | _ => none
def fNe : List D → Option O
  | [d, e] => if (okD d && okD e) = true then some (.fz (.bl (!eqD d e))) else none
  | _ => none
theorem bi_eq : BiOk c fEq (fun vs H Q => ∃ v w, vs = [v, w] ∧ rEqD c.K v w H Q) := by
  intro F H L vs ds o Q e hF hv q
  unfold fEq at e
  split at e
  · split at e
    · rename_i hk
      cases e
      rw [Bool.and_eq_true] at hk
      obtain ⟨v, w, e1, h1, h2⟩ := hv.two
      exact ⟨v, w, e1, _, _, okD.dp hk.1 (h1.rep hF.same), okD.dp hk.2 (h2.rep hF.same), hk.1, hk.2, q _ _ (okf_scal hF rfl)⟩
    · cases e
  · cases e
theorem bi_ne : BiOk c fNe (fun vs H Q => ∃ v w, vs = [v, w] ∧ rNeD c.K v w H Q) := by
  intro F H L vs ds o Q e hF hv q
  unfold fNe at e
  split at e
  · split at e
    · rename_i hk
      cases e
      rw [Bool.and_eq_true] at hk
      obtain ⟨v, w, e1, h1, h2⟩ := hv.two
      exact ⟨v, w, e1, _, _, okD.dp hk.1 (h1.rep hF.same), okD.dp hk.2 (h2.rep hF.same), hk.1, hk.2, q _ _ (okf_scal hF rfl)⟩
    · cases e
  · cases e

/-! ### in, not in -/
def flatD : D → Bool
  | .non | .bl _ | .int _ | .str _ => true
  | _ => false
theorem flat_rep {d : D} {v : V} (k : flatD d = true) (r : RepD c F d v) : flatV v = true ∧ scalD d = some v := by
  cases d with
  | non => have r' : v = _ := r; subst r'; exact ⟨rfl, rfl⟩
  | bl b => have r' : v = _ := r; subst r'; exact ⟨rfl, rfl⟩
  | int b => have r' : v = _ := r; subst r'; exact ⟨rfl, rfl⟩
  | str b => have r' : v = _ := r; subst r'; exact ⟨rfl, rfl⟩
  | _ => cases k
theorem eqV_eqD {d e : D} {v w : V} (h1 : scalD d = some v) (h2 : scalD e = some w) : eqV v w = eqD d e := by
  cases d <;> cases h1 <;> cases e <;> cases h2 <;> rfl
theorem flat_reps : ∀ {ds : List D} {vs : List V}, ds.all flatD = true → RepDs c F ds vs → vs.all flatV = true
  | [], vs, _, h => by
    have h' : vs = [] := h
    subst h'; rfl
  | d :: ds, vs, k, ⟨v, r, e, h1, h2⟩ => by
    subst e
    rw [List.all_cons, Bool.and_eq_true] at k
    rw [List.all_cons, (flat_rep k.1 h1).1, flat_reps k.2 h2]; rfl
theorem inV_inD {d : D} {v : V} (h0 : scalD d = some v) : ∀ {ds : List D} {vs : List V}, ds.all flatD = true → RepDs c F ds vs → inV v vs = ds.any fun z => eqD z d
  | [], vs, _, h => by
    have h' : vs = [] := h
    subst h'; rfl
  | z :: ds, vs, k, ⟨w, r, e, h1, h2⟩ => by
    subst e
    rw [List.all_cons, Bool.and_eq_true] at k
    have ih := inV_inD h0 k.2 h2
    unfold inV at ih ⊢
    rw [List.any_cons, List.any_cons, ih, eqV_eqD (flat_rep k.1 h1).2 h0]
theorem pys_map : ∀ ds : List D, pys ds = ds.map py
  | [] => rfl
  | _ :: ds => by simp [pys, pys_map ds]
def anyEq (ds : List D) (d : D) : Bool := ds.any fun z => eqD z d
theorem any_eqv (d : D) (ds : List D) : (pys ds).any (fun z => PyData.eqv z (py d)) = anyEq ds d := by
  unfold anyEq
  rw [pys_map, List.any_map]
  rfl
/-- one sign in a text -/
def oneSign (x : Str) : Option Nat := match x.cps.toList with
  | [n] => some n
  | _ => none
def memD (d : D) : D → Option Bool
  | .lst ds => if (flatD d && ds.all flatD) = true then some (anyEq ds d) else if (okD d && okD (.lst ds)) = true then some (anyEq ds d) else none
  | .tup ds => if (flatD d && ds.all flatD) = true then some (anyEq ds d) else none
  | .str y => match d with
    | .str x => match oneSign x with
      | some n => some (decide (n ∈ y.cps.toList))
      | none => none
    | _ => none
  | _ => none
def fIn : List D → Option O
  | [d, e] => (memD d e).map fun b => .fz (.bl b)
  | _ => none
def fNotIn : List D → Option O
  | [_, .str _] => none
  | [d, e] => (memD d e).map fun b => .fz (.bl (!b))
  | _ => none
def rInA (K : PySem.W.Frag) : R2 := fun x y H Q => (rIn K false x y H Q ∨ rInD K x y H Q) ∨ ∃ (c : Nat) (z : Str), x = .str ⟨#[c]⟩ ∧ y = .str z ∧ Q (.bl (decide (c ∈ z.cps.toList))) H
theorem op_inA {X : Cx} (hu : X.A.units + 65 < cLine) : OpR X (compareOp .In) (rInA X.K) := OpR.or (OpR.or op_in_seq (op_inD hu)) op_in_sign
def rNotInA (K : PySem.W.Frag) : R2 := fun x y H Q => rIn K true x y H Q ∨ rNotInD K x y H Q
theorem op_notInA {X : Cx} (hu : X.A.units + 65 < cLine) : OpR X (compareOp .NotIn) (rNotInA X.K) := OpR.or op_notIn_seq (op_notInD hu)
theorem bi_in : BiOk c fIn (fun vs H Q => ∃ v w, vs = [v, w] ∧ rInA c.K v w H Q) := by
  intro F H L vs ds o Q e hF hv q
  unfold fIn at e
  split at e
  · rename_i d e2
    obtain ⟨v, w, e1, h1, h2⟩ := hv.two
    refine ⟨v, w, e1, ?_⟩
    cases e2 with
    | lst ds =>
      simp only [memD] at e
      split at e
      · rename_i hk
        cases e
        rw [Bool.and_eq_true] at hk
        obtain ⟨l, xs, a1, a2, a3⟩ := h2.list hF.same
        obtain ⟨f1, f2⟩ := flat_rep hk.1 (h1.rep hF.same)
        refine .inl (.inl ⟨l, xs, a1, .inl a2, f1, flat_reps hk.2 a3, ?_⟩)
        rw [if_neg Bool.false_ne_true, inV_inD f2 hk.2 a3]
        exact q _ _ (okf_scal hF rfl)
      · split at e
        · rename_i hk
          cases e
          rw [Bool.and_eq_true] at hk
          refine .inl (.inr ⟨py d, pys ds, okD.dp hk.1 (h1.rep hF.same), okD.dp hk.2 (h2.rep hF.same), hk.1, hk.2, ?_⟩)
          rw [any_eqv]
          exact q _ _ (okf_scal hF rfl)
        · cases e
    | tup ds =>
      simp only [memD] at e
      split at e
      · rename_i hk
        cases e
        rw [Bool.and_eq_true] at hk
        obtain ⟨l, xs, a1, a2, a3⟩ := h2.tup hF.same
        obtain ⟨f1, f2⟩ := flat_rep hk.1 (h1.rep hF.same)
        refine .inl (.inl ⟨l, xs, a1, .inr a2, f1, flat_reps hk.2 a3, ?_⟩)
        rw [if_neg Bool.false_ne_true, inV_inD f2 hk.2 a3]
        exact q _ _ (okf_scal hF rfl)
      · cases e
    | str y =>
      cases d with
      | str x =>
        simp only [memD] at e
        split at e
        · rename_i n hn
          cases e
          have ex : x = ⟨#[n]⟩ := by
            unfold oneSign at hn
            split at hn
            · rename_i m hm
              cases hn
              obtain ⟨cps⟩ := x
              simp only [Str.mk.injEq]
              simp only at hm
              exact Array.toList_inj.mp (by simpa using hm)
            · cases hn
          subst ex
          exact .inr ⟨n, y, h1.str, h2.str, q _ _ (okf_scal hF rfl)⟩
        · cases e
      | _ => simp only [memD] at e; cases e
    | _ => simp only [memD] at e; cases e
  · cases e
theorem bi_notIn : BiOk c fNotIn (fun vs H Q => ∃ v w, vs = [v, w] ∧ rNotInA c.K v w H Q) := by
  intro F H L vs ds o Q e hF hv q
  unfold fNotIn at e
  split at e
  · cases e
  · rename_i d e2 hns
    obtain ⟨v, w, e1, h1, h2⟩ := hv.two
    refine ⟨v, w, e1, ?_⟩
    cases e2 with
    | lst ds =>
      simp only [memD] at e
      split at e
      · rename_i hk
        cases e
        rw [Bool.and_eq_true] at hk
        obtain ⟨l, xs, a1, a2, a3⟩ := h2.list hF.same
        obtain ⟨f1, f2⟩ := flat_rep hk.1 (h1.rep hF.same)
        refine .inl ⟨l, xs, a1, .inl a2, f1, flat_reps hk.2 a3, ?_⟩
        rw [if_pos rfl, inV_inD f2 hk.2 a3]
        exact q _ _ (okf_scal hF rfl)
      · split at e
        · rename_i hk
          cases e
          rw [Bool.and_eq_true] at hk
          refine .inr ⟨py d, pys ds, okD.dp hk.1 (h1.rep hF.same), okD.dp hk.2 (h2.rep hF.same), hk.1, hk.2, ?_⟩
          rw [any_eqv]
          exact q _ _ (okf_scal hF rfl)
        · cases e
    | tup ds =>
      simp only [memD] at e
      split at e
      · rename_i hk
        cases e
        rw [Bool.and_eq_true] at hk
        obtain ⟨l, xs, a1, a2, a3⟩ := h2.tup hF.same
        obtain ⟨f1, f2⟩ := flat_rep hk.1 (h1.rep hF.same)
        refine .inl ⟨l, xs, a1, .inr a2, f1, flat_reps hk.2 a3, ?_⟩
        rw [if_pos rfl, inV_inD f2 hk.2 a3]
        exact q _ _ (okf_scal hF rfl)
      · cases e
    | str y =>
      exact (hns y rfl).elim
    | _ => simp only [memD] at e; cases e
  · cases e
end Pz
set_option Elab.async false
set_option linter.all false
set_option maxRecDepth 100000
set_option maxHeartbeats 1000000
namespace Pz
open PySem PySem.Spec L2
open PyProof.Rows hiding St
variable {c : Gc} {F H H' : Hp} {L : List (V × O)} {R : List Addr} {Γ : Cs} {e a b : Expr} {es : List Expr} {pos : Pos}

/-! ### either meaning -/
theorem se_either {f f1 f2 : List D → Option O} {as : AL} (h1 : SoundE Γ e (eBi f1 as)) (h2 : SoundE Γ e (eBi f2 as)) (hf : ∀ ds o, f ds = some o → f1 ds = some o ∨ f2 ds = some o) : SoundE Γ e (eBi f as) := by
  obtain ⟨t, a1, a2⟩ := h1
  obtain ⟨u, b1, b2⟩ := h2
  refine ⟨_, fun X hX => PE.or (a1 X hX) (b1 X hX), fun σ S T H o S' ee hh Q q => ?_⟩
  have key : eBi f1 as S = some (o, S') ∨ eBi f2 as S = some (o, S') := by
    unfold eBi at ee ⊢
    split at ee
    · rename_i xs S1 e1
      split at ee
      · rename_i ds S2 e2
        split at ee
        · rename_i o' e3
          cases ee
          rcases hf _ _ e3 with z | z
          · exact .inl (by rw [z])
          · exact .inr (by rw [z])
        · cases ee
      · cases ee
    · cases ee
  rcases key with z | z
  · exact .inl (a2 σ S T H o S' z hh Q q)
  · exact .inr (b2 σ S T H o S' z hh Q q)

/-! ### a built-in by its name -/
theorem se_callB {f : List D → Option O} {r : List V → Hp → VK → Prop} {as : AL} {id : String} {x : Str} {p : Pos} (hc : ∀ X, XOk Γ X → CallR X (.builtin id) r) (hg : Γ.sc.names.lookup x = some .globalImplicit) (hm : Γ.mg x = none) (hv : bootBuiltins x = some (.builtin id)) (ha : SoundA Γ (e :: es) as) (hr : BiOk Γ.c f r)
    (hn : x ≠ "__name__") (hdb : (x == ("__debug__" : Str)) = false) (he : ∀ env, starEach (e :: es) env = (false, eval e env) :: starEach es env) (hpl : ∀ env, (backTo pos (starEach es env)).any (·.1) = false) : SoundE Γ (.Call (.Name x p) (e :: es) [] pos) (eBi f as) :=
  se_bi ha (fun X hX t ht => pe_callB (hc X hX) (by show X.env.scope.names.lookup _ = _; rw [← hX.sc]; exact hg) (by rw [← hX.mg]; exact hm) hv ht hn hdb (he _) (hpl _)) hr
theorem se_callTy {f : List D → Option O} {r : List V → Hp → VK → Prop} {as : AL} {T : String} {x : Str} {p : Pos} (hc : ∀ X, XOk Γ X → CallR X (.type T) r) (hg : Γ.sc.names.lookup x = some .globalImplicit) (hm : Γ.mg x = none) (hv : bootBuiltins x = some (.type T)) (ha : SoundA Γ (e :: es) as) (hr : BiOk Γ.c f r)
    (hn : x ≠ "__name__") (hdb : (x == ("__debug__" : Str)) = false) (he : ∀ env, starEach (e :: es) env = (false, eval e env) :: starEach es env) (hpl : ∀ env, (backTo pos (starEach es env)).any (·.1) = false) : SoundE Γ (.Call (.Name x p) (e :: es) [] pos) (eBi f as) :=
  se_bi ha (fun X hX t ht => pe_callTy (hc X hX) (by show X.env.scope.names.lookup _ = _; rw [← hX.sc]; exact hg) (by rw [← hX.mg]; exact hm) hv ht hn hdb (he _) (hpl _)) hr

/-! ### items -/
theorem klook : ∀ {kvs : List (Key × D)} {ps : List (Key × V)} {k : Key}, RepDk c F kvs ps → (∀ d, kLook kvs k = some d → ∃ v, valV ps k = some v ∧ RepD c F d v) ∧ (kLook kvs k = none → valV ps k = none)
  | [], ps, k, h => by
    have h' : ps = [] := h
    subst h'
    exact ⟨fun d z => (nomatch z), fun _ => rfl⟩
  | (k', d') :: kvs, ps, k, ⟨v, r, e, h1, h2⟩ => by
    subst e
    obtain ⟨q1, q2⟩ := klook (k := k) h2
    by_cases hk : k' = k
    · subst hk
      refine ⟨fun d z => ⟨v, valV_pos rfl, ?_⟩, fun z => ?_⟩
      · have : d' = d := by simpa [kLook] using z
        rw [← this]; exact h1
      · simp [kLook] at z
    · have e1 : kLook ((k', d') :: kvs) k = kLook kvs k := by simp [kLook, List.find?_cons, hk]
      have e2 : valV ((k', v) :: r) k = valV r k := valV_neg hk
      rw [e1, e2]
      exact ⟨q1, q2⟩
def fIdxS : List D → Option O
  | [.lst ds, .int i] => (atI ds i).map O.fz
  | [.tup ds, .int i] => (atI ds i).map O.fz
  | [.str x, .int i] => if lenS x ≤ cap then (atI x.cps.toList i).map fun n => .fz (.str ⟨#[n]⟩) else none
  | _ => none
def fIdxD : List D → Option O
  | [.dct kvs, k] => match keyD k with
    | some k' => (kLook kvs k').map O.fz
    | none => none
  | _ => none
def fIdx (ds : List D) : Option O := match fIdxS ds with
  | some o => some o
  | none => fIdxD ds
theorem RepDs.at : ∀ {ds : List D} {vs : List V} {i : Nat} {d : D}, RepDs c F ds vs → ds[i]? = some d → ∃ v, vs[i]? = some v ∧ RepD c F d v
  | [], _, i, d, _, h => by simp at h
  | d :: ds, _, 0, d', ⟨v, r, e, h1, h2⟩, h => by
    simp at h; subst h; subst e
    exact ⟨v, rfl, h1⟩
  | d :: ds, _, i + 1, d', ⟨v, r, e, h1, h2⟩, h => by
    subst e
    obtain ⟨w, q1, q2⟩ := RepDs.at (i := i) h2 (by simpa using h)
    exact ⟨w, by simpa using q1, q2⟩
theorem RepDs.atI {ds : List D} {vs : List V} {i : Int} {d : D} (h : RepDs c F ds vs) (e : L2.atI ds i = some d) : ∃ v, L2.atI vs i = some v ∧ RepD c F d v := by
  unfold L2.atI at e ⊢
  rw [h.len]
  cases hn : ixN ds.length i with
  | none => rw [hn] at e; cases e
  | some j =>
    rw [hn] at e
    exact h.at e
theorem bi_idxS : BiOk c fIdxS (fun vs H Q => ∃ v w, vs = [v, w] ∧ rIx c.K v w H Q) := by
  intro F H L vs ds o Q e hF hv q
  unfold fIdxS at e
  split at e
  · rename_i ds i
    cases h0 : atI ds i with
    | none => rw [h0] at e; cases e
    | some d =>
      rw [h0] at e; cases e
      obtain ⟨v, w, e1, h1, h2⟩ := hv.two
      obtain ⟨l, xs, a1, a2, a3⟩ := h1.list hF.same
      obtain ⟨z, b1, b2⟩ := a3.atI h0
      exact ⟨v, w, e1, .inl ⟨l, xs, i, z, a1, h2.int, a2, b1, q _ _ (hF.add b2).ok⟩⟩
  · rename_i ds i
    cases h0 : atI ds i with
    | none => rw [h0] at e; cases e
    | some d =>
      rw [h0] at e; cases e
      obtain ⟨v, w, e1, h1, h2⟩ := hv.two
      obtain ⟨l, xs, a1, a2, a3⟩ := h1.tup hF.same
      obtain ⟨z, b1, b2⟩ := a3.atI h0
      exact ⟨v, w, e1, .inr (.inl ⟨l, xs, i, z, a1, h2.int, a2, b1, q _ _ (hF.add b2).ok⟩)⟩
  · rename_i x i
    split at e
    · rename_i hx
      cases h0 : atI x.cps.toList i with
      | none => rw [h0] at e; cases e
      | some n =>
        rw [h0] at e; cases e
        obtain ⟨v, w, e1, h1, h2⟩ := hv.two
        exact ⟨v, w, e1, .inr (.inr ⟨x, i, n, h1.str, h2.int, Nat.le_trans hx cap_line, h0, q _ _ (okf_scal hF rfl)⟩)⟩
    · cases e
  · cases e
theorem keyD_v {k : D} {k' : Key} {v : V} (e : keyD k = some k') (h : ViewF c F H k v) : v = kV k' := by
  cases k with
  | int i => cases e; exact h.int
  | str s => cases e; exact h.str
  | _ => cases e
theorem bi_idxD : BiOk c fIdxD (fun vs H Q => ∃ v w, vs = [v, w] ∧ ∃ a v', v = V.ref a ∧ DGet H a w (some v') ∧ Q v' H) := by
  intro F H L vs ds o Q e hF hv q
  unfold fIdxD at e
  split at e
  · rename_i kvs k
    split at e
    · rename_i k' hk
      cases h0 : kLook kvs k' with
      | none => rw [h0] at e; cases e
      | some d =>
        rw [h0] at e; cases e
        obtain ⟨v, w, e1, h1, h2⟩ := hv.two
        obtain ⟨l, ps, a1, a2, a3⟩ := h1.dict hF.same
        obtain ⟨z, b1, b2⟩ := (klook a3).1 _ h0
        refine ⟨v, w, e1, l, z, a1, .inl ⟨ps, k', a2, keyD_v hk h2, b1.symm⟩, q _ _ (hF.add b2).ok⟩
    · cases e
  · cases e
theorem se_idx {x y : AE} (hx : SoundA1 Γ a x) (hy : SoundA1 Γ b y) (h1 : PlainIx b) (h2 : NoSl b) : SoundE Γ (.Subscript a b pos) (eBi fIdx (aCons x (aCons y aNil))) :=
  se_either (f1 := fIdxS) (f2 := fIdxD) (se_op (r := rIx Γ.K) hx hy (fun X hX t u ht hu => by rw [hX.K]; exact pe_ix ix_seq ht hu h1) bi_idxS)
    (se_op (r := fun v w H Q => ∃ a v', v = V.ref a ∧ DGet H a w (some v') ∧ Q v' H) hx hy (fun X hX t u ht hu => pe_dget (hu_of hX.room) ht hu h2) bi_idxD)
    (fun ds o e => by
      unfold fIdx at e
      split at e
      · cases e; exact .inl ‹_›
      · exact .inr e)

/-! ### in a dict -/
def fInD : List D → Option O
  | [k, .dct kvs] => match keyD k with
    | some k' => some (.fz (.bl (kLook kvs k').isSome))
    | none => none
  | _ => none
def fNotInD : List D → Option O
  | [k, .dct kvs] => match keyD k with
    | some k' => some (.fz (.bl (!(kLook kvs k').isSome)))
    | none => none
  | _ => none
theorem klook_some {kvs : List (Key × D)} {ps : List (Key × V)} {k : Key} (h : RepDk c F kvs ps) : (valV ps k).isSome = (kLook kvs k).isSome := by
  obtain ⟨q1, q2⟩ := klook (k := k) h
  cases e : kLook kvs k with
  | none => rw [q2 e]; rfl
  | some d => obtain ⟨v, e1, _⟩ := q1 d e; rw [e1]; rfl
theorem bi_inD : BiOk c fInD (fun vs H Q => ∃ v w, vs = [v, w] ∧ ∃ a o, w = V.ref a ∧ DGet H a v o ∧ Q (.bl o.isSome) H) := by
  intro F H L vs ds o Q e hF hv q
  unfold fInD at e
  split at e
  · rename_i k kvs
    split at e
    · rename_i k' hk
      cases e
      obtain ⟨v, w, e1, h1, h2⟩ := hv.two
      obtain ⟨l, ps, a1, a2, a3⟩ := h2.dict hF.same
      refine ⟨v, w, e1, l, _, a1, .inl ⟨ps, k', a2, keyD_v hk h1, rfl⟩, ?_⟩
      rw [klook_some a3]
      exact q _ _ (okf_scal hF rfl)
    · cases e
  · cases e
theorem bi_notInD : BiOk c fNotInD (fun vs H Q => ∃ v w, vs = [v, w] ∧ ∃ a o, w = V.ref a ∧ DGet H a v o ∧ Q (.bl (!o.isSome)) H) := by
  intro F H L vs ds o Q e hF hv q
  unfold fNotInD at e
  split at e
  · rename_i k kvs
    split at e
    · rename_i k' hk
      cases e
      obtain ⟨v, w, e1, h1, h2⟩ := hv.two
      obtain ⟨l, ps, a1, a2, a3⟩ := h2.dict hF.same
      refine ⟨v, w, e1, l, _, a1, .inl ⟨ps, k', a2, keyD_v hk h1, rfl⟩, ?_⟩
      rw [klook_some a3]
      exact q _ _ (okf_scal hF rfl)
    · cases e
  · cases e
def fInA (ds : List D) : Option O := match fIn ds with
  | some o => some o
  | none => fInD ds
def fNotInA (ds : List D) : Option O := match fNotIn ds with
  | some o => some o
  | none => fNotInD ds
theorem st_either {f f1 f2 : List D → Option O} {as : AL} (h1 : SoundT Γ e (tE (eBi f1 as))) (h2 : SoundT Γ e (tE (eBi f2 as))) (hf : ∀ ds o, f ds = some o → f1 ds = some o ∨ f2 ds = some o) : SoundT Γ e (tE (eBi f as)) := by
  obtain ⟨t, a1, a2⟩ := h1
  obtain ⟨u, b1, b2⟩ := h2
  refine ⟨fun σ H Q => t σ H Q ∨ u σ H Q, fun X hX => ⟨fun pins s σ H Q I hw => hw.elim ((a1 X hX).run pins s σ H Q I) ((b1 X hX).run pins s σ H Q I)⟩, fun σ S T H o S' ee hh Q q => ?_⟩
  have key : tE (eBi f1 as) S = some (o, S') ∨ tE (eBi f2 as) S = some (o, S') := by
    unfold tE eBi at ee ⊢
    split at ee
    · rename_i bb S0 e0
      cases ee
      split at e0
      · rename_i xs S1 e1
        split at e0
        · rename_i ds S2 e2
          split at e0
          · rename_i o' e3
            cases e0
            rcases hf _ _ e3 with z | z
            · exact .inl (by simp only [e2, z])
            · exact .inr (by simp only [e2, z])
          · cases e0
        · cases e0
      · cases e0
    · cases ee
  rcases key with z | z
  · exact .inl (a2 σ S T H o S' z hh Q q)
  · exact .inr (b2 σ S T H o S' z hh Q q)
theorem units_of {X : Cx} (hX : XOk Γ X) : X.A.units + 65 < cLine := by have := hX.room.un; omega
theorem se_in {x y : AE} (hx : SoundA1 Γ a x) (hy : SoundA1 Γ b y) (hm : behindInMarks .In b = false) : SoundE Γ (.Compare a [.In] [b] pos) (eBi fInA (aCons x (aCons y aNil))) :=
  se_either (f1 := fIn) (f2 := fInD) (se_cmp (r := rInA Γ.K) hx hy (fun X hX => by rw [hX.K]; exact op_inA (units_of hX)) hm bi_in)
    (se_op (r := fun v w H Q => ∃ a o, w = V.ref a ∧ DGet H a v o ∧ Q (.bl o.isSome) H) hx hy (fun X hX t u ht hu => pe_cmp (pc_din (hu_of hX.room) ht hu) hm) bi_inD)
    (fun ds o e => by
      unfold fInA at e
      split at e
      · cases e; exact .inl ‹_›
      · exact .inr e)
theorem se_notIn {x y : AE} (hx : SoundA1 Γ a x) (hy : SoundA1 Γ b y) (hm : behindInMarks .NotIn b = false) : SoundE Γ (.Compare a [.NotIn] [b] pos) (eBi fNotInA (aCons x (aCons y aNil))) :=
  se_either (f1 := fNotIn) (f2 := fNotInD) (se_cmp (r := rNotInA Γ.K) hx hy (fun X hX => by rw [hX.K]; exact op_notInA (units_of hX)) hm bi_notIn)
    (se_op (r := fun v w H Q => ∃ a o, w = V.ref a ∧ DGet H a v o ∧ Q (.bl (!o.isSome)) H) hx hy (fun X hX t u ht hu => pe_cmp (pc_dnotin (hu_of hX.room) ht hu) hm) bi_notInD)
    (fun ds o e => by
      unfold fNotInA at e
      split at e
      · cases e; exact .inl ‹_›
      · exact .inr e)
/-- a comparison by its PC, as a test -/
theorem st_pc {f : List D → Option O} {r : R2} {x y : AE} {op : CmpOp} (hx : SoundA1 Γ a x) (hy : SoundA1 Γ b y) (ho : ∀ X, XOk Γ X → ∀ t u, PE X a t → PE X b u → PC X op a b (tOp r t u)) (hm : behindInMarks op b = false) (hr : BiOk Γ.c f (fun vs H Q => ∃ v w, vs = [v, w] ∧ r v w H Q)) :
    SoundT Γ (.Compare a [op] [b] pos) (tE (eBi f (aCons x (aCons y aNil)))) := by
  obtain ⟨t, h1, h2⟩ := hx
  obtain ⟨u, g1, g2⟩ := hy
  refine ⟨_, fun X hX => pt_cmp (ho X hX t u (h1 X hX) (g1 X hX)) hm, fun σ S T H b S' ee h Q q => ?_⟩
  unfold tE at ee
  split at ee
  · rename_i b' S1 e1
    cases ee
    exact se_op_read h2 g2 hr e1 h fun v H1 k1 => ⟨b, by have := k1.hd.rep; exact this, q H1 k1.drop⟩
  · cases ee
theorem st_in {x y : AE} (hx : SoundA1 Γ a x) (hy : SoundA1 Γ b y) (hm : behindInMarks .In b = false) : SoundT Γ (.Compare a [.In] [b] pos) (tE (eBi fInA (aCons x (aCons y aNil)))) :=
  st_either (f1 := fIn) (f2 := fInD) (st_cmp (r := rInA Γ.K) hx hy (fun X hX => by rw [hX.K]; exact op_inA (units_of hX)) hm bi_in)
    (st_pc (r := fun v w H Q => ∃ a o, w = V.ref a ∧ DGet H a v o ∧ Q (.bl o.isSome) H) hx hy (fun X hX t u ht hu => pc_din (hu_of hX.room) ht hu) hm bi_inD)
    (fun ds o e => by
      unfold fInA at e
      split at e
      · cases e; exact .inl ‹_›
      · exact .inr e)
theorem st_notIn {x y : AE} (hx : SoundA1 Γ a x) (hy : SoundA1 Γ b y) (hm : behindInMarks .NotIn b = false) : SoundT Γ (.Compare a [.NotIn] [b] pos) (tE (eBi fNotInA (aCons x (aCons y aNil)))) :=
  st_either (f1 := fNotIn) (f2 := fNotInD) (st_cmp (r := rNotInA Γ.K) hx hy (fun X hX => by rw [hX.K]; exact op_notInA (units_of hX)) hm bi_notIn)
    (st_pc (r := fun v w H Q => ∃ a o, w = V.ref a ∧ DGet H a v o ∧ Q (.bl (!o.isSome)) H) hx hy (fun X hX t u ht hu => pc_dnotin (hu_of hX.room) ht hu) hm bi_notInD)
    (fun ds o e => by
      unfold fNotInA at e
      split at e
      · cases e; exact .inl ‹_›
      · exact .inr e)

/-! ### is None, is True -/
def isNon : D → Bool
  | .non => true
  | _ => false
def fIsN : List D → Option O
  | [d] => some (.fz (.bl (isNon d)))
  | _ => none
def fNotN : List D → Option O
  | [d] => some (.fz (.bl (!isNon d)))
  | _ => none
theorem isNon_v {d : D} {v : V} (h : ViewF c F H d v) (hs : Same F H) : decide (v = .non) = isNon d := by
  have h' := h.rep hs
  cases d with
  | non => have e : v = _ := h'; subst e; rfl
  | bl b => have e : v = _ := h'; subst e; rfl
  | int i => have e : v = _ := h'; subst e; rfl
  | str s => have e : v = _ := h'; subst e; rfl
  | tup ds => obtain ⟨a, vs, e, _⟩ := h'; subst e; rfl
  | lst ds => obtain ⟨a, vs, e, _⟩ := h'; subst e; rfl
  | dct ds => obtain ⟨a, vs, e, _⟩ := h'; subst e; rfl
  | fn f => have e : v = _ := h'; subst e; rfl
theorem look1 {f : List D → Option O} {x : AE} {t : TE} {σ : L2.St} {S S' : Env} {T : List (V × O)} {H : Hp} {o : O} {Q : VK} {r : V → Hp → VK → Prop}
    (h2 : ∀ σ S T H x1 S', x S = some (x1, S') → StOk c σ S T H → ∀ Q, (∀ v H', RefOk σ [x1] [v] → StOk c σ S' (tmps [x1] [v] ++ T) H' → Q v H') → t σ H Q)
    (hr : BiOk c f (fun vs H Q => ∃ v, vs = [v] ∧ r v H Q)) (ee : eBi f (aCons x aNil) S = some (o, S')) (h : StOk c σ S T H) (q : ∀ v H', StOk c σ S' ((v, o) :: T) H' → Q v H') : t σ H (fun v H1 => r v H1 Q) := by
  unfold eBi at ee
  split at ee
  · rename_i xs S1 e1
    split at ee
    · rename_i ds S2 e2
      split at ee
      · rename_i o' e3
        cases ee
        unfold aCons at e1
        split at e1
        · rename_i x1 S3 e4
          simp only [aNil] at e1
          cases e1
          refine h2 σ S T H x1 S1 e4 h _ fun v H1 r1 k1 => ?_
          obtain ⟨L0, q1, q2⟩ := rsvs_ok e2 r1 k1
          obtain ⟨F, hF⟩ := q1.ok
          obtain ⟨v', z, hz⟩ := hr F H1 (ents σ S' ++ (L0 ++ T)) [v] ds o Q e3 hF (q2.views hF) fun v H' hk => by
            have hk' : StOk c σ S' ((v, o) :: (L0 ++ T)) H' := .of_hd q1.cov hk
            exact q v H' (StOk.drops (L := L0) (hk'.permT List.perm_middle.symm))
          cases z
          exact hz
        · cases e1
      · cases ee
    · cases ee
  · cases ee
theorem bi_isN : BiOk c fIsN (fun vs H Q => ∃ v, vs = [v] ∧ Q (.bl (decide (v = .non))) H) := by
  intro F H L vs ds o Q e hF hv q
  unfold fIsN at e
  split at e
  · cases e
    obtain ⟨v, e1, h1⟩ := hv.one
    refine ⟨v, e1, ?_⟩
    rw [isNon_v h1 hF.same]
    exact q _ _ (okf_scal hF rfl)
  · cases e
theorem bi_notN : BiOk c fNotN (fun vs H Q => ∃ v, vs = [v] ∧ Q (.bl (!decide (v = .non))) H) := by
  intro F H L vs ds o Q e hF hv q
  unfold fNotN at e
  split at e
  · cases e
    obtain ⟨v, e1, h1⟩ := hv.one
    refine ⟨v, e1, ?_⟩
    rw [isNon_v h1 hF.same]
    exact q _ _ (okf_scal hF rfl)
  · cases e
theorem se_isN {x : AE} {j pos'} (hx : SoundA1 Γ a x) : SoundE Γ (.Compare a [.Is] [.Constant .none j pos'] pos) (eBi fIsN (aCons x aNil)) := by
  obtain ⟨t, h1, h2⟩ := hx
  exact ⟨_, fun X hX => pe_cmp (pc_isN (h1 X hX)) rfl, fun σ S T H o S' ee h Q q => look1 h2 bi_isN ee h q⟩
theorem se_notN {x : AE} {j pos'} (hx : SoundA1 Γ a x) : SoundE Γ (.Compare a [.IsNot] [.Constant .none j pos'] pos) (eBi fNotN (aCons x aNil)) := by
  obtain ⟨t, h1, h2⟩ := hx
  exact ⟨_, fun X hX => pe_cmp (pc_notN (h1 X hX)) rfl, fun σ S T H o S' ee h Q q => look1 h2 bi_notN ee h q⟩
theorem st_isN {x : AE} {j pos'} (hx : SoundA1 Γ a x) : SoundT Γ (.Compare a [.Is] [.Constant .none j pos'] pos) (tE (eBi fIsN (aCons x aNil))) := by
  obtain ⟨t, h1, h2⟩ := hx
  refine ⟨_, fun X hX => pt_cmp (pc_isN (h1 X hX)) rfl, fun σ S T H b S' ee h Q q => ?_⟩
  unfold tE at ee
  split at ee
  · rename_i b' S1 e1
    cases ee
    exact look1 (Q := fun x H1 => ∃ c, x = .bl c ∧ Q c H1) h2 bi_isN e1 h fun v H1 k1 => ⟨b, by have := k1.hd.rep; exact this, q H1 k1.drop⟩
  · cases ee
theorem st_notN {x : AE} {j pos'} (hx : SoundA1 Γ a x) : SoundT Γ (.Compare a [.IsNot] [.Constant .none j pos'] pos) (tE (eBi fNotN (aCons x aNil))) := by
  obtain ⟨t, h1, h2⟩ := hx
  refine ⟨_, fun X hX => pt_cmp (pc_notN (h1 X hX)) rfl, fun σ S T H b S' ee h Q q => ?_⟩
  unfold tE at ee
  split at ee
  · rename_i b' S1 e1
    cases ee
    exact look1 (Q := fun x H1 => ∃ c, x = .bl c ∧ Q c H1) h2 bi_notN e1 h fun v H1 k1 => ⟨b, by have := k1.hd.rep; exact this, q H1 k1.drop⟩
  · cases ee
def fIsB : List D → Option O
  | [.bl x, .bl y] => some (.fz (.bl (decide (x = y))))
  | _ => none
def fNotB : List D → Option O
  | [.bl x, .bl y] => some (.fz (.bl (!decide (x = y))))
  | _ => none
theorem bi_isB : BiOk c fIsB (fun vs H Q => ∃ v w, vs = [v, w] ∧ rIsB v w H Q) := by
  intro F H L vs ds o Q e hF hv q
  unfold fIsB at e
  split at e
  · cases e
    obtain ⟨v, w, e1, h1, h2⟩ := hv.two
    exact ⟨v, w, e1, _, _, h1.bl, h2.bl, q _ _ (okf_scal hF rfl)⟩
  · cases e
theorem bi_notB : BiOk c fNotB (fun vs H Q => ∃ v w, vs = [v, w] ∧ rNotB v w H Q) := by
  intro F H L vs ds o Q e hF hv q
  unfold fNotB at e
  split at e
  · cases e
    obtain ⟨v, w, e1, h1, h2⟩ := hv.two
    exact ⟨v, w, e1, _, _, h1.bl, h2.bl, q _ _ (okf_scal hF rfl)⟩
  · cases e
end Pz
set_option Elab.async false
set_option linter.all false
set_option maxRecDepth 100000
set_option maxHeartbeats 1000000
namespace Pz
open PySem PySem.Spec L2
open PyProof.Rows hiding St
variable {c : Gc} {F H H' : Hp} {L : List (V × O)} {R : List Addr} {Γ : Cs} {e a b : Expr} {es : List Expr} {pos : Pos}

/-! ### slices -/
def evP : Option EE → Env → Option (Option Int × Env)
  | none, S => some (none, S)
  | some e, S => match e S with
    | some (.fz (.int i), S1) => some (some i, S1)
    | _ => none
def cutD (ds : List D) (lo hi : Option Int) : List D := (ds.drop (HT.sIx ds.length 0 lo)).take (HT.sIx ds.length ds.length hi - HT.sIx ds.length 0 lo)
def fSl : D → Option Int → Option Int → Option O
  | .lst ds, lo, hi => some (.ol ((cutD ds lo hi).map O.fz))
  | .tup ds, lo, hi => some (.fz (.tup (cutD ds lo hi)))
  | .str s, lo, hi => if lenS s ≤ cap then some (.fz (.str (cutS s lo hi))) else none
  | _, _, _ => none
def eSl (x : AE) (lo hi : Option EE) : EE := fun S => match x S with
  | some (a, S1) => match evP lo S1 with
    | some (l, S2) => match evP hi S2 with
      | some (h, S3) => match rsv a S3 with
        | some (d, S4) => match fSl d l h with
          | some o => some (o, S4)
          | none => none
        | none => none
      | none => none
    | none => none
  | none => none
def SoundP (Γ : Cs) (e : Option Expr) (f : Option EE) : Prop := ∃ t, (∀ X, XOk Γ X → PO X e t) ∧ ∀ σ S T H i S', evP f S = some (i, S') → StOk Γ.c σ S T H → ∀ Q, (∀ H', StOk Γ.c σ S' T H' → Q i H') → t σ H Q
theorem sp_none : SoundP Γ none none := ⟨_, fun X _ => po_none, fun σ S T H i S' ee h Q q => by
  cases ee
  exact q H h⟩
theorem sp_some {f : EE} (h : SoundE Γ e f) : SoundP Γ (some e) (some f) := by
  obtain ⟨t, h1, h2⟩ := h
  refine ⟨_, fun X hX => po_some (h1 X hX), fun σ S T H i S' ee hh Q q => ?_⟩
  simp only [evP] at ee
  split at ee
  · rename_i j S1 e1
    cases ee
    exact h2 σ S T H _ S' e1 hh _ fun v H1 k1 => ⟨j, by have := k1.hd.rep; exact this, q H1 k1.drop⟩
  · cases ee
theorem RepDs.drop : ∀ {ds : List D} {vs : List V} (n : Nat), RepDs c F ds vs → RepDs c F (ds.drop n) (vs.drop n)
  | _, _, 0, h => h
  | [], _, n + 1, h => by
    have h' : _ = [] := h
    subst h'; rfl
  | d :: ds, _, n + 1, ⟨v, r, e, h1, h2⟩ => by subst e; exact RepDs.drop n h2
theorem RepDs.take : ∀ {ds : List D} {vs : List V} (n : Nat), RepDs c F ds vs → RepDs c F (ds.take n) (vs.take n)
  | _, _, 0, h => rfl
  | [], _, n + 1, h => by
    have h' : _ = [] := h
    subst h'; rfl
  | d :: ds, _, n + 1, ⟨v, r, e, h1, h2⟩ => by subst e; exact ⟨v, _, rfl, h1, RepDs.take n h2⟩
theorem RepDs.cut {ds : List D} {vs : List V} (lo hi : Option Int) (h : RepDs c F ds vs) : RepDs c F (cutD ds lo hi) (cutV vs lo hi) := by
  unfold cutD cutV
  rw [h.len]
  exact (h.drop _).take _
theorem cut_whole {ds : List D} {lo hi : Option Int} (h : HT.sIx ds.length 0 lo = 0 ∧ HT.sIx ds.length ds.length hi = ds.length) : cutD ds lo hi = ds := by
  unfold cutD
  rw [h.1, h.2]
  simp
theorem se_slice {x : AE} {lo hi : Option Expr} {flo fhi : Option EE} {p2 : Pos} (hx : SoundA1 Γ a x) (hl : SoundP Γ lo flo) (hh : SoundP Γ hi fhi) : SoundE Γ (.Subscript a (.Slice lo hi none p2) pos) (eSl x flo fhi) := by
  obtain ⟨t, h1, h2⟩ := hx
  obtain ⟨tl, l1, l2⟩ := hl
  obtain ⟨th, g1, g2⟩ := hh
  refine ⟨tSl (fun x lo hi H Q => rSlL Γ.K x lo hi H Q ∨ (rSlA Γ.K x lo hi H Q ∨ rSlS x lo hi H Q)) t tl th, fun X hX => ?_, fun σ S T H o S' ee hs Q q => ?_⟩
  · rw [hX.K]
    exact pe_slice (SlR.or sl_list (SlR.or sl_tupA sl_str)) (h1 X hX) (l1 X hX) (g1 X hX)
  · unfold eSl at ee
    split at ee
    · rename_i a1 S1 e1
      split at ee
      · rename_i l S2 e2
        split at ee
        · rename_i hv S3 e3
          split at ee
          · rename_i d S4 e4
            split at ee
            · rename_i o' e5
              cases ee
              refine h2 σ S T H a1 S1 e1 hs _ fun v H1 r1 k1 => ?_
              refine l2 σ S1 _ H1 l S2 e2 k1 _ fun H2 k2 => ?_
              refine g2 σ S2 _ H2 hv S3 e3 k2 _ fun H3 k3 => ?_
              have e4' : rsvs [a1] S3 = some ([d], S') := by unfold rsvs; rw [e4]; rfl
              obtain ⟨L0, q1, q2⟩ := rsvs_ok e4' r1 k3
              obtain ⟨F, hF0⟩ := q1.ok
              have hF : OkF Γ.c F H3 [] (ents σ S' ++ (L0 ++ T)) := hF0
              obtain ⟨v', z, hw⟩ := (q2.views hF).one
              cases z
              have fin : ∀ v H', Ok Γ.c H' [] ((v, o) :: (ents σ S' ++ (L0 ++ T))) → Q v H' := fun v H' hk => by
                have hk' : StOk Γ.c σ S' ((v, o) :: (L0 ++ T)) H' := .of_hd q1.cov hk
                exact q v H' (StOk.drops (L := L0) (hk'.permT List.perm_middle.symm))
              cases d with
              | lst ds =>
                simp only [fSl] at e5
                cases e5
                obtain ⟨ad, vs, a1, a2, a3⟩ := hw.list hF.same
                exact .inl ⟨ad, vs, a1, a2, fun p hp => fin _ _ (hF.newL (a3.cut l hv) hp)⟩
              | tup ds =>
                simp only [fSl] at e5
                cases e5
                obtain ⟨ad, vs, a1, a2, a3⟩ := hw.tup hF.same
                refine .inr (.inl ⟨ad, vs, a1, a2, fun z => ?_, fun _ p hp => fin _ _ (hF.newT (a3.cut l hv) hp)⟩)
                rw [a3.len] at z
                have hc : cutD ds l hv = ds := cut_whole z
                have k := (hF.add hw.tupF).ok
                rw [← a1]
                refine fin _ _ ?_
                rw [hc]; exact k
              | str s =>
                simp only [fSl] at e5
                split at e5
                · rename_i hle
                  cases e5
                  exact .inr (.inr ⟨s, hw.str, Nat.le_trans hle cap_line, fin _ _ (okf_scal hF rfl)⟩)
                · cases e5
              | _ => simp only [fSl] at e5; cases e5
            · cases ee
          · cases ee
        · cases ee
      · cases ee
    · cases ee

/-! ### len, int, abs, max, min, tuple, list -/
def fLen : List D → Option O
  | [.lst ds] => some (.fz (.int (ds.length : Nat)))
  | [.tup ds] => some (.fz (.int (ds.length : Nat)))
  | [.str s] => if lenS s ≤ cap then some (.fz (.int (lenS s : Nat))) else none
  | _ => none
theorem bi_len : BiOk c fLen (fun vs H Q => ∃ x n, vs = [x] ∧ LenV c.K x H n ∧ Q (.int n) H) := by
  intro F H L vs ds o Q e hF hv q
  unfold fLen at e
  split at e
  · cases e
    obtain ⟨v, e1, h1⟩ := hv.one
    obtain ⟨l, xs, a1, a2, a3⟩ := h1.list hF.same
    subst a1
    exact ⟨_, _, e1, .inl ⟨xs, a2, rfl⟩, by rw [a3.len]; exact q _ _ (okf_scal hF rfl)⟩
  · cases e
    obtain ⟨v, e1, h1⟩ := hv.one
    obtain ⟨l, xs, a1, a2, a3⟩ := h1.tup hF.same
    subst a1
    exact ⟨_, _, e1, .inr ⟨xs, a2, rfl⟩, by rw [a3.len]; exact q _ _ (okf_scal hF rfl)⟩
  · split at e
    · rename_i hle
      cases e
      obtain ⟨v, e1, h1⟩ := hv.one
      rw [h1.str] at e1
      exact ⟨_, _, e1, ⟨Nat.le_trans hle cap_line, rfl⟩, q _ _ (okf_scal hF rfl)⟩
    · cases e
  · cases e
def fInt : List D → Option O
  | [.int i] => some (.fz (.int i))
  | [.bl k] => some (.fz (.int (if k then 1 else 0)))
  | _ => none
theorem bi_int : BiOk c fInt (fun xs H Q => (∃ i, xs = [.int i] ∧ Q (.int i) H) ∨ ∃ k, xs = [.bl k] ∧ Q (.int (if k then 1 else 0)) H) := by
  intro F H L vs ds o Q e hF hv q
  unfold fInt at e
  split at e
  · cases e
    obtain ⟨v, e1, h1⟩ := hv.one
    rw [h1.int] at e1
    exact .inl ⟨_, e1, q _ _ (okf_scal hF rfl)⟩
  · cases e
    obtain ⟨v, e1, h1⟩ := hv.one
    rw [h1.bl] at e1
    exact .inr ⟨_, e1, q _ _ (okf_scal hF rfl)⟩
  · cases e
def fAbs : List D → Option O
  | [.int i] => some (.fz (.int (if i < 0 then -i else i)))
  | _ => none
theorem bi_abs : BiOk c fAbs (fun xs H Q => ∃ i, xs = [.int i] ∧ Q (.int (if i < 0 then -i else i)) H) := by
  intro F H L vs ds o Q e hF hv q
  unfold fAbs at e
  split at e
  · cases e
    obtain ⟨v, e1, h1⟩ := hv.one
    rw [h1.int] at e1
    exact ⟨_, e1, q _ _ (okf_scal hF rfl)⟩
  · cases e
def fMax2 : List D → Option O := fI2 fun i j => some (.fz (.int (if j > i then j else i)))
def fMin2 : List D → Option O := fI2 fun i j => some (.fz (.int (if j < i then j else i)))
theorem bi_max2 : BiOk c fMax2 (fun xs H Q => ∃ i j, xs = [.int i, .int j] ∧ Q (.int (if j > i then j else i)) H) := by
  intro F H L vs ds o Q e hF hv q
  unfold fMax2 fI2 at e
  split at e
  · cases e
    obtain ⟨v, w, e1, h1, h2⟩ := hv.two
    rw [h1.int, h2.int] at e1
    exact ⟨_, _, e1, q _ _ (okf_scal hF rfl)⟩
  · cases e
theorem bi_min2 : BiOk c fMin2 (fun xs H Q => ∃ i j, xs = [.int i, .int j] ∧ Q (.int (if j < i then j else i)) H) := by
  intro F H L vs ds o Q e hF hv q
  unfold fMin2 fI2 at e
  split at e
  · cases e
    obtain ⟨v, w, e1, h1, h2⟩ := hv.two
    rw [h1.int, h2.int] at e1
    exact ⟨_, _, e1, q _ _ (okf_scal hF rfl)⟩
  · cases e
def fTuple : List D → Option O
  | [.lst ds] => some (.fz (.tup ds))
  | [.tup ds] => some (.fz (.tup ds))
  | _ => none
theorem bi_tuple : BiOk c fTuple (fun xs H Q => ∃ p ys, xs = [.ref p] ∧ ((SqL c.K H p ys ∧ ∀ l, H l = none → Q (.ref l) (upd H l (.tup ys))) ∨ (SqT c.K H p ys ∧ Q (.ref p) H))) := by
  intro F H L vs ds o Q e hF hv q
  unfold fTuple at e
  split at e
  · cases e
    obtain ⟨v, e1, h1⟩ := hv.one
    obtain ⟨l, xs, a1, a2, a3⟩ := h1.list hF.same
    subst a1
    exact ⟨l, xs, e1, .inl ⟨a2, fun p hp => q _ _ (hF.newT a3 hp)⟩⟩
  · cases e
    obtain ⟨v, e1, h1⟩ := hv.one
    obtain ⟨l, xs, a1, a2, a3⟩ := h1.tup hF.same
    subst a1
    exact ⟨l, xs, e1, .inr ⟨a2, q _ _ (hF.add h1.tupF).ok⟩⟩
  · cases e
def fList : List D → Option O
  | [.lst ds] => some (.ol (ds.map O.fz))
  | [.tup ds] => some (.ol (ds.map O.fz))
  | _ => none
theorem bi_list : BiOk c fList (fun xs H Q => ∃ p ys, xs = [.ref p] ∧ (SqL c.K H p ys ∨ SqT c.K H p ys) ∧ ∀ l, H l = none → Q (.ref l) (upd H l (.lst ys))) := by
  intro F H L vs ds o Q e hF hv q
  unfold fList at e
  split at e
  · cases e
    obtain ⟨v, e1, h1⟩ := hv.one
    obtain ⟨l, xs, a1, a2, a3⟩ := h1.list hF.same
    subst a1
    exact ⟨l, xs, e1, .inl a2, fun p hp => q _ _ (hF.newL a3 hp)⟩
  · cases e
    obtain ⟨v, e1, h1⟩ := hv.one
    obtain ⟨l, xs, a1, a2, a3⟩ := h1.tup hF.same
    subst a1
    exact ⟨l, xs, e1, .inr a2, fun p hp => q _ _ (hF.newL a3 hp)⟩
  · cases e
/-- a list of bools -/
def boolsOf : List D → Option (List Bool)
  | [] => some []
  | .bl b :: ds => (boolsOf ds).map (b :: ·)
  | _ :: _ => none
theorem bools_rep : ∀ {ds : List D} {bs : List Bool} {vs : List V}, boolsOf ds = some bs → RepDs c F ds vs → vs = bs.map V.bl
  | [], bs, vs, e, h => by
    cases e; exact h
  | .bl b :: ds, bs, vs, e, ⟨v, r, e1, h1, h2⟩ => by
    unfold boolsOf at e
    cases e2 : boolsOf ds with
    | none => rw [e2] at e; cases e
    | some bs' =>
      rw [e2] at e
      cases e
      have e3 : v = .bl b := h1
      rw [e1, e3, bools_rep e2 h2]; rfl
  | .non :: _, _, _, e, _ => by cases e
  | .int _ :: _, _, _, e, _ => by cases e
  | .str _ :: _, _, _, e, _ => by cases e
  | .tup _ :: _, _, _, e, _ => by cases e
  | .lst _ :: _, _, _, e, _ => by cases e
  | .dct _ :: _, _, _, e, _ => by cases e
  | .fn _ :: _, _, _, e, _ => by cases e
def fAll : List D → Option O
  | [.lst ds] => (boolsOf ds).map fun bs => .fz (.bl (bs.all id))
  | _ => none
def fAny : List D → Option O
  | [.lst ds] => (boolsOf ds).map fun bs => .fz (.bl (bs.any id))
  | _ => none
theorem bi_all : BiOk c fAll (rAll c.K) := by
  intro F H L vs ds o Q e hF hv q
  unfold fAll at e
  split at e
  · rename_i ds
    cases e2 : boolsOf ds with
    | none => rw [e2] at e; cases e
    | some bs =>
      rw [e2] at e; cases e
      obtain ⟨v, e1, h1⟩ := hv.one
      obtain ⟨l, xs, a1, a2, a3⟩ := h1.list hF.same
      subst a1
      have e3 := bools_rep e2 a3
      subst e3
      exact ⟨l, bs, e1, a2, q _ _ (okf_scal hF rfl)⟩
  · cases e
theorem bi_any : BiOk c fAny (rAny c.K) := by
  intro F H L vs ds o Q e hF hv q
  unfold fAny at e
  split at e
  · rename_i ds
    cases e2 : boolsOf ds with
    | none => rw [e2] at e; cases e
    | some bs =>
      rw [e2] at e; cases e
      obtain ⟨v, e1, h1⟩ := hv.one
      obtain ⟨l, xs, a1, a2, a3⟩ := h1.list hF.same
      subst a1
      have e3 := bools_rep e2 a3
      subst e3
      exact ⟨l, bs, e1, a2, q _ _ (okf_scal hF rfl)⟩
  · cases e

/-! ### repr -/
/-- it can be shown, and its text is not too long -/
def shOk (d : D) : Bool := okD d && (py d).showable && decide ((py d).shown.length ≤ cap)
def fRepr : List D → Option O
  | [d] => if shOk d = true then some (.fz (.str (py d).shown)) else none
  | _ => none
theorem Dp.nodict {K : PySem.W.Frag} : ∀ {d : PyData} {v : V}, Dp K H v d → d.hasDict = false := by
  intro d
  exact (PyData.rec (motive_1 := fun d => ∀ v, Dp K H v d → d.hasDict = false) (motive_2 := fun ds => ∀ vs, DpAll K H vs ds → PyData.hasDictAll ds = false) (motive_3 := fun _ => True) (motive_4 := fun _ => True)
    (fun _ _ => rfl) (fun _ _ _ => rfl) (fun _ _ _ => rfl) (fun _ _ _ => rfl)
    (fun ds ih v h => by cases h with | lst _ h2 => simpa [PyData.hasDict] using ih _ h2)
    (fun ds ih v h => by cases h with | tup _ h2 => simpa [PyData.hasDict] using ih _ h2)
    (fun kvs _ v h => by cases h)
    (fun vs h => rfl) (fun d ds ih1 ih2 vs h => by cases h with | cons h1 h2 => simp [PyData.hasDictAll, ih1 _ h1, ih2 _ h2])
    trivial (fun _ _ _ _ => trivial) (fun _ _ _ _ => trivial) d) _
theorem call_repr {X : Cx} (hu : X.A.units + 100 < cLine) (hgd : X.A.guards = some []) : CallR X (.builtin "repr") (fun xs H Q => ∃ v d, xs = [v] ∧ Dp X.K H v d ∧ SeqAt.shaped d = true ∧ d.showable = true ∧ d.shown.length ≤ sizeLine ∧ Q (.str d.shown) H) := by
  intro pins s σ H xs us Q I r h
  obtain ⟨v, d, rfl, hd, h1, h2, h3, q⟩ := h
  obtain ⟨u, rfl, ru⟩ := vals1 r
  have fin : ∀ h' t tk, (∀ b o, s.heap.get? b = some o → h'.get? b = some o) → EP X pins σ Q (.str d.shown t) { s with heap := h', toks := tk } := fun h' t tk k => ⟨.str d.shown, H, I.kept (t' := tk) k, ⟨t, rfl⟩, q⟩
  cases hd with
  | non =>
    cases ru
    exact PySem.P.repr_of_none (fin s.heap _ _ fun _ _ z => z)
  | bl b =>
    cases ru
    exact PySem.P.repr_of_bool (fin s.heap _ _ fun _ _ z => z)
  | int i =>
    obtain ⟨t, rfl⟩ := ru
    exact PySem.P.repr_of_int (by simpa [PyData.showable] using h2) (fin s.heap _ _ fun _ _ z => z)
  | str x =>
    obtain ⟨t, rfl⟩ := ru
    exact PySem.P.repr_of_str (fin s.heap _ _ fun _ _ z => z) h3
  | lst hs hds =>
    cases ru
    obtain ⟨as, hr⟩ := Dp.reads I _ _ _ (Dp.lst hs hds) rfl
    have hdep := SeqAt.depth_of_shaped h1
    exact repr_of_reads' hr h2 (fun z => by rw [Dp.nodict (Dp.lst hs hds)] at z; cases z) hgd (by omega) (fun _ _ z => z) (fun h' t tk k => fin h' t tk k) h3
  | tup hs hds =>
    cases ru
    obtain ⟨as, hr⟩ := Dp.reads I _ _ _ (Dp.tup hs hds) rfl
    have hdep := SeqAt.depth_of_shaped h1
    exact repr_of_reads' hr h2 (fun z => by rw [Dp.nodict (Dp.tup hs hds)] at z; cases z) hgd (by omega) (fun _ _ z => z) (fun h' t tk k => fin h' t tk k) h3
theorem bi_repr : BiOk c fRepr (fun xs H Q => ∃ v d, xs = [v] ∧ Dp c.K H v d ∧ SeqAt.shaped d = true ∧ d.showable = true ∧ d.shown.length ≤ sizeLine ∧ Q (.str d.shown) H) := by
  intro F H L vs ds o Q e hF hv q
  unfold fRepr at e
  split at e
  · split at e
    · rename_i d hk
      cases e
      unfold shOk at hk
      rw [Bool.and_eq_true, Bool.and_eq_true] at hk
      obtain ⟨v, e1, h1⟩ := hv.one
      exact ⟨v, py d, e1, okD.dp hk.1.1 (h1.rep hF.same), hk.1.1, hk.1.2, Nat.le_trans (of_decide_eq_true hk.2) cap_line, q _ _ (okf_scal hF rfl)⟩
    · cases e
  · cases e
end Pz
set_option Elab.async false
set_option linter.all false
set_option maxRecDepth 100000
set_option maxHeartbeats 1000000
namespace Pz
open PySem PySem.Spec L2
open PyProof.Rows hiding St
variable {c : Gc} {F H H' : Hp} {L T1 T2 : List (V × O)} {R : List Addr} {Γ : Cs} {e a b : Expr} {es : List Expr} {pos : Pos} {v w : V} {o o' : O}

/-! ### an entry's change -/
def EU (c : Gc) (v : V) (o : O) (T1 : List (V × O)) (H : Hp) (o' : O) (T2 : List (V × O)) (H' : Hp) : Prop :=
  ∀ R L, Ok c H R ((v, o) :: (T1 ++ L)) → Ok c H' R ((v, o') :: (T2 ++ L)) ∧ ∀ a ∈ R, H' a = H a
theorem Ok.nodupR (h : Ok c H R L) : R.Nodup := by
  obtain ⟨F, fp, h1, h2, h3, h4, h5⟩ := h
  exact (List.nodup_append.mp h3).1
theorem Ok.weak {x : Addr} (h : Ok c H (x :: R) L) : Ok c H R L := by
  obtain ⟨F, fp, h1, h2, h3, h4, h5⟩ := h
  exact ⟨F, fp, h1, h2, (List.nodup_cons.mp h3).2, fun a ha => h4 a (List.mem_cons_of_mem _ ha), fun a ha => h5 a (List.mem_cons_of_mem _ ha)⟩
theorem perm_at {α : Type} : ∀ {l : List α} {j : Nat} {x : α}, l[j]? = some x → l.Perm (x :: l.eraseIdx j)
  | [], j, x, h => by simp at h
  | y :: l, 0, x, h => by simp at h; subst h; exact .refl _
  | y :: l, j + 1, x, h => by
    have ih := perm_at (l := l) (j := j) (x := x) (by simpa using h)
    exact (ih.cons y).trans (.swap _ _ _)
theorem erase_set {α : Type} : ∀ {l : List α} {j : Nat} {x : α}, (l.set j x).eraseIdx j = l.eraseIdx j
  | [], j, x => rfl
  | y :: l, 0, x => rfl
  | y :: l, j + 1, x => by simp [erase_set (l := l) (j := j)]
theorem zip_get {vs : List V} {os : List O} {j : Nat} (h1 : vs[j]? = some v) (h2 : os[j]? = some o) : (vs.zip os)[j]? = some (v, o) := by
  rw [List.getElem?_zip_eq_some]; exact ⟨h1, h2⟩
theorem zip_set : ∀ {vs : List V} {os : List O} {j : Nat}, (vs.set j v).zip (os.set j o) = (vs.zip os).set j (v, o)
  | [], os, j => by simp
  | _ :: _, [], j => by cases j <;> simp
  | x :: vs, y :: os, 0 => by simp
  | x :: vs, y :: os, j + 1 => by simp [zip_set (vs := vs) (os := os) (j := j)]
theorem zip_erase : ∀ {vs : List V} {os : List O} {j : Nat}, (vs.eraseIdx j).zip (os.eraseIdx j) = (vs.zip os).eraseIdx j
  | [], os, j => by simp
  | _ :: _, [], j => by cases j <;> simp
  | x :: vs, y :: os, 0 => by simp
  | x :: vs, y :: os, j + 1 => by simp [zip_erase (vs := vs) (os := os) (j := j)]
/-- an owned list's own heap cell -/
theorem Ok.at_l {os : List O} (h : Ok c H R ((v, .ol os) :: L)) : ∃ a vs, v = .ref a ∧ H a = some (.lst vs) ∧ vs.length = os.length := by
  obtain ⟨a, vs, e1, e2, e3, _⟩ := h.open_l
  exact ⟨a, vs, e1, e2, e3⟩
theorem Ok.at_d {kvs : List (Key × O)} (h : Ok c H R ((v, .od kvs) :: L)) : ∃ a ps, v = .ref a ∧ H a = some (.dK ps) ∧ KeysEq ps kvs := by
  obtain ⟨a, ps, e1, e2, e3, _⟩ := h.open_d
  exact ⟨a, ps, e1, e2, e3⟩
theorem Ok.open_at {a : Addr} {vs : List V} {os : List O} (h : Ok c H R ((.ref a, .ol os) :: L)) (e : H a = some (.lst vs)) : vs.length = os.length ∧ Ok c H (a :: R) (vs.zip os ++ L) := by
  obtain ⟨a', vs', e1, e2, e3, e4⟩ := h.open_l
  cases e1
  rw [e] at e2; cases e2
  exact ⟨e3, e4⟩
theorem Ok.open_atd {a : Addr} {ps : List (Key × V)} {kvs : List (Key × O)} (h : Ok c H R ((.ref a, .od kvs) :: L)) (e : H a = some (.dK ps)) : KeysEq ps kvs ∧ (kvs.map (·.1)).Nodup ∧ Ok c H (a :: R) (kents ps kvs ++ L) := by
  obtain ⟨a', vs', e1, e2, e3, e4, e5⟩ := h.open_d
  cases e1
  rw [e] at e2; cases e2
  exact ⟨e3, e4, e5⟩
theorem upd_self {x : Addr} {u : HO} (e : H x = some u) : upd H x u = H := by
  funext y
  by_cases h : y = x
  · rw [h, upd_same, e]
  · rw [upd_ne h]
/-- an item within is changed -/
theorem eu_item {x : Addr} {vs : List V} {os : List O} {j : Nat} (he : H x = some (.lst vs)) (h1 : vs[j]? = some v) (h2 : os[j]? = some o) (k : EU c v o T1 H o' T2 H') : EU c (.ref x) (.ol os) T1 H (.ol (os.set j o')) T2 H' := by
  intro R L h
  obtain ⟨hl, q⟩ := h.open_at he
  have p1 : (vs.zip os ++ (T1 ++ L)).Perm ((v, o) :: (T1 ++ ((vs.zip os).eraseIdx j ++ L))) := by
    refine ((perm_at (zip_get h1 h2)).append_right _).trans ?_
    rw [List.cons_append]
    refine List.Perm.cons _ ?_
    rw [← List.append_assoc, ← List.append_assoc]
    exact List.perm_append_comm.append_right L
  obtain ⟨q1, q2⟩ := k _ _ (q.perm p1)
  have p2 : ((v, o') :: (T2 ++ ((vs.zip os).eraseIdx j ++ L))).Perm (vs.zip (os.set j o') ++ (T2 ++ L)) := by
    have e3 : vs.zip (os.set j o') = (vs.zip os).set j (v, o') := by rw [← zip_set, set_self h1]
    have hj := lt_of_get (zip_get h1 h2)
    have e4 : (vs.zip (os.set j o'))[j]? = some (v, o') := by rw [e3]; exact List.getElem?_set_self hj
    have e5 : (vs.zip (os.set j o')).eraseIdx j = (vs.zip os).eraseIdx j := by rw [e3, erase_set]
    have p3 := perm_at e4
    rw [e5] at p3
    refine List.Perm.trans ?_ (p3.append_right _).symm
    rw [List.cons_append]
    refine List.Perm.cons _ ?_
    rw [← List.append_assoc, ← List.append_assoc]
    exact List.perm_append_comm.append_right L
  have hx : H' x = some (.lst vs) := (q2 x List.mem_cons_self).trans he
  refine ⟨(q1.perm p2).close_l' (by simp [hl]) hx, fun a ha => q2 a (List.mem_cons_of_mem _ ha)⟩

/-! dicts -/
theorem kents_get : ∀ {ps : List (Key × V)} {kvs : List (Key × O)} {k : Key}, KeysEq ps kvs → valV ps k = some v → kLook kvs k = some o → ∃ j, (kents ps kvs)[j]? = some (v, o) ∧ ∀ o', kents ps (kPut kvs k o') = (kents ps kvs).set j (v, o') ∨ True
  | [], [], k, _, h, _ => by simp [valV] at h
  | [], _ :: _, k, h, _, _ => h.elim
  | _ :: _, [], k, h, _, _ => h.elim
  | (k1, v1) :: ps, (k2, o2) :: kvs, k, ⟨e, hk⟩, h1, h2 => by
    subst e
    by_cases z : k1 = k
    · subst z
      rw [valV_pos rfl] at h1
      simp [kLook] at h2
      cases h1; subst h2
      exact ⟨0, rfl, fun _ => .inr trivial⟩
    · rw [valV_neg z] at h1
      have h2' : kLook kvs k = some o := by simpa [kLook, List.find?_cons, z] using h2
      obtain ⟨j, q, _⟩ := kents_get hk h1 h2'
      exact ⟨j + 1, q, fun _ => .inr trivial⟩
theorem kput_any {α : Type} {kvs : List (Key × α)} {k : Key} : (kvs.any fun kv => decide (kv.1 = k)) = (kLook kvs k).isSome := by
  induction kvs with
  | nil => rfl
  | cons p r ih =>
    by_cases z : p.1 = k
    · simp [kLook, z]
    · rw [List.any_cons, decide_eq_false z, Bool.false_or, ih]
      simp [kLook, List.find?_cons, z]
theorem keysEq_look : ∀ {ps : List (Key × V)} {kvs : List (Key × O)} {k : Key}, KeysEq ps kvs → (valV ps k).isSome = (kLook kvs k).isSome
  | [], [], k, _ => rfl
  | [], _ :: _, k, h => h.elim
  | _ :: _, [], k, h => h.elim
  | (k1, v1) :: ps, (k2, o2) :: kvs, k, ⟨e, hk⟩ => by
    subst e
    by_cases z : k1 = k
    · subst z
      rw [valV_pos rfl]
      simp [kLook]
    · rw [valV_neg z, keysEq_look hk]
      simp [kLook, List.find?_cons, z]
/-- what stands in a table at a key, and the table with another thing there -/
theorem kents_at : ∀ {ps : List (Key × V)} {kvs : List (Key × O)} {k : Key}, KeysEq ps kvs → (kvs.map (·.1)).Nodup → (kLook kvs k).isSome = true →
    ∃ v o rest, valV ps k = some v ∧ kLook kvs k = some o ∧ (kents ps kvs).Perm ((v, o) :: rest) ∧ ∀ v' o', KeysEq (putK ps k v') (kPut kvs k o') ∧ ((kPut kvs k o').map (·.1)) = kvs.map (·.1) ∧ (kents (putK ps k v') (kPut kvs k o')).Perm ((v', o') :: rest) ∧ (v' = v → putK ps k v' = ps)
  | [], [], k, _, _, h => by simp [kLook] at h
  | [], _ :: _, k, h, _, _ => h.elim
  | _ :: _, [], k, h, _, _ => h.elim
  | (k1, v1) :: ps, (k2, o2) :: kvs, k, ⟨e, hk⟩, nd, hs => by
    subst e
    have nd' : k1 ∉ kvs.map (·.1) ∧ (kvs.map (·.1)).Nodup := List.nodup_cons.mp nd
    by_cases z : k1 = k
    · subst z
      have ids : ∀ {α : Type} (l : List (Key × α)) (x : α), k1 ∉ l.map (·.1) → l.map (fun kv => if kv.1 = k1 then (kv.1, x) else kv) = l := by
        intro α l x hn
        induction l with
        | nil => rfl
        | cons p r ih =>
          have hn' : k1 ≠ p.1 ∧ k1 ∉ r.map (·.1) := by simpa [not_or] using hn
          rw [List.map_cons, if_neg (Ne.symm hn'.1), ih hn'.2]
      have keys : ps.map (·.1) = kvs.map (·.1) := by
        clear nd nd' hs ids
        induction ps generalizing kvs with
        | nil => cases kvs with
          | nil => rfl
          | cons _ _ => exact hk.elim
        | cons p ps ih => cases kvs with
          | nil => exact hk.elim
          | cons q kvs => obtain ⟨z1, z2⟩ := hk; simp [z1, ih _ z2]
      have e1 : ∀ v', putK ((k1, v1) :: ps) k1 v' = (k1, v') :: ps := fun v' => by
        unfold putK
        rw [if_pos (by simp), List.map_cons, if_pos rfl, ids ps v' (by rw [keys]; exact nd'.1)]
      have e2 : ∀ o', kPut ((k1, o2) :: kvs) k1 o' = (k1, o') :: kvs := fun o' => by
        unfold kPut
        rw [if_pos (by simp), List.map_cons, if_pos rfl, ids kvs o' nd'.1]
      refine ⟨v1, o2, kents ps kvs, valV_pos rfl, by simp [kLook], .refl _, fun v' o' => ?_⟩
      rw [e1, e2]
      exact ⟨⟨rfl, hk⟩, by simp, .refl _, fun z => by rw [z]⟩
    · have hs' : (kLook kvs k).isSome = true := by simpa [kLook, List.find?_cons, z] using hs
      obtain ⟨v, o, rest, q1, q2, q3, q4⟩ := kents_at hk nd'.2 hs'
      have a1 : (ps.any fun kv => decide (kv.1 = k)) = true := by rw [valV_any, q1]; rfl
      have a2 : (kvs.any fun kv => decide (kv.1 = k)) = true := by rw [kput_any, q2]; rfl
      have e1 : ∀ v', putK ((k1, v1) :: ps) k v' = (k1, v1) :: putK ps k v' := fun v' => by
        unfold putK
        rw [if_pos (by rw [List.any_cons, a1, Bool.or_true]), if_pos a1, List.map_cons, if_neg z]
      have e2 : ∀ o', kPut ((k1, o2) :: kvs) k o' = (k1, o2) :: kPut kvs k o' := fun o' => by
        unfold kPut
        rw [if_pos (by rw [List.any_cons, a2, Bool.or_true]), if_pos a2, List.map_cons, if_neg z]
      refine ⟨v, o, (v1, o2) :: rest, by rw [valV_neg z]; exact q1, by simpa [kLook, List.find?_cons, z] using q2, (q3.cons _).trans (.swap _ _ _), fun v' o' => ?_⟩
      obtain ⟨r1, r2, r3, r4⟩ := q4 v' o'
      rw [e1, e2]
      exact ⟨⟨rfl, r1⟩, by simp [r2], (r3.cons _).trans (.swap _ _ _), fun z => by rw [r4 z]⟩
theorem kents_new : ∀ {ps : List (Key × V)} {kvs : List (Key × O)} {k : Key}, KeysEq ps kvs → kLook kvs k = none → KeysEq (putK ps k v) (kPut kvs k o) ∧ ((kPut kvs k o).map (·.1)) = kvs.map (·.1) ++ [k] ∧ kents (putK ps k v) (kPut kvs k o) = kents ps kvs ++ [(v, o)] ∧ k ∉ kvs.map (·.1) := by
  intro ps kvs k hk hn
  have a2 : (kvs.any fun kv => decide (kv.1 = k)) = false := by rw [kput_any, hn]; rfl
  have a1 : (ps.any fun kv => decide (kv.1 = k)) = false := by rw [valV_any, keysEq_look hk, hn]; rfl
  unfold putK kPut
  rw [if_neg (by rw [a1]; decide), if_neg (by rw [a2]; decide)]
  have hnk : k ∉ kvs.map (·.1) := by
    intro hm
    obtain ⟨p, hp, e⟩ := List.mem_map.mp hm
    have : (kvs.any fun kv => decide (kv.1 = k)) = true := List.any_eq_true.mpr ⟨p, hp, by simp [e]⟩
    rw [a2] at this; cases this
  refine ⟨?_, by simp, ?_, hnk⟩
  · clear a1 a2 hn hnk
    induction ps generalizing kvs with
    | nil => cases kvs with
      | nil => exact ⟨rfl, trivial⟩
      | cons _ _ => exact hk.elim
    | cons p ps ih => cases kvs with
      | nil => exact hk.elim
      | cons q kvs => obtain ⟨z1, z2⟩ := hk; exact ⟨z1, ih z2⟩
  · clear a1 a2 hn hnk
    induction ps generalizing kvs with
    | nil => cases kvs with
      | nil => rfl
      | cons _ _ => exact hk.elim
    | cons p ps ih => cases kvs with
      | nil => exact hk.elim
      | cons q kvs => obtain ⟨z1, z2⟩ := hk; show (p.2, q.2) :: kents (ps ++ _) (kvs ++ _) = _; rw [ih z2]; rfl
theorem eu_ditem {x : Addr} {ps : List (Key × V)} {kvs : List (Key × O)} {k : Key} (he : H x = some (.dK ps)) (h1 : valV ps k = some v) (h2 : kLook kvs k = some o) (kk : EU c v o T1 H o' T2 H') : EU c (.ref x) (.od kvs) T1 H (.od (kPut kvs k o')) T2 H' := by
  intro R L h
  obtain ⟨hl, nd, q⟩ := h.open_atd he
  obtain ⟨v0, o0, rest, r1, r2, r3, r4⟩ := kents_at hl nd (by rw [h2]; rfl)
  rw [h1] at r1; cases r1
  rw [h2] at r2; cases r2
  have p1 : (kents ps kvs ++ (T1 ++ L)).Perm ((v, o) :: (T1 ++ (rest ++ L))) := by
    refine (r3.append_right _).trans ?_
    rw [List.cons_append]
    refine List.Perm.cons _ ?_
    rw [← List.append_assoc, ← List.append_assoc]
    exact List.perm_append_comm.append_right L
  obtain ⟨q1, q2⟩ := kk _ _ (q.perm p1)
  obtain ⟨s1, s2, s3, s4⟩ := r4 v o'
  rw [s4 rfl] at s1 s3
  have p2 : ((v, o') :: (T2 ++ (rest ++ L))).Perm (kents ps (kPut kvs k o') ++ (T2 ++ L)) := by
    refine List.Perm.trans ?_ (s3.append_right _).symm
    rw [List.cons_append]
    refine List.Perm.cons _ ?_
    rw [← List.append_assoc, ← List.append_assoc]
    exact List.perm_append_comm.append_right L
  have hx : H' x = some (.dK ps) := (q2 x List.mem_cons_self).trans he
  have z := (q1.perm p2).close_d s1 (by rw [s2]; exact nd)
  rw [upd_self hx] at z
  exact ⟨z, fun a ha => q2 a (List.mem_cons_of_mem _ ha)⟩

/-! the changes themselves -/
theorem frame_of {x : Addr} {u : HO} (h : Ok c H (x :: R) L) : ∀ a ∈ R, upd H x u a = H a := fun a ha => upd_ne fun z => (List.nodup_cons.mp h.nodupR).1 (z ▸ ha)
theorem eu_setl {x : Addr} {vs : List V} {os : List O} {j : Nat} (he : H x = some (.lst vs)) (hj : j < os.length) : EU c (.ref x) (.ol os) [(v, o)] H (.ol (os.set j o)) [] (upd H x (.lst (vs.set j v))) := by
  intro R L h
  obtain ⟨hl, q⟩ := h.open_at he
  have g1 : (vs.zip os)[j]? = some (vs[j]'(by omega), os[j]) := zip_get (List.getElem?_eq_getElem _) (List.getElem?_eq_getElem _)
  have g2 : ((vs.set j v).zip (os.set j o))[j]? = some (v, o) := zip_get (List.getElem?_set_self (by omega)) (List.getElem?_set_self hj)
  have p3 := perm_at g2
  rw [zip_set, erase_set, ← zip_set] at p3
  have p1 : (vs.zip os ++ ([(v, o)] ++ L)).Perm ([(vs[j]'(by omega), os[j])] ++ ((vs.set j v).zip (os.set j o) ++ L)) := by
    refine ((perm_at g1).append_right _).trans ?_
    rw [List.cons_append, List.cons_append, List.nil_append]
    refine List.Perm.cons _ ?_
    refine List.Perm.trans ?_ (p3.append_right _).symm
    exact List.perm_middle
  refine ⟨Ok.close_l ((q.perm p1).drop_left) (by simp [hl]), frame_of q⟩
theorem eu_put {x : Addr} {ps : List (Key × V)} {kvs : List (Key × O)} {k : Key} (he : H x = some (.dK ps)) : EU c (.ref x) (.od kvs) [(v, o)] H (.od (kPut kvs k o)) [] (upd H x (.dK (putK ps k v))) := by
  intro R L h
  obtain ⟨hl, nd, q⟩ := h.open_atd he
  refine ⟨?_, frame_of q⟩
  cases hk : kLook kvs k with
  | some o0 =>
    obtain ⟨v0, o1, rest, r1, r2, r3, r4⟩ := kents_at hl nd (by rw [hk]; rfl)
    obtain ⟨s1, s2, s3, _⟩ := r4 v o
    refine Ok.close_d ?_ s1 (by rw [s2]; exact nd)
    have p1 : (kents ps kvs ++ ([(v, o)] ++ L)).Perm ([(v0, o1)] ++ (kents (putK ps k v) (kPut kvs k o) ++ L)) := by
      refine (r3.append_right _).trans ?_
      rw [List.cons_append, List.cons_append, List.nil_append]
      refine List.Perm.cons _ ?_
      refine List.Perm.trans ?_ (s3.append_right _).symm
      exact List.perm_middle
    exact (q.perm p1).drop_left
  | none =>
    obtain ⟨s1, s2, s3, s4⟩ := kents_new (v := v) (o := o) hl hk
    refine Ok.close_d ?_ s1 (by
      rw [s2]
      exact List.nodup_append.mpr ⟨nd, by simp, fun a ha b hb => by
        rw [List.mem_singleton.mp hb]
        exact fun z => s4 (z ▸ ha)⟩)
    rw [s3, List.append_assoc]
    exact q
theorem eu_append {x : Addr} {vs : List V} {os : List O} (he : H x = some (.lst vs)) : EU c (.ref x) (.ol os) [(v, o)] H (.ol (os ++ [o])) [(.non, .fz .non)] (upd H x (.lst (vs ++ [v]))) := by
  intro R L h
  obtain ⟨hl, q⟩ := h.open_at he
  have z : Ok c (upd H x (.lst (vs ++ [v]))) R ((.ref x, .ol (os ++ [o])) :: L) := Ok.close_l (by rw [List.zip_append hl, List.append_assoc]; exact q) (by simp [hl])
  exact ⟨(z.scal (d := .non) rfl).perm (.swap _ _ _), frame_of q⟩
theorem eu_extend {x y : Addr} {vs ws : List V} {os ps : List O} (he : H x = some (.lst vs)) (hf : H y = some (.lst ws)) : EU c (.ref x) (.ol os) [(.ref y, .ol ps)] H (.ol (os ++ ps)) [(.non, .fz .non)] (upd H x (.lst (vs ++ ws))) := by
  intro R L h
  obtain ⟨hl, q⟩ := h.open_at he
  have q1 : Ok c H (x :: R) ((.ref y, .ol ps) :: (vs.zip os ++ L)) := q.perm List.perm_middle
  obtain ⟨hl2, q2⟩ := q1.open_at hf
  have q3 := q2.weak
  have p1 : (ws.zip ps ++ (vs.zip os ++ L)).Perm ((vs ++ ws).zip (os ++ ps) ++ L) := by
    rw [List.zip_append hl, ← List.append_assoc]
    exact List.perm_append_comm.append_right L
  have z := Ok.close_l (q3.perm p1) (by simp [hl, hl2])
  exact ⟨(z.scal (d := .non) rfl).perm (.swap _ _ _), frame_of q⟩
theorem eu_popAt {x : Addr} {vs : List V} {os : List O} {j : Nat} {w : V} {p : O} (he : H x = some (.lst vs)) (h1 : vs[j]? = some w) (h2 : os[j]? = some p) : EU c (.ref x) (.ol os) T1 H (.ol (os.eraseIdx j)) [(w, p)] (upd H x (.lst (vs.eraseIdx j))) := by
  intro R L h
  obtain ⟨hl, q⟩ := h.open_at he
  have p1 : (vs.zip os ++ (T1 ++ L)).Perm (T1 ++ ((vs.eraseIdx j).zip (os.eraseIdx j) ++ ((w, p) :: L))) := by
    have a1 := (perm_at (zip_get h1 h2)).append_right (T1 ++ L)
    refine a1.trans ?_
    rw [← zip_erase]
    have a2 : (((w, p) :: (vs.eraseIdx j).zip (os.eraseIdx j)) ++ (T1 ++ L)).Perm (T1 ++ (((w, p) :: (vs.eraseIdx j).zip (os.eraseIdx j)) ++ L)) := by
      rw [← List.append_assoc, ← List.append_assoc]
      exact List.perm_append_comm.append_right L
    refine a2.trans (List.Perm.append_left T1 ?_)
    exact List.perm_middle.symm
  have z := Ok.close_l ((q.perm p1).drop_left) (by
    have := lt_of_get h1
    have := lt_of_get h2
    rw [List.length_eraseIdx, List.length_eraseIdx, hl])
  exact ⟨z, frame_of q⟩
end Pz
set_option Elab.async false
set_option linter.all false
set_option maxRecDepth 100000
set_option maxHeartbeats 1000000
namespace Pz
open PySem PySem.Spec L2
open PyProof.Rows hiding St
variable {c : Gc} {F H H' : Hp} {L T T1 T2 : List (V × O)} {R : List Addr} {Γ : Cs} {e a b : Expr} {es : List Expr} {pos : Pos} {v w : V} {o o' : O} {σ : L2.St} {S S' : Env}

/-! ### places -/
def ItemAt (H : Hp) (w : V) (o : O) (d : D) (v : V) : Prop :=
  (∃ os k j a vs, o = .ol os ∧ d = .int k ∧ ixN os.length k = some j ∧ w = .ref a ∧ H a = some (.lst vs) ∧ vs.length = os.length ∧ vs[j]? = some v) ∨
  ∃ kvs k a ps, o = .od kvs ∧ keyD d = some k ∧ w = .ref a ∧ H a = some (.dK ps) ∧ KeysEq ps kvs ∧ valV ps k = some v
def PlAt (σ : L2.St) (S : Env) (H : Hp) : Pl → V → Prop
  | .slot i, v => σ[i]? = some (some v)
  | .sub p q, v => ∃ w o d, PlAt σ S H p w ∧ getPl p S = some o ∧ q S = some d ∧ ItemAt H w o d v
theorem get_slot {i : Nat} (e : getPl (.slot i) S = some o) : S[i]? = some (some o) := by
  unfold getPl at e
  cases h : S[i]? with
  | none => rw [h] at e; cases e
  | some x => rw [h] at e; cases x with
    | none => cases e
    | some y => cases e; rfl
theorem updT {i : Nat} (h : StOk c σ S (T1 ++ T) H) (e : S[i]? = some (some o)) (hv : σ[i]? = some (some v)) (k : EU c v o T1 H o' T2 H') : StOk c σ (S.set i (some o')) (T2 ++ T) H' := by
  obtain ⟨v', hv', L1, L2, q, q2⟩ := h.slot e
  rw [hv] at hv'; cases hv'
  have z := q (some v) (some o')
  rw [set_self hv] at z
  refine ⟨?_, ?_⟩
  · have y := h.cov.set (i := i) (s := some v) (x := some o') fun _ _ => ⟨v, rfl⟩
    rw [set_self hv] at y
    exact y
  · rw [z]
    have h2 := h.ok
    rw [q2] at h2
    have p1 : ((L1 ++ (v, o) :: L2) ++ (T1 ++ T)).Perm ((v, o) :: (T1 ++ ((L1 ++ L2) ++ T))) := by
      refine front.trans (List.Perm.cons _ ?_)
      rw [← List.append_assoc, ← List.append_assoc]
      exact List.perm_append_comm.append_right T
    have h3 := (k [] _ (h2.perm p1)).1
    refine h3.perm ?_
    show ((v, o') :: (T2 ++ ((L1 ++ L2) ++ T))).Perm ((L1 ++ ([(v, o')] ++ L2)) ++ (T2 ++ T))
    have a2 : (T2 ++ ((L1 ++ L2) ++ T)).Perm ((L1 ++ L2) ++ (T2 ++ T)) := by
      rw [← List.append_assoc T2, ← List.append_assoc (L1 ++ L2)]
      exact List.perm_append_comm.append_right T
    exact (List.Perm.cons _ a2).trans (front (e := (v, o'))).symm
theorem pl_upd : ∀ {p : Pl} {v : V} {o o' : O}, PlAt σ S H p v → getPl p S = some o → StOk c σ S (T1 ++ T) H → EU c v o T1 H o' T2 H' → ∃ S', updPl p o' S = some S' ∧ StOk c σ S' (T2 ++ T) H'
  | .slot i, v, o, o', h1, h2, h3, k => ⟨_, rfl, updT h3 (get_slot h2) h1 k⟩
  | .sub p q, v, o, o', ⟨w, op, d, h1, h2, h3, h4⟩, hg, hs, k => by
    have hg' : subGet op d = some o := by
      have hg2 := hg
      simp only [getPl, h2, h3] at hg2
      exact hg2
    rcases h4 with ⟨os, i, j, x, vs, rfl, rfl, g1, rfl, g2, g3, g4⟩ | ⟨kvs, kk, x, ps, rfl, g1, rfl, g2, g3, g4⟩
    · have k2 := eu_item g2 g4 (by simpa [subGet, g1] using hg') k
      obtain ⟨S', e1, e2⟩ := pl_upd h1 h2 hs k2
      exact ⟨S', by simp only [updPl, h2, h3, g1]; exact e1, e2⟩
    · have k2 := eu_ditem g2 g4 (by simpa [subGet, g1] using hg') k
      obtain ⟨S', e1, e2⟩ := pl_upd h1 h2 hs k2
      exact ⟨S', by simp only [updPl, h2, h3, g1]; exact e1, e2⟩
theorem pl_focus : ∀ {p : Pl} {v : V} {o : O}, PlAt σ S H p v → getPl p S = some o → StOk c σ S T H → ∃ R L, Ok c H R ((v, o) :: L)
  | .slot i, v, o, h1, h2, h3 => by
    obtain ⟨v', hv', L1, L2, q, q2⟩ := h3.slot (get_slot h2)
    have h1' : σ[i]? = some (some v) := h1
    rw [h1'] at hv'; cases hv'
    have h4 := h3.ok
    rw [q2] at h4
    exact ⟨[], _, h4.perm front⟩
  | .sub p q, v, o, ⟨w, op, d, h1, h2, h3, h4⟩, hg, hs => by
    have hg' : subGet op d = some o := by
      have hg2 := hg
      simp only [getPl, h2, h3] at hg2
      exact hg2
    obtain ⟨R, L, k⟩ := pl_focus h1 h2 hs
    rcases h4 with ⟨os, i, j, x, vs, rfl, rfl, g1, rfl, g2, g3, g4⟩ | ⟨kvs, kk, x, ps, rfl, g1, rfl, g2, g3, g4⟩
    · obtain ⟨_, q⟩ := k.open_at g2
      have g5 : os[j]? = some o := by simpa [subGet, g1] using hg'
      exact ⟨_, _, q.perm ((perm_at (zip_get g4 g5)).append_right _)⟩
    · obtain ⟨_, nd, q⟩ := k.open_atd g2
      have g5 : kLook kvs kk = some o := by simpa [subGet, g1] using hg'
      obtain ⟨v0, o0, rest, r1, r2, r3, _⟩ := kents_at g3 nd (by rw [g5]; rfl)
      rw [g4] at r1; cases r1
      rw [g5] at r2; cases r2
      exact ⟨_, _, q.perm (r3.append_right _)⟩

/-! quiet values -/
def SoundQ (Γ : Cs) (e : Expr) (q : QE) : Prop := ∃ t, (∀ X, XOk Γ X → PE X e t) ∧ ∀ σ S T H d, q S = some d → StOk Γ.c σ S T H → ∀ Q, (∀ v, scalD d = some v → Q v H) → t σ H Q
def qLit (d : D) : QE := fun _ => some d
def qVar (i : Nat) : QE := fun S => match S[i]? with
  | some (some (.fz d)) => if (scalD d).isSome then some d else none
  | _ => none
def qI2 (f : Int → Int → Int) (p q : QE) : QE := fun S => match p S with
  | some (.int i) => match q S with
    | some (.int j) => some (.int (f i j))
    | _ => none
  | _ => none
def qNeg (p : QE) : QE := fun S => match p S with
  | some (.int i) => some (.int (-i))
  | _ => none
theorem sq_int {i j} : SoundQ Γ (.Constant (.int i) j pos) (qLit (.int i)) := ⟨_, fun X _ => pe_int, fun σ S T H d e h Q q => by
  cases e; exact q _ rfl⟩
theorem sq_str {x j} : SoundQ Γ (.Constant (.str x) j pos) (qLit (.str x)) := ⟨_, fun X _ => pe_str, fun σ S T H d e h Q q => by
  cases e; exact q _ rfl⟩
theorem sq_var {i : Nat} {x : Str} (hN : Γ.N[i]? = some x) (hv : Vis Γ.sc x) (hd : (x == ("__debug__" : Str)) = false) (hcd : (x == ("__classdict__" : Str)) = false) : SoundQ Γ (.Name x pos) (qVar i) :=
  ⟨_, fun X hX => pe_var (i := i) (by rw [← hX.N]; exact hN) (by rw [← hX.sc]; exact hv) hd hcd, fun σ S T H d e h Q q => by
    unfold qVar at e
    split at e
    · rename_i d' hd'
      split at e
      · rename_i hs
        cases e
        obtain ⟨v, hv', _⟩ := h.slot hd'
        have h2 := (h.read hd' hv').hd.rep
        simp only [fr] at h2
        refine ⟨v, hv', q v ?_⟩
        cases d <;> simp only [scalD] at hs ⊢ <;> first | (have e2 : v = _ := h2; rw [e2]; done) | (simp at hs; done)
      · cases e
    · cases e⟩
theorem sq_add {p q : QE} (hp : SoundQ Γ a p) (hq : SoundQ Γ b q) : SoundQ Γ (.BinOp a .Add b pos) (qI2 (fun i j => i + j) p q) := by
  obtain ⟨t, h1, h2⟩ := hp
  obtain ⟨u, g1, g2⟩ := hq
  refine ⟨_, fun X hX => pe_op op_add (h1 X hX) (g1 X hX), fun σ S T H d e h Q k => ?_⟩
  unfold qI2 at e
  split at e
  · rename_i i e1
    split at e
    · rename_i j e2
      cases e
      refine h2 σ S T H _ e1 h _ fun x hx => g2 σ S T H _ e2 h _ fun y hy => ?_
      cases hx; cases hy
      exact ⟨_, _, rfl, rfl, k _ rfl⟩
    · cases e
  · cases e
theorem sq_sub {p q : QE} (hp : SoundQ Γ a p) (hq : SoundQ Γ b q) : SoundQ Γ (.BinOp a .Sub b pos) (qI2 (fun i j => i - j) p q) := by
  obtain ⟨t, h1, h2⟩ := hp
  obtain ⟨u, g1, g2⟩ := hq
  refine ⟨_, fun X hX => pe_op op_sub (h1 X hX) (g1 X hX), fun σ S T H d e h Q k => ?_⟩
  unfold qI2 at e
  split at e
  · rename_i i e1
    split at e
    · rename_i j e2
      cases e
      refine h2 σ S T H _ e1 h _ fun x hx => g2 σ S T H _ e2 h _ fun y hy => ?_
      cases hx; cases hy
      exact ⟨_, _, rfl, rfl, k _ rfl⟩
    · cases e
  · cases e
theorem sq_neg {p : QE} (hp : SoundQ Γ a p) : SoundQ Γ (.UnaryOp .USub a pos) (qNeg p) := by
  obtain ⟨t, h1, h2⟩ := hp
  refine ⟨_, fun X hX => pe_un un_neg (h1 X hX), fun σ S T H d e h Q k => ?_⟩
  unfold qNeg at e
  split at e
  · rename_i i e1
    cases e
    refine h2 σ S T H _ e1 h _ fun x hx => ?_
    cases hx
    exact ⟨_, rfl, k _ rfl⟩
  · cases e

/-! the reading of a place -/
def SoundPl (Γ : Cs) (e : Expr) (p : Pl) : Prop := ∃ t, (∀ X, XOk Γ X → PE X e t) ∧ ∀ σ S T H o, getPl p S = some o → StOk Γ.c σ S T H → ∀ Q, (∀ v, PlAt σ S H p v → Q v H) → t σ H Q
theorem sp_slot {i : Nat} {x : Str} (hN : Γ.N[i]? = some x) (hv : Vis Γ.sc x) (hd : (x == ("__debug__" : Str)) = false) (hcd : (x == ("__classdict__" : Str)) = false) : SoundPl Γ (.Name x pos) (.slot i) :=
  ⟨_, fun X hX => pe_var (i := i) (by rw [← hX.N]; exact hN) (by rw [← hX.sc]; exact hv) hd hcd, fun σ S T H o e h Q q => by
    obtain ⟨v, hv', _⟩ := h.slot (get_slot e)
    exact ⟨v, hv', q v hv'⟩⟩
theorem scal_key {d : D} {k : Key} {v : V} (e : keyD d = some k) (h : scalD d = some v) : v = kV k := by
  cases d <;> simp only [keyD] at e <;> cases e <;> cases h <;> rfl
theorem sp_sub {p : Pl} {q : QE} (hp : SoundPl Γ a p) (hq : SoundQ Γ b q) (h1 : PlainIx b) (h2 : NoSl b) : SoundPl Γ (.Subscript a b pos) (.sub p q) := by
  obtain ⟨t, p1, p2⟩ := hp
  obtain ⟨u, q1, q2⟩ := hq
  refine ⟨_, fun X hX => PE.or (pe_ix (r := rIxL Γ.K) (by rw [hX.K]; exact ix_list) (p1 X hX) (q1 X hX) h1) (pe_dget (hu_of hX.room) (p1 X hX) (q1 X hX) h2), fun σ S T H o ee hs Q k => ?_⟩
  have ee' := ee
  simp only [getPl] at ee
  split at ee
  · rename_i op eo
    split at ee
    · rename_i d eq
      cases op with
      | fz _ => simp [subGet] at ee
      | ol os =>
        cases d <;> simp only [subGet] at ee <;> try (cases ee; done)
        rename_i i
        cases hj : ixN os.length i with
        | none => rw [hj] at ee; cases ee
        | some j =>
          rw [hj] at ee
          have ee2 : os[j]? = some o := ee
          refine .inl (p2 σ S T H _ eo hs _ fun w hw => q2 σ S T H _ eq hs _ fun y hy => ?_)
          cases hy
          obtain ⟨R, L, kk⟩ := pl_focus hw eo hs
          obtain ⟨x, vs, rfl, g2, g3⟩ := kk.at_l
          have hjl := lt_of_get ee2
          obtain ⟨z, hz⟩ : ∃ z, vs[j]? = some z := ⟨_, List.getElem?_eq_getElem (by omega)⟩
          refine ⟨x, vs, i, z, rfl, rfl, .inl (.inl g2), ?_, k _ ⟨.ref x, .ol os, .int i, hw, eo, eq, .inl ⟨os, i, j, x, vs, rfl, rfl, hj, rfl, g2, g3, hz⟩⟩⟩
          unfold L2.atI
          rw [g3, hj]
          exact hz
      | od kvs =>
        simp only [subGet] at ee
        cases hk : keyD d with
        | none => rw [hk] at ee; cases ee
        | some kk =>
          rw [hk] at ee
          have ee2 : kLook kvs kk = some o := ee
          refine .inr (p2 σ S T H _ eo hs _ fun w hw => q2 σ S T H _ eq hs _ fun y hy => ?_)
          have hy' := scal_key hk hy
          subst hy'
          obtain ⟨R, L, kf⟩ := pl_focus hw eo hs
          obtain ⟨x, ps, rfl, g2, g3⟩ := kf.at_d
          have hsome : (valV ps kk).isSome = true := by rw [keysEq_look g3, ee2]; rfl
          obtain ⟨v, hv⟩ := Option.isSome_iff_exists.mp hsome
          exact ⟨x, v, rfl, .inl ⟨ps, kk, .inl g2, rfl, hv.symm⟩, k _ ⟨.ref x, .od kvs, d, hw, eo, eq, .inr ⟨kvs, kk, x, ps, rfl, hk, rfl, g2, g3, hv⟩⟩⟩
    · cases ee
  · cases ee
end Pz
set_option Elab.async false
set_option linter.all false
set_option maxRecDepth 100000
set_option maxHeartbeats 1000000
namespace Pz
open PySem PySem.Spec L2
open PyProof.Rows hiding St
variable {c : Gc} {F H H' : Hp} {L T T1 T2 : List (V × O)} {R : List Addr} {Γ : Cs} {e a b : Expr} {es : List Expr} {pos : Pos} {v w : V} {o o' : O} {σ : L2.St} {S S' : Env} {W : List Nat}

/-! ### items that are set -/
def tSetIt (t u : TE) (x : V) : L2.St → Hp → (Hp → Prop) → Prop := fun σ H Q => t σ H fun o H1 => u σ H1 fun i H2 => (rSetL o i x H2 Q ∨ rSetD o i x H2 Q)
theorem setIt_ok {p : Pl} {q : QE} {t u : TE} {x : O} (p2 : ∀ σ S T H o, getPl p S = some o → StOk c σ S T H → ∀ Q, (∀ v, PlAt σ S H p v → Q v H) → t σ H Q)
    (q2 : ∀ σ S T H d, q S = some d → StOk c σ S T H → ∀ Q, (∀ v, scalD d = some v → Q v H) → u σ H Q)
    (ee : setIt p q x S = some S') (h : StOk c σ S ((v, x) :: T) H) {Q : Hp → Prop} (k : ∀ H', StOk c σ S' T H' → Q H') : tSetIt t u v σ H Q := by
  unfold setIt at ee
  split at ee
  · rename_i op eo
    split at ee
    · rename_i d eq
      split at ee
      · rename_i o' es
        refine p2 σ S _ H _ eo h _ fun w hw => q2 σ S _ H _ eq h _ fun y hy => ?_
        obtain ⟨R, L, kf⟩ := pl_focus hw eo h
        cases op with
        | fz _ => simp [subSet] at es
        | ol os =>
          cases d <;> simp only [subSet] at es <;> try (cases es; done)
          rename_i i
          cases hj : ixN os.length i with
          | none => rw [hj] at es; cases es
          | some j =>
            rw [hj] at es
            cases es
            cases hy
            obtain ⟨z, vs, rfl, g2, g3⟩ := kf.at_l
            have hjl := (ixN_seq hj).2.1
            obtain ⟨S2, e2, k2⟩ := pl_upd (T1 := [(v, x)]) (T2 := []) hw eo h (eu_setl (v := v) (o := x) g2 hjl)
            rw [ee] at e2; cases e2
            exact .inl ⟨z, vs, i, j, rfl, rfl, g2, by rw [g3]; exact hj, k _ k2⟩
        | od kvs =>
          simp only [subSet] at es
          split at es
          · rename_i hlt
            cases hk : keyD d with
            | none => rw [hk] at es; cases es
            | some kk =>
              rw [hk] at es
              cases es
              have hy' := scal_key hk hy
              subst hy'
              obtain ⟨z, ps, rfl, g2, g3⟩ := kf.at_d
              have hlen : ps.length = kvs.length := by
                clear k kf hw eo ee h g2 hlt p2 q2
                induction ps generalizing kvs with
                | nil => cases kvs with
                  | nil => rfl
                  | cons _ _ => exact g3.elim
                | cons p ps ih => cases kvs with
                  | nil => exact g3.elim
                  | cons q kvs => simp [ih _ g3.2]
              obtain ⟨S2, e2, k2⟩ := pl_upd (T1 := [(v, x)]) (T2 := []) hw eo h (eu_put (v := v) (o := x) (k := kk) g2)
              rw [ee] at e2; cases e2
              exact .inr ⟨z, _, rfl, DPut.k g2 (by have := cap_line; omega), k _ k2⟩
          · cases es
      · cases ee
    · cases ee
  · cases ee
theorem PSet.or {X : Cx} {r r' : TSet} (h : PSet X r) (h' : PSet X r') : PSet X (fun o i v H Q => r o i v H Q ∨ r' o i v H Q) := by
  intro pins s σ H o i v ov iv u Q I ro ri rv q
  exact q.elim (h pins s σ H o i v ov iv u Q I ro ri rv) (h' pins s σ H o i v ov iv u Q I ro ri rv)
def AsgIt (o i : Expr) (pos : Pos) : Prop := ∀ env v, assign (.Subscript o i pos) env v = (do
      let ov ← holding [v] (eval o env)
      let iv ← holding [v, ov] (eval i env)
      standAt pos
      holding [v, ov, iv] (setItem ov iv v)
      release [v, ov, iv] [])
theorem sg_it {p : Pl} {q : QE} (hp : SoundPl Γ a p) (hq : SoundQ Γ b q) (ha : AsgIt a b pos) : SoundG Γ (.Subscript a b pos) (.it p q) [] := by
  obtain ⟨t, p1, p2⟩ := hp
  obtain ⟨u, q1, q2⟩ := hq
  refine ⟨_, fun X hX => pg_sub (p1 X hX) (q1 X hX) (PSet.or set_list (set_dict (hu_of hX.room))) (ha _), fun σ S T H v d S' ee h Q k => ?_⟩
  simp only [bindT] at ee
  exact setIt_ok p2 q2 ee h fun H' k2 => k σ H' (Keep.refl _ _) k2
def sSetIt (p : Pl) (q : QE) (f : EE) : SS := fun S => match f S with
  | some (x, S1) => match setIt p q x S1 with
    | some S2 => some (.nx S2)
    | none => none
  | none => none
theorem ss_setIt {p : Pl} {q : QE} {f : EE} {tpos : Pos} (hp : SoundPl Γ a p) (hq : SoundQ Γ b q) (he : SoundE Γ e f) (ha : AsgIt a b tpos) (hs : ∀ env, swapsWithSole [.Subscript a b tpos] e pos.line env = pure false) (hw : ∀ env, swappedStores [.Subscript a b tpos] e env = pure none) (h1 : ∀ env, (assignEach [.Subscript a b tpos] env).map (·.2) = [assign (.Subscript a b tpos) env]) :
    SoundS Γ (.Assign [.Subscript a b tpos] e pos) (sSetIt p q f) [] := by
  obtain ⟨t, p1, p2⟩ := hp
  obtain ⟨u, q1, q2⟩ := hq
  obtain ⟨y, f1, f2⟩ := he
  refine ⟨_, fun X hX => ps_asg (f1 X hX) (pg_sub (p1 X hX) (q1 X hX) (PSet.or set_list (set_dict (hu_of hX.room))) (ha _)) (hs _) (hw _) (h1 _), fun σ S T H out ee h D k => ?_⟩
  unfold sSetIt at ee
  split at ee
  · rename_i x S1 e1
    split at ee
    · rename_i S2 e2
      cases ee
      exact f2 σ S T H _ _ e1 h _ fun v H1 k1 => setIt_ok p2 q2 e2 k1 fun H' k2 => k σ H' (Keep.refl _ _) k2
    · cases ee
  · cases ee

/-! ### x, y = a, b -/
def setAll : List Nat → List O → Env → Env
  | i :: is, o :: os, S => setAll is os (S.set i (some o))
  | _, _, S => S
def sPar (is : List Nat) (l : EL) : SS := fun S => match l S with
  | some (os, S1) => if os.length = is.length then some (.nx (setAll is os S1)) else none
  | none => none
def setV : List Nat → List V → L2.St → L2.St
  | i :: is, v :: vs, σ => setV is vs (σ.set i (some v))
  | _, _, σ => σ
theorem put' {i : Nat} (h : StOk c σ S ((v, o) :: T) H) : StOk c (σ.set i (some v)) (S.set i (some o)) T H := by
  by_cases hi : i < S.length
  · exact h.put hi
  · have e1 : S.set i (some o) = S := List.set_eq_of_length_le (by omega)
    have e2 : σ.set i (some v) = σ := List.set_eq_of_length_le (by rw [h.cov.len]; omega)
    rw [e1, e2]
    exact h.drop
theorem setAll_ok : ∀ {is : List Nat} {vs : List V} {os : List O} {σ : L2.St} {S : Env}, vs.length = os.length → StOk c σ S (vs.zip os ++ T) H → StOk c (setV is vs σ) (setAll is os S) T H ∧ Keep is σ (setV is vs σ)
  | [], vs, os, σ, S, hl, h => ⟨by unfold setV setAll; exact h.drops, Keep.refl _ _⟩
  | i :: is, [], [], σ, S, hl, h => ⟨h, Keep.refl _ _⟩
  | i :: is, [], _ :: _, σ, S, hl, h => by simp at hl
  | i :: is, _ :: _, [], σ, S, hl, h => by simp at hl
  | i :: is, v :: vs, o :: os, σ, S, hl, h => by
    have h1 : StOk c (σ.set i (some v)) (S.set i (some o)) (vs.zip os ++ T) H := put' (show StOk c σ S ((v, o) :: (vs.zip os ++ T)) H from h)
    obtain ⟨q1, q2⟩ := setAll_ok (is := is) (by simpa using hl) h1
    exact ⟨q1, (Keep.set.mono (by simp)).trans (q2.mono (by intro j hj; exact List.mem_cons_of_mem _ hj))⟩
/-- both plain locals: stored without a tuple -/
theorem ss_par2 {i j : Nat} {x y : Str} {l : EL} {px py pt : Pos} {kt k2 pt2} (hi : Γ.N[i]? = some x) (hj : Γ.N[j]? = some y) (hij : i ≠ j) (hx : Γ.sc.names.lookup x = some .local) (hy : Γ.sc.names.lookup y = some .local) (ha : SoundL Γ [a, b] l 2)
    (hw : ∀ env : PySem.Env, env.scope = Γ.sc → swappedStores [.Tuple [.Name x px, .Name y py] kt pt] (.Tuple [a, b] k2 pt2) env = pure (some [x, y]))
    (hs : ∀ env, swapsWithSole [.Tuple [.Name x px, .Name y py] kt pt] (.Tuple [a, b] k2 pt2) pos.line env = pure false) :
    SoundS Γ (.Assign [.Tuple [.Name x px, .Name y py] kt pt] (.Tuple [a, b] k2 pt2) pos) (sPar [i, j] l) [i, j] := by
  obtain ⟨t, h1, h2⟩ := ha.2
  refine ⟨_, fun X hX => ps_par hX.calm hX.nd (by rw [← hX.N]; exact hi) (by rw [← hX.N]; exact hj) hij (by rw [← hX.sc]; exact hx) (by rw [← hX.sc]; exact hy) (h1 X hX) (hw _ hX.sc.symm) (hs _), fun σ S T H out ee h D k => ?_⟩
  unfold sPar at ee
  split at ee
  · rename_i os S1 e1
    split at ee
    · rename_i hl
      cases ee
      refine h2 σ S T H os S1 e1 h _ fun vs H1 hl2 k1 => ?_
      obtain ⟨q1, q2⟩ := setAll_ok (is := [i, j]) hl2 k1
      have hl3 : vs.length = 2 := by rw [hl2, hl]; rfl
      match vs, hl3 with
      | [v, w], _ => exact ⟨v, w, rfl, k _ H1 q2 q1⟩
    · cases ee
  · cases ee
theorem ss_par3 {i j m : Nat} {x y z : Str} {l : EL} {d : Expr} {px py pz pt : Pos} {kt k2 pt2} (hi : Γ.N[i]? = some x) (hj : Γ.N[j]? = some y) (hm : Γ.N[m]? = some z) (hij : i ≠ j) (him : i ≠ m) (hjm : j ≠ m) (hx : Γ.sc.names.lookup x = some .local) (hy : Γ.sc.names.lookup y = some .local) (hz : Γ.sc.names.lookup z = some .local) (ha : SoundL Γ [a, b, d] l 3)
    (hw : ∀ env : PySem.Env, env.scope = Γ.sc → swappedStores [.Tuple [.Name x px, .Name y py, .Name z pz] kt pt] (.Tuple [a, b, d] k2 pt2) env = pure (some [x, y, z]))
    (hs : ∀ env, swapsWithSole [.Tuple [.Name x px, .Name y py, .Name z pz] kt pt] (.Tuple [a, b, d] k2 pt2) pos.line env = pure false) :
    SoundS Γ (.Assign [.Tuple [.Name x px, .Name y py, .Name z pz] kt pt] (.Tuple [a, b, d] k2 pt2) pos) (sPar [i, j, m] l) [i, j, m] := by
  obtain ⟨t, h1, h2⟩ := ha.2
  refine ⟨_, fun X hX => ps_par3 hX.calm hX.nd (by rw [← hX.N]; exact hi) (by rw [← hX.N]; exact hj) (by rw [← hX.N]; exact hm) hij him hjm (by rw [← hX.sc]; exact hx) (by rw [← hX.sc]; exact hy) (by rw [← hX.sc]; exact hz) (h1 X hX) (hw _ hX.sc.symm) (hs _), fun σ S T H out ee h D k => ?_⟩
  unfold sPar at ee
  split at ee
  · rename_i os S1 e1
    split at ee
    · rename_i hl
      cases ee
      refine h2 σ S T H os S1 e1 h _ fun vs H1 hl2 k1 => ?_
      obtain ⟨q1, q2⟩ := setAll_ok (is := [i, j, m]) hl2 k1
      have hl3 : vs.length = 3 := by rw [hl2, hl]; rfl
      match vs, hl3 with
      | [v, w, u], _ => exact ⟨v, w, u, rfl, k _ H1 q2 q1⟩
    · cases ee
  · cases ee
/-- names that are stored to from a tuple, whatever they are -/
def SoundGN (Γ : Cs) (es : List Expr) (is : List Nat) : Prop := ∃ g, (∀ X, XOk Γ X → PGs X es g) ∧ ∀ σ vs H, vs.length = is.length → ∀ Q, Q (setV is vs σ) H → g vs σ H Q
theorem gn_nil : SoundGN Γ [] [] := ⟨_, fun X _ => pgs_nil, fun σ vs H hl Q q => by
  have e : vs = [] := List.eq_nil_of_length_eq_zero hl
  subst e
  exact ⟨rfl, q⟩⟩
theorem gn_cons {i : Nat} {is : List Nat} {x : Str} {px : Pos} (hN : Γ.N[i]? = some x) (ho : Γ.own x = true) (k : SoundGN Γ es is) (hs : ∀ env, (assignEach (.Name x px :: es) env).map (·.2) = assign (.Name x px) env :: (assignEach es env).map (·.2)) : SoundGN Γ (.Name x px :: es) (i :: is) := by
  obtain ⟨g, h1, h2⟩ := k
  refine ⟨_, fun X hX => pgs_cons (pg_name (i := i) hX.nd (by rw [← hX.N]; exact hN) (hX.own x ho).1 (hX.own x ho).2) (h1 X hX) (hs _), fun σ vs H hl Q q => ?_⟩
  cases vs with
  | nil => simp at hl
  | cons v vs => exact ⟨v, vs, rfl, h2 _ vs H (by simpa using hl) Q q⟩
theorem ss_parG {ts vs : List Expr} {is : List Nat} {l : EL} {n : Nat} {kt k2 pt pt2} (hg : SoundGN Γ ts is) (ha : SoundL Γ vs l n) (hn : n ≤ 1000) (hni : n = is.length)
    (hn1 : ∀ env, (assignEach ts env).length = n) (hst : ∀ env, (assignEach ts env).findIdx? (·.1) = none)
    (hw : ∀ env : PySem.Env, env.scope = Γ.sc → swappedStores [.Tuple ts kt pt] (.Tuple vs k2 pt2) env = pure none) (hs : ∀ env, swapsWithSole [.Tuple ts kt pt] (.Tuple vs k2 pt2) pos.line env = pure false)
    (h1 : ∀ env, (assignEach [.Tuple ts kt pt] env).map (·.2) = [assign (.Tuple ts kt pt) env]) : SoundS Γ (.Assign [.Tuple ts kt pt] (.Tuple vs k2 pt2) pos) (sPar is l) is := by
  obtain ⟨g, g1, g2⟩ := hg
  obtain ⟨t, a1, a2⟩ := ha.2
  refine ⟨tAsg (tTup t) (gTup Γ.K n g), fun X hX => by rw [hX.K]; exact ps_asg (pe_tup (a1 X hX)) (pg_tup hX.calm (g1 X hX) (hn1 _) (hst _)) (hs _) (hw _ hX.sc.symm) (h1 _), fun σ S T H out ee h D k => ?_⟩
  unfold sPar at ee
  split at ee
  · rename_i os S1 e1
    split at ee
    · rename_i hl
      cases ee
      refine a2 σ S T H os S1 e1 h _ fun vs H1 hl2 k1 => ?_
      refine ⟨small_line (by rw [hl2, hl, ← hni]; exact hn), fun p hp => ⟨p, vs, rfl, SqT.of upd_same, by rw [hl2, hl, hni], g2 _ vs _ (by rw [hl2, hl]) _ ?_⟩⟩
      obtain ⟨q1, q2⟩ := setAll_ok (is := is) hl2 (k1.same (same_upd (u := .tup vs) hp))
      exact k _ _ q2 q1
    · cases ee
  · cases ee

/-! ### methods that change a list -/
/-- a method of a list: the items, what is handed in, what is told and what the list is then -/
def MOk (c : Gc) (f : List O → O → Option (O × List O)) (r : V → List V → Hp → VK → Prop) : Prop := ∀ (H : Hp) (a : Addr) (vs : List V) (os os' : List O) (x y : O) (v : V) (R : List Addr) (L : List (V × O)) (Q : VK),
  f os x = some (y, os') → H a = some (.lst vs) → vs.length = os.length → Ok c H R ((v, x) :: L) → (∀ w H', EU c (.ref a) (.ol os) [(v, x)] H (.ol os') [(w, y)] H' → Q w H') → r (.ref a) [v] H Q
def eM1 (i : Nat) (f : List O → O → Option (O × List O)) (e : EE) : EE := fun S => match S[i]? with
  | some (some (.ol _)) => match e S with
    | some (x, S1) => match S1[i]? with
      | some (some (.ol os)) => match f os x with
        | some (y, os') => some (y, S1.set i (some (.ol os')))
        | none => none
      | _ => none
    | none => none
  | _ => none
/-- what must be seen of the text of o.name(e) -/
structure MTxt (o : Expr) (name : Str) (apos : Pos) (es : List Expr) (cpos : Pos) : Prop where
  base : ∀ env, attributeBase o name env (eval o env) = eval o env
  line : (apos.endLine == cpos.line) = true
structure MTxt1 (o : Expr) (name : Str) (apos : Pos) (e : Expr) (es : List Expr) (cpos : Pos) : Prop extends MTxt o name apos (e :: es) cpos where
  few : ∀ env, ((backTo cpos (starEach (e :: es) env)).all (fun x => !x.1) && (backToKw cpos (keywordEach [] env)).all (fun x => x.1.isSome)
      && decide ((e :: es).length + ([] : List Keyword).length + (if ([] : List Keyword).isEmpty then 0 else 1) < 30)) = true
  st : ∀ env, starEach (e :: es) env = (false, eval e env) :: starEach es env
  plain : ∀ env, (backTo cpos (starEach es env)).any (·.1) = false
theorem se_m1 {i : Nat} {x : Str} {f : List O → O → Option (O × List O)} {g : EE} {name id} {px apos cpos : Pos} {r : V → List V → Hp → VK → Prop} (slot : Slot "list" name id) (hty : typeOf (.builtin id) = pure (.type "method_descriptor")) (hm : ∀ X, XOk Γ X → MtR X id r) (hr : MOk Γ.c f r)
    (hp : SoundPl Γ (.Name x px) (.slot i)) (he : SoundE Γ e g) (tx : MTxt1 (.Name x px) name apos e [] cpos) : SoundE Γ (.Call (.Attribute (.Name x px) name apos) [e] [] cpos) (eM1 i f g) := by
  obtain ⟨t, p1, p2⟩ := hp
  obtain ⟨u, e1, e2⟩ := he
  refine ⟨tBM Γ.K "list" r t (tCons u tNil), fun X hX => by rw [hX.K]; exact pe_bm F.plainAttrs_list slot hty (hm X hX) (p1 X hX) (pa_cons (e1 X hX) pa_nil (tx.st _)) (tx.base _) (tx.few _) tx.line (tx.st _) (tx.plain _), fun σ S T H o S' ee h Q q => ?_⟩
  unfold eM1 at ee
  split at ee
  · rename_i os0 h0
    split at ee
    · rename_i z S1 ez
      split at ee
      · rename_i os h1
        split at ee
        · rename_i y os' hf
          cases ee
          have g0 : getPl (.slot i) S = some (.ol os0) := by simp only [getPl, h0]; rfl
          refine p2 σ S T H _ g0 h _ fun v hv => ?_
          have hv' : σ[i]? = some (some v) := hv
          obtain ⟨R0, L0, kf0⟩ := pl_focus hv g0 h
          obtain ⟨a0, vs0, rfl, b2, b3⟩ := kf0.at_l
          refine ⟨.inl ⟨rfl, vs0, .inl (.inl b2)⟩, e2 σ S T H _ _ ez h _ fun w H1 k1 => ?_⟩
          have g1 : getPl (.slot i) S1 = some (.ol os) := by simp only [getPl, h1]; rfl
          have hv1 : PlAt σ S1 H1 (.slot i) (.ref a0) := hv'
          obtain ⟨R1, L1, kf⟩ := pl_focus hv1 g1 k1
          obtain ⟨a1, vs, ea, c2, c3⟩ := kf.at_l
          cases ea
          exact hr H1 a0 vs os os' z o w [] _ _ hf c2 c3 k1.hd fun w' H' eu => q w' H' (updT (T1 := [(w, z)]) (T2 := [(w', o)]) k1 h1 hv' eu)
        · cases ee
      · cases ee
    · cases ee
  · cases ee
/-- without arguments, of whatever stands at a place -/
def eM0 (p : Pl) (f : List O → Option (O × List O)) : EE := fun S => match getPl p S with
  | some (.ol os) => match f os with
    | some (y, os') => match updPl p (.ol os') S with
      | some S1 => some (y, S1)
      | none => none
    | none => none
  | _ => none
def MOk0 (c : Gc) (f : List O → Option (O × List O)) (r : V → List V → Hp → VK → Prop) : Prop := ∀ (H : Hp) (a : Addr) (vs : List V) (os os' : List O) (y : O) (Q : VK),
  f os = some (y, os') → H a = some (.lst vs) → vs.length = os.length → (∀ w H', EU c (.ref a) (.ol os) [] H (.ol os') [(w, y)] H' → Q w H') → r (.ref a) [] H Q
theorem se_m0 {p : Pl} {f : List O → Option (O × List O)} {name id} {apos cpos : Pos} {r : V → List V → Hp → VK → Prop} (slot : Slot "list" name id) (hty : typeOf (.builtin id) = pure (.type "method_descriptor")) (hm : ∀ X, XOk Γ X → MtR X id r) (hr : MOk0 Γ.c f r)
    (hp : SoundPl Γ a p) (tx : MTxt a name apos [] cpos) : SoundE Γ (.Call (.Attribute a name apos) [] [] cpos) (eM0 p f) := by
  obtain ⟨t, p1, p2⟩ := hp
  refine ⟨tBM0 Γ.K "list" r t, fun X hX => by rw [hX.K]; exact pe_bm0 F.plainAttrs_list slot hty (hm X hX) (p1 X hX) (tx.base _) tx.line, fun σ S T H o S' ee h Q q => ?_⟩
  unfold eM0 at ee
  split at ee
  · rename_i os h0
    split at ee
    · rename_i y os' hf
      split at ee
      · rename_i S1 e1
        cases ee
        refine p2 σ S T H _ h0 h _ fun v hv => ?_
        obtain ⟨R0, L0, kf⟩ := pl_focus hv h0 h
        obtain ⟨a0, vs0, rfl, b2, b3⟩ := kf.at_l
        refine ⟨.inl ⟨rfl, vs0, .inl (.inl b2)⟩, hr H a0 vs0 os os' o _ hf b2 b3 fun w H' eu => ?_⟩
        obtain ⟨S2, e2, k2⟩ := pl_upd (T1 := []) (T2 := [(w, o)]) hv h0 h eu
        rw [e1] at e2; cases e2
        exact q w H' k2
      · cases ee
    · cases ee
  · cases ee
def mAppend (os : List O) (x : O) : Option (O × List O) := if os.length < cap then some (.fz .non, os ++ [x]) else none
theorem mo_append : MOk c mAppend rAppend := by
  intro H a vs os os' x y v R L Q hf he hl h q
  unfold mAppend at hf
  split at hf
  · rename_i hlt
    cases hf
    exact ⟨a, vs, v, rfl, rfl, he, by have := cap_line; omega, q _ _ (eu_append he)⟩
  · cases hf
def mExtend (os : List O) : O → Option (O × List O)
  | .ol ps => if os.length + ps.length ≤ cap then some (.fz .non, os ++ ps) else none
  | _ => none
theorem mo_extend : MOk c mExtend rExtend := by
  intro H a vs os os' x y v R L Q hf he hl h q
  unfold mExtend at hf
  split at hf
  · rename_i ps
    split at hf
    · rename_i hlt
      cases hf
      obtain ⟨b, ws, rfl, b2, b3⟩ := h.at_l
      exact ⟨a, b, vs, ws, rfl, rfl, he, b2, by have := cap_line; omega, q _ _ (eu_extend he b2)⟩
    · cases hf
  · cases hf
def mPopAt (os : List O) : O → Option (O × List O)
  | .fz (.int k) => match ixN os.length k with
    | some j => if small62 k then (os[j]?).map fun y => (y, os.eraseIdx j) else none
    | none => none
  | _ => none
theorem mo_popAt : MOk c mPopAt rPopAt := by
  intro H a vs os os' x y v R L Q hf he hl h q
  unfold mPopAt at hf
  split at hf
  · rename_i k
    split at hf
    · rename_i j hj
      split at hf
      · rename_i hk
        cases ho : os[j]? with
        | none => rw [ho] at hf; cases hf
        | some p =>
          rw [ho] at hf
          cases hf
          have hv : v = .int k := h.rep
          subst hv
          obtain ⟨s1, s2, s3, s4⟩ := ixN_seq hj
          have hk' := of_decide_eq_true hk
          obtain ⟨z, hz⟩ : ∃ z, vs[j]? = some z := ⟨_, List.getElem?_eq_getElem (by omega)⟩
          exact ⟨a, vs, k, j, z, rfl, rfl, he, by omega, by omega, by rw [hl]; exact s1, hz, q _ _ (eu_popAt he hz ho)⟩
      · cases hf
    · cases hf
  · cases hf
def mPop (os : List O) : Option (O × List O) := (os[os.length - 1]?).map fun y => (y, os.dropLast)
theorem mo_pop : MOk0 c mPop rPop := by
  intro H a vs os os' y Q hf he hl q
  unfold mPop at hf
  cases ho : os[os.length - 1]? with
  | none => rw [ho] at hf; cases hf
  | some p =>
    rw [ho] at hf
    cases hf
    have hlt := lt_of_get ho
    obtain ⟨z, hz⟩ : ∃ z, vs[os.length - 1]? = some z := ⟨_, List.getElem?_eq_getElem (by omega)⟩
    have e1 : vs.eraseIdx (os.length - 1) = vs.dropLast := by rw [← hl]; exact PyProof.Rows.Copied.eraseIdx_last vs
    have e2 : os.eraseIdx (os.length - 1) = os.dropLast := PyProof.Rows.Copied.eraseIdx_last os
    have eu := eu_popAt (c := c) (T1 := []) he hz ho
    rw [e1, e2] at eu
    exact ⟨a, vs, z, rfl, rfl, he, by rw [hl]; exact hz, q _ _ eu⟩
end Pz
set_option Elab.async false
set_option linter.all false
set_option maxRecDepth 100000
set_option maxHeartbeats 1000000
namespace Pz
open PySem PySem.Spec L2
open PyProof.Rows hiding St
variable {c : Gc} {F H H' : Hp} {L T T1 T2 : List (V × O)} {R : List Addr} {Γ : Cs} {e a b d tg : Expr} {es : List Expr} {pos : Pos} {v w : V} {o o' : O} {σ : L2.St} {S S' : Env} {W : List Nat}

/-! ### - e -/
def fNeg : List D → Option O
  | [.int i] => some (.fz (.int (-i)))
  | _ => none
theorem bi_neg : BiOk c fNeg (fun vs H Q => ∃ v, vs = [v] ∧ rU (fun i => .int (-i)) v H Q) := by
  intro F H L vs ds o Q e hF hv q
  unfold fNeg at e
  split at e
  · cases e
    obtain ⟨v, e1, h1⟩ := hv.one
    exact ⟨v, e1, _, h1.int, q _ _ (okf_scal hF rfl)⟩
  · cases e
theorem se_neg {x : AE} (hx : SoundA1 Γ a x) : SoundE Γ (.UnaryOp .USub a pos) (eBi fNeg (aCons x aNil)) := by
  obtain ⟨t, h1, h2⟩ := hx
  exact ⟨_, fun X hX => pe_un un_neg (h1 X hX), fun σ S T H o S' ee h Q q => look1 h2 bi_neg ee h q⟩

/-! ### a < b < c, of quiet b -/
/-- e's value is an int, told without any change -/
def tChn (f g : Int → Int → Bool) (p q r : EE) : TB := fun S => match p S with
  | some (.fz (.int i), S1) => match q S1 with
    | some (.fz (.int j), S2) => if f i j = true then (match r S2 with
        | some (.fz (.int k), S3) => some (g j k, S3)
        | _ => none) else some (false, S2)
    | _ => none
  | _ => none
/-- an int comparison -/
def ICmp (Γ : Cs) (op : CmpOp) (f : Int → Int → Bool) : Prop := ∃ r : R2, (∀ X, XOk Γ X → OpR X (compareOp op) r) ∧ ∀ i j H Q, Q (.bl (f i j)) H → r (.int i) (.int j) H Q
theorem chn_read {f g : Int → Int → Bool} {p q r : EE} {r1 r2 : R2} {ta tb tc : TE} {bb : Bool}
    (k1 : ∀ i j H Q, Q (.bl (f i j)) H → r1 (.int i) (.int j) H Q) (k2 : ∀ i j H Q, Q (.bl (g i j)) H → r2 (.int i) (.int j) H Q)
    (a2 : ∀ σ S T H o S', p S = some (o, S') → StOk c σ S T H → ∀ Q, (∀ v H', StOk c σ S' ((v, o) :: T) H' → Q v H') → ta σ H Q)
    (b2 : ∀ σ S T H o S', q S = some (o, S') → StOk c σ S T H → ∀ Q, (∀ v H', StOk c σ S' ((v, o) :: T) H' → Q v H') → tb σ H Q)
    (c2 : ∀ σ S T H o S', r S = some (o, S') → StOk c σ S T H → ∀ Q, (∀ v H', StOk c σ S' ((v, o) :: T) H' → Q v H') → tc σ H Q)
    (ee : tChn f g p q r S = some (bb, S')) (h : StOk c σ S T H) {Qv : VK} (k : ∀ H', StOk c σ S' T H' → Qv (.bl bb) H') : tChain r1 r2 ta tb tc σ H Qv := by
  unfold tChn at ee
  split at ee
  · rename_i i S1 e1
    split at ee
    · rename_i j S2 e2
      refine a2 σ S T H _ S1 e1 h _ fun x H1 h1 => ?_
      have x1 : x = .int i := h1.hd.rep
      refine b2 σ S1 _ H1 _ S2 e2 h1 _ fun y H2 h2 => ?_
      have y1 : y = .int j := h2.hd.rep
      subst x1; subst y1
      refine k1 i j H2 _ ⟨_, rfl, ?_⟩
      split at ee
      · rename_i hf
        split at ee
        · rename_i z S3 e3
          cases ee
          rw [hf]
          refine iteT (c2 σ S2 _ H2 _ S' e3 h2 _ fun z' H3 h3 => ?_)
          have z1 : z' = .int z := h3.hd.rep
          subst z1
          exact k2 j z H3 _ (k H3 h3.drop.drop.drop)
        · cases ee
      · rename_i hf
        cases ee
        have hf' : f i j = false := by simpa using hf
        rw [hf']
        exact iteF (k H2 h2.drop.drop)
    · cases ee
  · cases ee
theorem se_chn {op op' : CmpOp} {f g : Int → Int → Bool} {p q r : EE} (ho : ICmp Γ op f) (ho' : ICmp Γ op' g) (hp : SoundE Γ a p) (hq : SoundE Γ b q) (hr : SoundE Γ d r) (hm : lastMarks [op, op'] [b, d] = false) : SoundE Γ (.Compare a [op, op'] [b, d] pos) (eT (tChn f g p q r)) := by
  obtain ⟨r1, o1, k1⟩ := ho
  obtain ⟨r2, o2, k2⟩ := ho'
  obtain ⟨ta, a1, a2⟩ := hp
  obtain ⟨tb, b1, b2⟩ := hq
  obtain ⟨tc, c1, c2⟩ := hr
  refine ⟨_, fun X hX => pe_chain (o1 X hX) (o2 X hX) (a1 X hX) (b1 X hX) (c1 X hX) hm, fun σ S T H o S' ee h Q k => ?_⟩
  unfold eT at ee
  split at ee
  · rename_i bb S1 e1
    cases ee
    exact chn_read k1 k2 a2 b2 c2 e1 h fun H' h' => k _ _ (.of_hd h'.cov (h'.ok.scal rfl))
  · cases ee
theorem st_chn {op op' : CmpOp} {f g : Int → Int → Bool} {p q r : EE} (ho : ICmp Γ op f) (ho' : ICmp Γ op' g) (hp : SoundE Γ a p) (hq : SoundE Γ b q) (hr : SoundE Γ d r) (hm : lastMarks [op, op'] [b, d] = false) : SoundT Γ (.Compare a [op, op'] [b, d] pos) (tChn f g p q r) := by
  obtain ⟨r1, o1, k1⟩ := ho
  obtain ⟨r2, o2, k2⟩ := ho'
  obtain ⟨ta, a1, a2⟩ := hp
  obtain ⟨tb, b1, b2⟩ := hq
  obtain ⟨tc, c1, c2⟩ := hr
  refine ⟨_, fun X hX => pt_chain (o1 X hX) (o2 X hX) (a1 X hX) (b1 X hX) (c1 X hX) hm, fun σ S T H bb S' ee h Q k => ?_⟩
  exact chn_read (Qv := fun x H1 => ∃ k, x = .bl k ∧ Q k H1) k1 k2 a2 b2 c2 ee h fun H' h' => ⟨bb, rfl, k H' h'⟩

/-! ### a constant of the module -/
structure Glo (Γ : Cs) (x : Str) (d : D) : Prop where
  gl : Γ.sc.names.lookup x = some .globalImplicit
  val : ∃ v u, Γ.mg x = some u ∧ RelV v u ∧ ∀ F, RepD Γ.c F d v
theorem se_glo {x : Str} {d : D} (G : Glo Γ x d) (hd : (x == ("__debug__" : Str)) = false) : SoundE Γ (.Name x pos) (eLit d) := by
  obtain ⟨v, u, h1, h2, h3⟩ := G.val
  refine ⟨_, fun X hX => pe_glob (by show X.env.scope.names.lookup _ = _; rw [← hX.sc]; exact G.gl) (by rw [← hX.mg]; exact h1) h2 hd, fun σ S T H o S' ee h Q q => ?_⟩
  cases ee
  obtain ⟨F, hF⟩ := h.ok
  exact q v H (.of_hd h.cov (OkF.add (F := F) hF (h3 F)).ok)

/-! ### list * int, [::-1] -/
def fRep : List D → Option O
  | [.lst ds, .int k] => if small62 k && decide (ds.length * k.toNat ≤ cap) then some (.ol ((List.replicate k.toNat ds).flatten.map O.fz)) else none
  | _ => none
theorem RepDs.rep {ds : List D} {vs : List V} (h : RepDs c F ds vs) : ∀ k : Nat, RepDs c F (List.replicate k ds).flatten (List.replicate k vs).flatten
  | 0 => rfl
  | k + 1 => by
    rw [List.replicate_succ, List.replicate_succ, List.flatten_cons, List.flatten_cons]
    exact h.app (RepDs.rep h k)
theorem RepDs.rev : ∀ {ds : List D} {vs : List V}, RepDs c F ds vs → RepDs c F ds.reverse vs.reverse
  | [], vs, h => by
    have h' : vs = [] := h
    subst h'; exact rfl
  | d :: ds, vs, ⟨v, r, e, h1, h2⟩ => by
    subst e
    rw [List.reverse_cons, List.reverse_cons]
    exact (RepDs.rev h2).app ⟨v, [], rfl, h1, rfl⟩
def fRevL : List D → Option O
  | [.lst ds] => some (.ol (ds.reverse.map O.fz))
  | _ => none
theorem bi_revL : BiOk c fRevL (fun vs H Q => ∃ v, vs = [v] ∧ ∃ a xs, v = .ref a ∧ SqL c.K H a xs ∧ ∀ p, H p = none → Q (.ref p) (upd H p (.lst xs.reverse))) := by
  intro F H L vs ds o Q e hF hv q
  unfold fRevL at e
  split at e
  · cases e
    obtain ⟨v, e1, h1⟩ := hv.one
    obtain ⟨l, xs, a1, a2, a3⟩ := h1.list hF.same
    exact ⟨v, e1, l, xs, a1, a2, fun p hp => q _ _ (hF.newL a3.rev hp)⟩
  · cases e
theorem se_revL {x : AE} {k : Nat} {p1 p2 p3 : Pos} (hx : SoundA1 Γ a x) : SoundE Γ (.Subscript a (.Slice none none (some (.UnaryOp .USub (.Constant (.int 1) k p1) p2)) p3) pos) (eBi fRevL (aCons x aNil)) := by
  obtain ⟨t, h1, h2⟩ := hx
  exact ⟨tRevL Γ.K t, fun X hX => by rw [hX.K]; exact pe_revL (h1 X hX), fun σ S T H o S' ee h Q q => look1 h2 bi_revL ee h q⟩

/-! ### enumerate(list) -/
theorem pairs_get : ∀ {ds : List D} {k i : Nat} {d : D}, (pairsFrom k ds)[i]? = some d → ∃ d', ds[i]? = some d' ∧ d = .tup [.int ((k + i : Nat) : Int), d']
  | [], k, i, d, h => by simp [pairsFrom] at h
  | x :: ds, k, 0, d, h => by
    simp [pairsFrom] at h
    exact ⟨x, rfl, by rw [← h]; rfl⟩
  | x :: ds, k, i + 1, d, h => by
    obtain ⟨d', h1, h2⟩ := pairs_get (ds := ds) (k := k + 1) (i := i) (d := d) (by simpa [pairsFrom] using h)
    exact ⟨d', by simpa using h1, by rw [h2, show k + 1 + i = k + (i + 1) by omega]⟩
theorem pairs_len : ∀ {ds : List D} {k : Nat}, (pairsFrom k ds).length = ds.length
  | [], _ => rfl
  | _ :: ds, k => by simp [pairsFrom, pairs_len (ds := ds)]
theorem walks_enum {a : Addr} {ds : List D} : Walks c (Ite c.K a) (pairsFrom 0 ds) [(.ref a, .fz (.lst ds))] where
  step := fun i H L d hd h => by
    obtain ⟨d', hd', rfl⟩ := pairs_get hd
    obtain ⟨a', vs, e1, e2, e3, e4⟩ := Ok.kids_l h
    cases e1
    have hi : i < ds.length := lt_of_get hd'
    obtain ⟨z, hz⟩ : ∃ z, vs[i]? = some z := ⟨_, List.getElem?_eq_getElem (by omega)⟩
    refine ⟨⟨vs, z, e2, hz⟩, fun x H' y => ?_⟩
    obtain ⟨T, x', rfl, hT, rfl, hx⟩ := y
    have hm : (x', O.fz d') ∈ vs.zip (ds.map O.fz) := zip_mem (hx vs e2) (by rw [List.getElem?_map, hd']; rfl)
    have h3 := e4.pick (List.mem_append_left _ hm)
    have h4 : Ok c H [] ((x', .fz d') :: ((.ref a, .fz (.lst ds)) :: L)) := (h3.perm (List.perm_middle (l₁ := vs.zip (ds.map O.fz))).symm).drop_left
    have h5 : Ok c H [] ((V.int (i : Nat), .fz (.int (i : Nat))) :: (x', .fz d') :: ((.ref a, .fz (.lst ds)) :: L)) := h4.scal rfl
    rw [Nat.zero_add]
    exact Ok.new_t (vs := [.int (i : Nat), x']) (ds := [.int (i : Nat), d']) h5 rfl hT
  stop := fun H L h => by
    obtain ⟨a', vs, e1, e2, e3, e4⟩ := Ok.kids_l h
    cases e1
    exact ⟨vs, e2, by rw [pairs_len]; omega⟩
/-- the list alone -/
def iEnL (a : AE) : IE := fun S => match a S with
  | some (.tmp o, S1) => match fr o with
    | .lst ds => some (pairsFrom 0 ds, S1)
    | _ => none
  | some (.ref i, S1) => match S1[i]? with
    | some (some o) => match fr o with
      | .lst ds => some (pairsFrom 0 ds, S1.set i (some (.fz (.lst ds))))
      | _ => none
    | _ => none
  | none => none
theorem si_enL {elts : List Expr} {kk : Nat} {tpos p : Pos} {f : AE} (h : SoundA1 Γ e f) (hg : Γ.sc.names.lookup ("enumerate" : Str) = some .globalImplicit) (hm : Γ.mg "enumerate" = none) (hs : ∀ env, starEach [e] env = [(false, eval e env)]) : SoundI Γ (.Tuple elts kk tpos) (.Call (.Name "enumerate" p) [e] [] pos) (iEnL f) := by
  obtain ⟨t, h1, h2⟩ := h
  refine ⟨fun σ H R => t σ H fun v H1 => ∃ a xs, [v] = [V.ref a] ∧ SqL Γ.K H1 a xs ∧ R (Ite Γ.K a) H1, fun X hX => by
    rw [hX.K]
    exact pi_enum (by show X.env.scope.names.lookup _ = _; rw [← hX.sc]; exact hg) (by rw [← hX.mg]; exact hm) (pa_cons (h1 X hX) pa_nil (hs _)) (hs _), fun σ S T H ds S' ee hs R q => ?_⟩
  unfold iEnL at ee
  split at ee
  · rename_i o S1 e1
    split at ee
    · rename_i ds' e2
      cases ee
      refine h2 σ S T H _ _ e1 hs _ fun v H1 r1 k1 => ?_
      have k2 : StOk Γ.c σ S' ((v, .fz (fr o)) :: T) H1 := .of_hd k1.cov (StOk.hd (e := (v, o)) k1).freeze
      rw [e2] at k2
      obtain ⟨a', vs, e1', e2', e3', e4'⟩ := Ok.kids_l k2.hd
      subst e1'
      exact ⟨a', vs, rfl, e2', q _ H1 [(.ref a', .fz (.lst ds'))] walks_enum k2⟩
    · cases ee
  · rename_i i S1 e1
    split at ee
    · rename_i o e0
      split at ee
      · rename_i ds' e2
        cases ee
        refine h2 σ S T H _ _ e1 hs _ fun v H1 r1 k1 => ?_
        have k2 := StOk.read (T := T) k1 e0 r1.1
        rw [e2] at k2
        obtain ⟨a', vs, e1', e2', e3', e4'⟩ := Ok.kids_l k2.hd
        subst e1'
        exact ⟨a', vs, rfl, e2', q _ H1 [(.ref a', .fz (.lst ds'))] walks_enum k2⟩
      · cases ee
    · cases ee
  · cases ee

/-! ### {k: v, ..} -/
def dLit (ks : List Str) : List Key := ks.map Sum.inr
/-- the values in turn; all keys are written texts, no one twice -/
def SoundKV (Γ : Cs) (pos : Pos) (keys : List (Option Expr)) (vs : List Expr) (ks : List Str) (l : EL) : Prop := ∃ trs, (∀ X, XOk Γ X → PPs X pos keys vs trs) ∧ ∀ σ S T H os S', l S = some (os, S') → StOk Γ.c σ S T H → ∀ Q : List (V × V) → Hp → Prop, (∀ xs H', xs.length = os.length → os.length = ks.length → StOk Γ.c σ S' (xs.zip os ++ T) H' → Q ((ks.map V.str).zip xs) H') → tPairs trs σ H Q
theorem kv_nil : SoundKV Γ pos [] [] [] lNil := ⟨[], fun X _ => pps_nil, fun σ S T H os S' e h Q q => by
  cases e
  exact q [] H rfl rfl h⟩
theorem kv_cons {x : Str} {j : Nat} {p1 : Pos} {keys : List (Option Expr)} {vs : List Expr} {ks : List Str} {f : EE} {l : EL} (he : SoundE Γ e f) (hr : SoundKV Γ pos keys vs ks l) : SoundKV Γ pos (some (.Constant (.str x) j p1) :: keys) (e :: vs) (x :: ks) (lCons f l) := by
  obtain ⟨t, h1, h2⟩ := he
  obtain ⟨trs, g1, g2⟩ := hr
  refine ⟨_, fun X hX => pps_cons pe_str (h1 X hX) (g1 X hX), fun σ S T H os S' ee h Q q => ?_⟩
  unfold lCons at ee
  split at ee
  · rename_i o S1 e1
    split at ee
    · rename_i os1 S2 e2
      cases ee
      refine h2 σ S T H o S1 e1 h _ fun v H1 k1 => ?_
      refine g2 σ S1 _ H1 os1 S' e2 k1 _ fun xs H2 l1 l2 k2 => ?_
      refine q (v :: xs) H2 (by simp [l1]) (by simp [l2]) (k2.permT ?_)
      show (xs.zip os1 ++ ([(v, o)] ++ T)).Perm ((v, o) :: (xs.zip os1 ++ T))
      exact List.perm_middle
    · cases ee
  · cases ee
theorem merge_new : ∀ {kvs acc : List (Key × V)}, ((acc ++ kvs).map (·.1)).Nodup → mergeK acc kvs = acc ++ kvs
  | [], acc, h => by simp [mergeK]
  | (k, v) :: kvs, acc, h => by
    have hk : valV acc k = none := by
      cases e : valV acc k with
      | none => rfl
      | some x =>
        have ha : (acc.any fun kv => decide (kv.1 = k)) = true := by rw [valV_any, e]; rfl
        obtain ⟨p, hp, e2⟩ := List.any_eq_true.mp ha
        have e3 : p.1 = k := by simpa using e2
        rw [List.map_append] at h
        exact ((List.nodup_append.mp h).2.2 p.1 (List.mem_map.mpr ⟨p, hp, rfl⟩) k (by simp) e3).elim
    show mergeK (putK acc k v) kvs = _
    rw [putK_new v hk, merge_new (by simpa using h), List.append_assoc]
    rfl
def eDct (ks : List Str) (l : EL) : EE := fun S => match l S with
  | some (os, S1) => some (.od ((ks.map Sum.inr).zip os), S1)
  | none => none
theorem se_dct {keys : List (Option Expr)} {vs : List Expr} {ks : List Str} {l : EL} (hv : SoundKV Γ pos keys vs ks l) (hall : keys.all (·.isSome) = true) (hl : keys.length = vs.length) (h0 : keys ≠ []) (h15 : keys.length ≤ 15) (hks : ks.length ≤ 15) (nd : ks.Nodup) : SoundE Γ (.Dict keys vs pos) (eDct ks l) := by
  obtain ⟨trs, h1, h2⟩ := hv
  refine ⟨_, fun X hX => pe_disp (h1 X hX) hall hl h0 h15, fun σ S T H o S' ee h Q q => ?_⟩
  unfold eDct at ee
  split at ee
  · rename_i os S1 e1
    cases ee
    intro p hp
    have h3 : StOk Γ.c σ S ((.ref p, .od []) :: T) (upd H p (.dK [])) := .of_hd h.cov (Ok.new_d (ps := []) (kvs := []) h.ok trivial List.nodup_nil hp)
    refine h2 σ S _ _ os S' e1 h3 _ fun xs H' l1 l2 k1 => ?_
    have k2 : StOk Γ.c σ S' ((.ref p, .od []) :: (xs.zip os ++ T)) H' := k1.permT List.perm_middle
    obtain ⟨p', ps, e2, e3, e4, e5, e6⟩ := k2.hd.open_d
    cases e2
    have ps0 : ps = [] := by cases ps with
      | nil => rfl
      | cons _ _ => exact e4.elim
    subst ps0
    have ez : (ks.map V.str).zip xs = (((ks.map Sum.inr).zip xs : List (Key × V))).map fun kv => (kV kv.1, kv.2) := by
      clear e6 k1 k2 h3 h2 h1 q e1 l2 hks nd
      induction ks generalizing xs os with
      | nil => simp
      | cons k ks ih => cases xs with
        | nil => simp
        | cons x xs =>
          simp only [List.map_cons, List.zip_cons_cons]
          cases os with
          | nil => simp at l1
          | cons o os => rw [ih (os := os) xs (by simpa using l1)]; rfl
    have kd : ((ks.map Sum.inr : List Key)).Nodup := List.Pairwise.map _ (fun a b hab => fun z => hab (Sum.inr.inj z)) nd
    have keys1 : (((ks.map Sum.inr).zip xs : List (Key × V))).map (·.1) = ks.map Sum.inr := List.map_fst_zip (by simp; omega)
    have keys2 : (((ks.map Sum.inr).zip os : List (Key × O))).map (·.1) = ks.map Sum.inr := List.map_fst_zip (by simp; omega)
    refine ⟨e3, (ks.map Sum.inr).zip xs, ez, by rw [List.length_zip]; simp; omega, q _ _ (.of_hd k2.cov ?_)⟩
    rw [merge_new (by simpa [keys1] using kd), List.nil_append]
    refine Ok.close_d ?_ ?_ (by rw [keys2]; exact kd)
    · have e7 : kents ((ks.map Sum.inr).zip xs) ((ks.map Sum.inr).zip os) = xs.zip os := by
        clear e6 k1 k2 h3 h2 h1 q e1 hks nd ez kd keys1 keys2
        induction ks generalizing xs os with
        | nil =>
          have : os = [] := List.eq_nil_of_length_eq_zero (by simpa using l2)
          subst this; simp [kents]
        | cons k ks ih => cases xs with
          | nil => simp [kents]
          | cons x xs => cases os with
            | nil => simp at l1
            | cons o os => simp only [List.map_cons, List.zip_cons_cons, kents]; rw [ih _ _ (by simpa using l1) (by simpa using l2)]
      rw [e7]
      have e8 : Ok Γ.c H' [p] (xs.zip os ++ (ents σ S' ++ T)) := (show Ok Γ.c H' [p] (ents σ S' ++ (xs.zip os ++ T)) from e6).perm (by
        rw [← List.append_assoc, ← List.append_assoc]
        exact List.perm_append_comm.append_right T)
      exact e8
    · clear e6 k1 k2 h3 h2 h1 q e1 hks nd ez kd keys1 keys2
      induction ks generalizing xs os with
      | nil => simp [KeysEq]
      | cons k ks ih => cases xs with
        | nil => cases os with
          | nil => simp [KeysEq]
          | cons _ _ => simp at l1
        | cons x xs => cases os with
          | nil => simp at l1
          | cons o os => exact ⟨rfl, ih _ _ (by simpa using l1) (by simpa using l2)⟩
  · cases ee
end Pz
set_option Elab.async false
set_option linter.all false
set_option maxRecDepth 100000
set_option maxHeartbeats 1000000
namespace Pz
open PySem PySem.Spec L2
open PyProof.Rows hiding St
variable {c : Gc} {F H H' : Hp} {L T T1 T2 : List (V × O)} {R : List Addr} {Γ : Cs} {e a b d tg : Expr} {es : List Expr} {pos : Pos} {v w : V} {o o' : O} {σ : L2.St} {S S' : Env} {W : List Nat} {x y : AE}

/-! ### operators, in short -/
abbrev e2 (f : List D → Option O) (x y : AE) : EE := eBi f (aCons x (aCons y aNil))
abbrev e1 (f : List D → Option O) (x : AE) : EE := eBi f (aCons x aNil)
theorem se_add (hx : SoundA1 Γ a x) (hy : SoundA1 Γ b y) : SoundE Γ (.BinOp a .Add b pos) (e2 fAdd x y) := se_op (r := rAddA Γ.K) hx hy (fun X hX t u ht hu => by rw [hX.K]; exact pe_op op_addA ht hu) bi_add
theorem se_sub (hx : SoundA1 Γ a x) (hy : SoundA1 Γ b y) : SoundE Γ (.BinOp a .Sub b pos) (e2 fSub x y) := se_op hx hy (fun X hX t u ht hu => pe_op op_sub ht hu) bi_sub
theorem se_mul (hx : SoundA1 Γ a x) (hy : SoundA1 Γ b y) : SoundE Γ (.BinOp a .Mult b pos) (e2 fMulI x y) := se_op hx hy (fun X hX t u ht hu => pe_op op_mulA ht hu) bi_mulI
theorem se_div (hx : SoundA1 Γ a x) (hy : SoundA1 Γ b y) : SoundE Γ (.BinOp a .FloorDiv b pos) (e2 fDiv x y) := se_op hx hy (fun X hX t u ht hu => pe_op op_divA ht hu) bi_div
theorem se_mod (hx : SoundA1 Γ a x) (hy : SoundA1 Γ b y) : SoundE Γ (.BinOp a .Mod b pos) (e2 fMod x y) := se_op hx hy (fun X hX t u ht hu => pe_op op_modN ht hu) bi_mod
theorem se_lt (hx : SoundA1 Γ a x) (hy : SoundA1 Γ b y) : SoundE Γ (.Compare a [.Lt] [b] pos) (e2 fLt x y) := se_cmp hx hy (fun _ _ => op_lt) (nomark b) bi_lt
theorem se_le (hx : SoundA1 Γ a x) (hy : SoundA1 Γ b y) : SoundE Γ (.Compare a [.LtE] [b] pos) (e2 fLe x y) := se_cmp hx hy (fun _ _ => op_le) (nomark b) bi_le
theorem se_gt (hx : SoundA1 Γ a x) (hy : SoundA1 Γ b y) : SoundE Γ (.Compare a [.Gt] [b] pos) (e2 fGt x y) := se_cmp hx hy (fun _ _ => op_gt) (nomark b) bi_gt
theorem se_ge (hx : SoundA1 Γ a x) (hy : SoundA1 Γ b y) : SoundE Γ (.Compare a [.GtE] [b] pos) (e2 fGe x y) := se_cmp hx hy (fun _ _ => op_ge) (nomark b) bi_ge
theorem u64 {X : Cx} (hX : XOk Γ X) : X.A.units + 64 < cLine := by have := units_of hX; omega
theorem se_eq (hx : SoundA1 Γ a x) (hy : SoundA1 Γ b y) : SoundE Γ (.Compare a [.Eq] [b] pos) (e2 fEq x y) := se_cmp (r := rEqD Γ.K) hx hy (fun _ hX => by rw [hX.K]; exact op_eqD (u64 hX)) (nomark b) bi_eq
theorem se_ne (hx : SoundA1 Γ a x) (hy : SoundA1 Γ b y) : SoundE Γ (.Compare a [.NotEq] [b] pos) (e2 fNe x y) := se_cmp (r := rNeD Γ.K) hx hy (fun _ hX => by rw [hX.K]; exact op_neD (u64 hX)) (nomark b) bi_ne
theorem st_lt (hx : SoundA1 Γ a x) (hy : SoundA1 Γ b y) : SoundT Γ (.Compare a [.Lt] [b] pos) (tE (e2 fLt x y)) := st_cmp hx hy (fun _ _ => op_lt) (nomark b) bi_lt
theorem st_le (hx : SoundA1 Γ a x) (hy : SoundA1 Γ b y) : SoundT Γ (.Compare a [.LtE] [b] pos) (tE (e2 fLe x y)) := st_cmp hx hy (fun _ _ => op_le) (nomark b) bi_le
theorem st_gt (hx : SoundA1 Γ a x) (hy : SoundA1 Γ b y) : SoundT Γ (.Compare a [.Gt] [b] pos) (tE (e2 fGt x y)) := st_cmp hx hy (fun _ _ => op_gt) (nomark b) bi_gt
theorem st_ge (hx : SoundA1 Γ a x) (hy : SoundA1 Γ b y) : SoundT Γ (.Compare a [.GtE] [b] pos) (tE (e2 fGe x y)) := st_cmp hx hy (fun _ _ => op_ge) (nomark b) bi_ge
theorem st_eq (hx : SoundA1 Γ a x) (hy : SoundA1 Γ b y) : SoundT Γ (.Compare a [.Eq] [b] pos) (tE (e2 fEq x y)) := st_cmp (r := rEqD Γ.K) hx hy (fun _ hX => by rw [hX.K]; exact op_eqD (u64 hX)) (nomark b) bi_eq
theorem st_ne (hx : SoundA1 Γ a x) (hy : SoundA1 Γ b y) : SoundT Γ (.Compare a [.NotEq] [b] pos) (tE (e2 fNe x y)) := st_cmp (r := rNeD Γ.K) hx hy (fun _ hX => by rw [hX.K]; exact op_neD (u64 hX)) (nomark b) bi_ne
theorem se_isB (hx : SoundA1 Γ a x) (hy : SoundA1 Γ b y) : SoundE Γ (.Compare a [.Is] [b] pos) (e2 fIsB x y) := se_cmp hx hy (fun _ _ => op_isBl) (nomark b) bi_isB
theorem se_isntB (hx : SoundA1 Γ a x) (hy : SoundA1 Γ b y) : SoundE Γ (.Compare a [.IsNot] [b] pos) (e2 fNotB x y) := se_cmp hx hy (fun _ _ => op_notBl) (nomark b) bi_notB
theorem st_isB (hx : SoundA1 Γ a x) (hy : SoundA1 Γ b y) : SoundT Γ (.Compare a [.Is] [b] pos) (tE (e2 fIsB x y)) := st_cmp hx hy (fun _ _ => op_isBl) (nomark b) bi_isB
theorem st_isntB (hx : SoundA1 Γ a x) (hy : SoundA1 Γ b y) : SoundT Γ (.Compare a [.IsNot] [b] pos) (tE (e2 fNotB x y)) := st_cmp hx hy (fun _ _ => op_notBl) (nomark b) bi_notB
theorem ic_lt : ICmp Γ .Lt (fun i j => decide (i < j)) := ⟨_, fun _ _ => op_lt, fun i j H Q q => ⟨i, j, rfl, rfl, q⟩⟩
theorem ic_le : ICmp Γ .LtE (fun i j => decide (i ≤ j)) := ⟨_, fun _ _ => op_le, fun i j H Q q => ⟨i, j, rfl, rfl, q⟩⟩
theorem ic_gt : ICmp Γ .Gt (fun i j => decide (j < i)) := ⟨_, fun _ _ => op_gt, fun i j H Q q => ⟨i, j, rfl, rfl, q⟩⟩
theorem ic_ge : ICmp Γ .GtE (fun i j => decide (j ≤ i)) := ⟨_, fun _ _ => op_ge, fun i j H Q q => ⟨i, j, rfl, rfl, q⟩⟩

/-! ### built-ins, in short -/
/-- the name stands for the built-in -/
structure Bi (Γ : Cs) (x : Str) : Prop where
  gl : Γ.sc.names.lookup x = some .globalImplicit
  no : Γ.mg x = none
variable {p : Pos}
section
variable {as : AL} (st : ∀ env, starEach (e :: es) env = (false, eval e env) :: starEach es env) (pl : ∀ env, (backTo pos (starEach es env)).any (·.1) = false)
theorem se_len (B : Bi Γ "len") (ha : SoundA Γ (e :: es) as) (st : ∀ env, starEach (e :: es) env = (false, eval e env) :: starEach es env) (pl : ∀ env, (backTo pos (starEach es env)).any (·.1) = false) : SoundE Γ (.Call (.Name "len" p) (e :: es) [] pos) (eBi fLen as) :=
  se_callB (r := fun vs H Q => ∃ x n, vs = [x] ∧ LenV Γ.K x H n ∧ Q (.int n) H) (fun X hX => by rw [hX.K]; exact call_len) B.gl B.no rfl ha bi_len (by decide) (by decide) st pl
theorem se_int1 (B : Bi Γ "int") (ha : SoundA Γ (e :: es) as) (st : ∀ env, starEach (e :: es) env = (false, eval e env) :: starEach es env) (pl : ∀ env, (backTo pos (starEach es env)).any (·.1) = false) : SoundE Γ (.Call (.Name "int" p) (e :: es) [] pos) (eBi fInt as) :=
  se_callTy (fun X hX => call_int1) B.gl B.no rfl ha bi_int (by decide) (by decide) st pl
theorem se_abs (B : Bi Γ "abs") (ha : SoundA Γ (e :: es) as) (st : ∀ env, starEach (e :: es) env = (false, eval e env) :: starEach es env) (pl : ∀ env, (backTo pos (starEach es env)).any (·.1) = false) : SoundE Γ (.Call (.Name "abs" p) (e :: es) [] pos) (eBi fAbs as) :=
  se_callB (fun X hX => call_abs) B.gl B.no rfl ha bi_abs (by decide) (by decide) st pl
theorem se_max2 (B : Bi Γ "max") (ha : SoundA Γ (e :: es) as) (st : ∀ env, starEach (e :: es) env = (false, eval e env) :: starEach es env) (pl : ∀ env, (backTo pos (starEach es env)).any (·.1) = false) : SoundE Γ (.Call (.Name "max" p) (e :: es) [] pos) (eBi fMax2 as) :=
  se_callB (fun X hX => call_max2 hX.calm) B.gl B.no rfl ha bi_max2 (by decide) (by decide) st pl
theorem se_min2 (B : Bi Γ "min") (ha : SoundA Γ (e :: es) as) (st : ∀ env, starEach (e :: es) env = (false, eval e env) :: starEach es env) (pl : ∀ env, (backTo pos (starEach es env)).any (·.1) = false) : SoundE Γ (.Call (.Name "min" p) (e :: es) [] pos) (eBi fMin2 as) :=
  se_callB (fun X hX => call_min2 hX.calm) B.gl B.no rfl ha bi_min2 (by decide) (by decide) st pl
theorem se_tuple (B : Bi Γ "tuple") (ha : SoundA Γ (e :: es) as) (st : ∀ env, starEach (e :: es) env = (false, eval e env) :: starEach es env) (pl : ∀ env, (backTo pos (starEach es env)).any (·.1) = false) : SoundE Γ (.Call (.Name "tuple" p) (e :: es) [] pos) (eBi fTuple as) :=
  se_callTy (r := fun xs H Q => ∃ p ys, xs = [.ref p] ∧ ((SqL Γ.K H p ys ∧ ∀ l, H l = none → Q (.ref l) (upd H l (.tup ys))) ∨ (SqT Γ.K H p ys ∧ Q (.ref p) H))) (fun X hX => by rw [hX.K]; exact call_tuple_of) B.gl B.no rfl ha bi_tuple (by decide) (by decide) st pl
theorem se_list (B : Bi Γ "list") (ha : SoundA Γ (e :: es) as) (st : ∀ env, starEach (e :: es) env = (false, eval e env) :: starEach es env) (pl : ∀ env, (backTo pos (starEach es env)).any (·.1) = false) : SoundE Γ (.Call (.Name "list" p) (e :: es) [] pos) (eBi fList as) :=
  se_callTy (r := fun xs H Q => ∃ p ys, xs = [.ref p] ∧ (SqL Γ.K H p ys ∨ SqT Γ.K H p ys) ∧ ∀ l, H l = none → Q (.ref l) (upd H l (.lst ys))) (fun X hX => by rw [hX.K]; exact call_list_of) B.gl B.no rfl ha bi_list (by decide) (by decide) st pl
theorem se_all (B : Bi Γ "all") (ha : SoundA Γ (e :: es) as) (st : ∀ env, starEach (e :: es) env = (false, eval e env) :: starEach es env) (pl : ∀ env, (backTo pos (starEach es env)).any (·.1) = false) : SoundE Γ (.Call (.Name "all" p) (e :: es) [] pos) (eBi fAll as) :=
  se_callB (r := rAll Γ.K) (fun X hX => by rw [hX.K]; exact cr_all hX.calm) B.gl B.no rfl ha bi_all (by decide) (by decide) st pl
theorem se_any (B : Bi Γ "any") (ha : SoundA Γ (e :: es) as) (st : ∀ env, starEach (e :: es) env = (false, eval e env) :: starEach es env) (pl : ∀ env, (backTo pos (starEach es env)).any (·.1) = false) : SoundE Γ (.Call (.Name "any" p) (e :: es) [] pos) (eBi fAny as) :=
  se_callB (r := rAny Γ.K) (fun X hX => by rw [hX.K]; exact cr_any hX.calm) B.gl B.no rfl ha bi_any (by decide) (by decide) st pl
theorem se_repr (B : Bi Γ "repr") (ha : SoundA Γ (e :: es) as) (st : ∀ env, starEach (e :: es) env = (false, eval e env) :: starEach es env) (pl : ∀ env, (backTo pos (starEach es env)).any (·.1) = false) : SoundE Γ (.Call (.Name "repr" p) (e :: es) [] pos) (eBi fRepr as) :=
  se_callB (r := fun xs H Q => ∃ v d, xs = [v] ∧ Dp Γ.K H v d ∧ SeqAt.shaped d = true ∧ d.showable = true ∧ d.shown.length ≤ sizeLine ∧ Q (.str d.shown) H) (fun X hX => by rw [hX.K]; exact call_repr (by have := hX.room.un; omega) hX.gd) B.gl B.no rfl ha bi_repr (by decide) (by decide) st pl
end

/-! ### {} -/
def eDct0 : EE := fun S => some (.od [], S)
theorem se_dct0 : SoundE Γ (.Dict [] [] pos) eDct0 := ⟨_, fun X _ => pe_dnewK, fun σ S T H o S' ee h Q q => by
  cases ee
  exact fun p hp => q _ _ (.of_hd h.cov (Ok.new_d (ps := []) (kvs := []) h.ok trivial List.nodup_nil hp))⟩

/-! ### list * int, of a list of one's own -/
def eRep (f g : EE) : EE := fun S => match f S with
  | some (.ol os, S1) => match g S1 with
    | some (.fz (.int k), S2) => if small62 k && decide (os.length * k.toNat ≤ cap) then some (.ol ((List.replicate k.toNat (frs os)).flatten.map O.fz), S2) else none
    | _ => none
  | _ => none
theorem se_rep {f g : EE} (hf : SoundE Γ a f) (hg : SoundE Γ b g) : SoundE Γ (.BinOp a .Mult b pos) (eRep f g) := by
  obtain ⟨t, h1, h2⟩ := hf
  obtain ⟨u, g1, g2⟩ := hg
  refine ⟨_, fun X hX => pe_op op_rep (h1 X hX) (g1 X hX), fun σ S T H o S' ee h Q q => ?_⟩
  unfold eRep at ee
  split at ee
  · rename_i os S1 e1
    split at ee
    · rename_i k S2 e2
      split at ee
      · rename_i hk
        cases ee
        rw [Bool.and_eq_true] at hk
        have hk1 := of_decide_eq_true hk.1
        have hk2 := of_decide_eq_true hk.2
        refine h2 σ S T H _ S1 e1 h _ fun x H1 k1 => g2 σ S1 _ H1 _ S' e2 k1 _ fun y H2 k2 => ?_
        have y1 : y = .int k := k2.hd.rep
        subst y1
        have k3 := k2.drop
        obtain ⟨ad, vs, rfl, b2, b3⟩ := k3.hd.at_l
        refine ⟨ad, k, vs, rfl, rfl, b2, by omega, by omega, by rw [b3]; have := cap_line; omega, fun p hp => q _ _ (.of_hd k3.cov ?_)⟩
        obtain ⟨_, k4⟩ := k3.hd.open_at b2
        obtain ⟨F, fp, z1, z2, z3, z4, z5⟩ := (k4.weak.freezes b3)
        obtain ⟨f1, f2, y1, y2, y3⟩ := RepE.app.mp z2
        have hl : vs.length = (frs os).length := by rw [b3, frs_len]
        obtain ⟨e3, rds⟩ := RepE.fz_all hl y1
        subst e3
        have hF : OkF Γ.c F H2 [] (ents σ S' ++ T) := ⟨f2, z1, y2, by rw [y3] at z3; exact z3, by rw [y3] at z4; exact z4, z5⟩
        exact hF.newL (rds.rep k.toNat) hp
      · cases ee
    · cases ee
  · cases ee

/-! ### a def of the module -/
def Def (P : Program) (w : World) (K : PySem.W.Frag) (mg : Str → Option Value) (base : Heap) (fa : Nat → Addr) (x : Str) (g : Fn) (n lv : Nat) : Prop :=
  ∃ f, mg x = some (.ref f) ∧ PySem.W.keepIn K (.ref f) = true ∧ FnG P w K mg base lv f (spF ⟨K, fa⟩ g n)
theorem Def.cal {P : Program} {w : World} {K : PySem.W.Frag} {mg : Str → Option Value} {base : Heap} {fa : Nat → Addr} {x : Str} {g : Fn} {n lv k : Nat} {N : List Str} {sc : Scope} {own : Str → Bool} (h : Def P w K mg base fa x g n lv) (hle : lv ≤ k) (hg : sc.names.lookup x = some .globalImplicit) : Cal ⟨P, w, K, mg, base, N, sc, fa, own, k⟩ x g n :=
  ⟨hg, let ⟨f, a1, a2, a3⟩ := h; ⟨f, a1, a2, a3.mono hle⟩⟩
/-- the def's own text stands there -/
def Txt (K : PySem.W.Frag) (mg : Str → Option Value) (x : Str) (st : Stmt) : Prop := ∃ f fd, mg x = some (.ref f) ∧ Fun K x x st f fd
def scopeOk (N ps : List Str) (sc : Scope) : Bool := (match sc.kind with | .function => true | _ => false) && !sc.isCoroutine && !sc.isGenerator && decide N.Nodup && decide (N.take ps.length = ps) &&
  ps.all (fun x => match sc.names.lookup x with | some .local => true | some .cell => true | _ => false) && sc.names.all (fun y => match y.2 with | .free => false | _ => true)
theorem scope_of {N ps : List Str} {sc : Scope} (h : scopeOk N ps sc = true) : FnScope N ps sc := by
  unfold scopeOk at h
  simp only [Bool.and_eq_true, Bool.not_eq_true', decide_eq_true_eq, List.all_eq_true] at h
  obtain ⟨⟨⟨⟨⟨⟨h1, h2⟩, h3⟩, h4⟩, h5⟩, h6⟩, h7⟩ := h
  refine ⟨?_, h2, h3, h4, h5, fun x hx => ?_, fun y hy z => ?_⟩
  · split at h1
    · assumption
    · cases h1
  · have := h6 x hx
    split at this
    · exact .inl ‹_›
    · exact .inr ‹_›
    · cases this
  · have := h7 y hy
    rw [z] at this
    cases this
theorem def_of {P : Program} {w : World} {K : PySem.W.Frag} {mg : Str → Option Value} {base : Heap} {fa : Nat → Addr} {x : Str} {st : Stmt} {N ps : List Str} {k n m : Nat} {g : SS} {io : List Bool} (h : Txt K mg x st) (hs : scopeOk N ps (defScope st) = true)
    (hbd : ∀ (kV doc pm : Value) (an : Option Addr) (cdv ct : Value) (us : List Value), us.length = ps.length → bindArgs (PySem.W.fnOf x x (defArgs st) (defBody st) (defScope st) .none kV doc pm an cdv ct) ⟨us, []⟩ = pure (ps.zip us))
    (hb : SoundB ⟨P, w, K, mg, base, N, defScope st, fa, ownOf (defScope st), k⟩ (defBody st) g W) (hio : ioFree W 0 io = true) (hl : io.length ≤ ps.length) (hn : N.length = m) (hp : ps.length = n) : Def P w K mg base fa x (run m io g) n (k + 1) := by
  obtain ⟨f, fd, a1, F⟩ := h
  subst hn; subst hp
  exact ⟨f, a1, F.kp, def_ok F (scope_of hs) (F.binds hbd) hb hio hl⟩
end Pz
set_option Elab.async false
set_option linter.all false
set_option maxRecDepth 100000
set_option maxHeartbeats 1000000
namespace Pz
open PySem PySem.Spec L2
open PyProof.Rows hiding St
open PySem.W (dataLe AllAlike Sortable EachIs alike SortsAt dataKind sortVals sortingHeap)

/-! ### sorted(list or tuple) -/
section
variable {prog : Program} {w : World} {A : Around} {E : Value → Shared → Prop} {s : Shared}
theorem collect_sq {it : Addr} {T : String} {o : Obj} {n : Nat} {vs : List Value} {Q : List Value → Shared → Prop} (hT : T = "list" ∨ T = "tuple") (ho : s.heap.get? it = some o) (hc : o.cls = .type T) (hd : o.data = .seq vs.toArray n) (hL : vs.length ≤ sizeLine)
    (h : Q vs { s with heap := (s.heap.push (seqObj "list" #[] 0)).update s.heap.objs.size (Obj.mapSeq (· ++ vs.toArray)) }) : wpAny (model prog w) A (collect (.ref it)) Q E s := by
  unfold collect
  refine wpAny_bind (wpAny_runValue (codeAny_builtin PyProof.Rows.entry_proto_collect' ?_)); show wpAny _ _ (newList [] >>= fun l => again (.builtin "list.__iadd__" ⟨[l, .ref it], []⟩)) _ _ s
  refine wpAny_bind (wpAny_newList (wpAny_pure ⟨Code.quiet_builtin _ (by decide +kernel), codeAny_builtin PyProof.Rows.entry_list_iadd' ?_⟩)); show wpAny _ _ (Builtin.List.listExtendWith (.ref s.heap.objs.size) (.ref it) (.ref s.heap.objs.size)) _ _ { s with heap := s.heap.push (seqObj "list" #[] 0) }
  have hS : (s.heap.push (seqObj "list" #[] 0)).get? s.heap.objs.size = some (seqObj "list" #[] 0) := Heap.get?_push_size _ rfl
  have h1 : (Builtin.List.listSameRef (.ref s.heap.objs.size) (.ref it) || Value.type T == Value.type "list" || Value.type T == Value.type "tuple") = true := by cases hT <;> rename_i z <;> subst z <;> simp
  unfold Builtin.List.listExtendWith
  refine wpAny_bind (wpAny_typeOf (T := T) ⟨o, Heap.get?_push_of_some _ ho, hc⟩ ?_); rw [if_pos h1]
  refine wpAny_bind (PyProof.Rows.listItems_at (Heap.get?_push_of_some _ ho) hd (wpAny_bind (PyProof.Rows.listItems_at hS rfl ?_)))
  rw [if_neg (by simp)]
  refine wpAny_bind (PyProof.Rows.listUpdate_at hS rfl (wpAny_pure ?_) (Nat.zero_le _) (by simp only [Array.size_append, List.size_toArray]; simp; omega))
  show wpAny (model prog w) A (load s.heap.objs.size >>= fun o => (match o.data with | .seq xs _ => pure xs.toList | _ => unsupported "internal:collect")) Q E _
  refine wpAny_bind (wpAny_load (PyProof.Rows.get?_update_seq hS _) (wpAny_pure ?_))
  have e : ((#[] : Array Value) ++ vs.toArray).toList = vs := by simp
  rw [e]; exact h
theorem sorted_seq {β : Type} {it : Addr} {T : String} {o : Obj} {n : Nat} {vs : List Value} {bs : List β} {enc : β → PyData} {R : Value → β → Prop} {Q : Value → Shared → Prop} (hT : T = "list" ∨ T = "tuple") (ho : s.heap.get? it = some o) (hc : o.cls = .type T) (hd : o.data = .seq vs.toArray n)
    (e : EachIs R vs bs) (er : EachIs (fun v b => ∃ as, Reads s.heap v (enc b) as) vs bs) (hal : AllAlike (bs.map enc)) (hk : Sortable (bs.map enc)) (hL : vs.length ≤ sizeLine) (hu : ∀ b, b ∈ bs → A.units + 2 + (enc b).depth < cLine)
    (h : ∀ out a h', out.length = bs.length → EachIs R out (bs.mergeSort (dataLe false enc)) → (∀ b o, s.heap.get? b = some o → h'.get? b = some o) → s.heap.objs.size ≤ a → (∃ c, h'.get? a = some (seqObj "list" out.toArray c)) → Q (.ref a) { s with heap := h' }) :
    wpAny (model prog w) A (call (.builtin "sorted") [.ref it]) Q E s := by
  refine PyProof.Rows.call_function_entry_kw PyProof.Rows.kind_sorted PyProof.Rows.plain_sorted PyProof.Rows.entry_sorted (PyProof.Rows.args_sorted1 _) ?_
  unfold Builtin.«sorted»
  refine wpAny_bind (m := checkCount "sorted" 1 1 _) (wpAny_pure (wpAny_bind (collect_sq hT ho hc hd hL ?_)))
  generalize hh : (s.heap.push (seqObj "list" #[] 0)).update s.heap.objs.size (Obj.mapSeq (· ++ vs.toArray)) = h1
  have k1 : ∀ b o', s.heap.get? b = some o' → h1.get? b = some o' := fun b o' q => by
    rw [← hh]; exact (Heap.get?_update_other _ _ (Nat.ne_of_gt (Heap.lt_size q))).trans (Heap.get?_push_of_some _ q)
  have hle : s.heap.objs.size ≤ h1.objs.size := by
    rw [← hh, Heap.size_update, PyProof.Rows.size_push']; omega
  refine wpAny_bind (wpAny_newList ?_ hL)
  have at1 : (h1.push (seqObj "list" vs.toArray 0)).get? h1.objs.size = some (seqObj "list" vs.toArray 0) := Heap.get?_push_size _ rfl
  show wpAny _ _ _ _ _ { s with heap := h1.push (seqObj "list" vs.toArray 0) }
  have old : ∀ b o', s.heap.get? b = some o' → b ≠ h1.objs.size := fun b o' q => Nat.ne_of_lt (Heap.lt_size (k1 b o' q))
  have old2 : ∀ b o', s.heap.get? b = some o' → (h1.push (seqObj "list" vs.toArray 0)).get? b = some o' := fun b o' q => Heap.get?_push_of_some _ (k1 b o' q)
  have er' : EachIs (fun v b => ∃ as, Reads (sortingHeap (h1.push (seqObj "list" vs.toArray 0)) h1.objs.size vs) v (enc b) as) vs bs := er.mono fun _ _ ⟨as, r⟩ => ⟨as, PyProof.Rows.Reads.keeps (fun b o' q => PySem.W.sortingHeap_old (old b o' q) (old2 b o' q)) r⟩
  refine wpAny_bind (wpAny_holding (PyProof.Rows.wpAny_call_entry_kw PyProof.Rows.slot_list_sort ⟨_, at1, rfl⟩ PyProof.Rows.entry_list_sort ?body (PyProof.Rows.args_list_sort _)))
  case body =>
    refine PySem.W.list_sort_vals (s := { s with heap := h1.push (seqObj "list" vs.toArray 0) }) at1 (SortsAt.data (s := { s with heap := sortingHeap (h1.push (seqObj "list" vs.toArray 0)) h1.objs.size vs }) (PySem.W.each_map (R := fun v d => ∃ as, Reads (sortingHeap (h1.push (seqObj "list" vs.toArray 0)) h1.objs.size vs) v d as) enc er') hal hk (PySem.W.bound_map hu)) hL ⟨_, rfl, ?_⟩
    refine wpAny_pure ⟨_, rfl, h _ h1.objs.size _ (by rw [PySem.W.sortVals_length false rfl]; exact e.length) (PySem.W.sortVals_data false e er' hal) (fun b o' q => ?_) hle ?_⟩
    · exact (sortedHeap_old (old b o' q) (Heap.lt_size (old2 b o' q))).trans (old2 b o' q)
    · exact sortedHeap_at at1
end

variable {c : Gc} {F H H' : Hp} {L T T1 T2 : List (V × O)} {R : List Addr} {Γ : Cs} {e a b d tg : Expr} {es : List Expr} {pos p : Pos} {v w : V} {o o' : O} {σ : L2.St} {S S' : Env} {W : List Nat} {x y : AE}
def isT1 : D → Bool
  | .tup (_ :: _) => true
  | _ => false
def notTN : D → Bool
  | .tup _ => false
  | .non => false
  | _ => true
def srtOk (ds : List D) : Bool := ds.all okD && (ds.all fun d => ds.all fun e => alike (py d) (py e)) && (ds.all isT1 || ds.all notTN) && decide (ds.length ≤ cap)
def leD : D → D → Bool := dataLe false py
def srtD (ds : List D) : List D := ds.mergeSort leD
def fSorted : List D → Option O
  | [.lst ds] => if srtOk ds = true then some (.ol ((srtD ds).map O.fz)) else none
  | [.tup ds] => if srtOk ds = true then some (.ol ((srtD ds).map O.fz)) else none
  | _ => none
def le2 : V × D → V × D → Bool := dataLe false fun b => py b.2
def rSortedA (K : PySem.W.Frag) : List V → Hp → VK → Prop := fun xs H Q => ∃ (q : Addr) (bs : List (V × D)), xs = [V.ref q] ∧ (SqL K H q (bs.map (·.1)) ∨ SqT K H q (bs.map (·.1))) ∧ (∀ b ∈ bs, Dp K H b.1 (py b.2) ∧ okD b.2 = true) ∧
  AllAlike (bs.map fun b => py b.2) ∧ Sortable (bs.map fun b => py b.2) ∧ ∀ l, H l = none → Q (.ref l) (upd H l (.lst ((bs.mergeSort le2).map (·.1))))
theorem each_vals {bs : List (V × D)} : ∀ {us : List Value}, Vals (bs.map (·.1)) us → EachIs (fun (u : Value) (b : V × D) => RelV b.1 u) us bs := by
  induction bs with
  | nil => intro us h; cases h; exact .nil
  | cons b bs ih => intro us h; cases h with | cons h1 h2 => exact .cons h1 (ih h2)
theorem vals_each {bs : List (V × D)} {us : List Value} (h : EachIs (fun (u : Value) (b : V × D) => RelV b.1 u) us bs) : Vals (bs.map (·.1)) us := by
  induction h with
  | nil => exact .nil
  | cons h1 _ ih => exact .cons h1 ih
theorem each_and {α β : Type} {r : α → β → Prop} {q : β → Prop} : ∀ {as : List α} {bs : List β}, EachIs r as bs → (∀ b ∈ bs, q b) → EachIs (fun a b => r a b ∧ q b) as bs
  | _, _, .nil, _ => .nil
  | _, _, .cons h1 h2, k => .cons ⟨h1, k _ List.mem_cons_self⟩ (each_and h2 fun b hb => k b (List.mem_cons_of_mem _ hb))
theorem call_sortedA {X : Cx} (hu : X.A.units + 100 < cLine) : CallR X (.builtin "sorted") (rSortedA X.K) := by
  intro pins s σ H xs us Q I r h
  obtain ⟨q, bs, rfl, hs, hb, hal, hk, k⟩ := h
  obtain ⟨u, rfl, ru⟩ := vals1 r
  obtain rfl : u = Value.ref q := ru
  have go : ∀ {T : String} {o : Obj} {n : Nat} {its : List Value}, (T = "list" ∨ T = "tuple") → s.heap.get? q = some o → o.cls = .type T → o.data = .seq its.toArray n → Vals (bs.map (·.1)) its → (bs.map (·.1)).length ≤ sizeLine → wpAny (model X.prog X.w) X.A (call (.builtin "sorted") [.ref q]) (EP X pins σ Q) X.xe s := by
    intro T o n its hT ho hc hd rv hz
    have e1 := each_vals rv
    have hlen := rv.length
    refine sorted_seq (R := fun (u : Value) (b : V × D) => RelV b.1 u) (enc := fun b : V × D => py b.2) hT ho hc hd e1 ((each_and e1 hb).mono fun u b ⟨h1, h2, h3⟩ => Dp.reads I _ _ _ h2 h1) hal hk (by rw [← hlen]; exact hz) (fun b hbm => ?_) fun out a h' ho2 e2 k2 ha ⟨c, hc2⟩ => ?_
    · have := SeqAt.depth_of_shaped (hb b hbm).2
      have h3 : X.A.units + 100 < cLine := hu
      omega
    · refine ⟨.ref a, _, I.laid (t' := s.toks) (o := .lst ((bs.mergeSort le2).map (·.1))) k2 ha ⟨?_, out, c, vals_each e2, hc2⟩, rfl, k a (I.hok.fresh ha)⟩
      rw [List.length_map, List.length_mergeSort]
      rw [List.length_map] at hz; exact hz
  rcases hs with hs | hs
  · obtain ⟨its, rv, ⟨o, n, h1, h2, h3, h4⟩, hz⟩ := I.list hs
    exact go (.inl rfl) h1 h2 h4 rv hz
  · obtain ⟨its, rv, ⟨o, h1, h2, n, h3⟩, hz⟩ := I.tuple hs
    exact go (.inr rfl) h1 h2 h3 rv hz
theorem zip_reps : ∀ {ds : List D} {vs : List V}, RepDs c F ds vs → (vs.zip ds).map (·.1) = vs ∧ (vs.zip ds).map (·.2) = ds ∧ ∀ q ∈ vs.zip ds, RepD c F q.2 q.1
  | [], vs, h => by
    have h' : vs = [] := h
    subst h'
    exact ⟨rfl, rfl, fun q hq => by cases hq⟩
  | d :: ds, vs, ⟨v, r, e1, h1, h2⟩ => by
    subst e1
    obtain ⟨q1, q2, q3⟩ := zip_reps h2
    refine ⟨by simp [q1], by simp [q2], fun q hq => ?_⟩
    rw [List.zip_cons_cons] at hq
    rcases List.mem_cons.mp hq with e | hq
    · subst e; exact h1
    · exact q3 q hq
theorem reps_zip : ∀ {zs : List (V × D)}, (∀ q ∈ zs, RepD c F q.2 q.1) → RepDs c F (zs.map (·.2)) (zs.map (·.1))
  | [], _ => rfl
  | z :: zs, h => ⟨z.1, _, rfl, h z List.mem_cons_self, reps_zip fun q hq => h q (List.mem_cons_of_mem _ hq)⟩
theorem sort2 {zs : List (V × D)} : (zs.mergeSort le2).map (·.2) = srtD (zs.map (·.2)) := List.map_mergeSort fun _ _ _ _ => rfl
theorem bi_sorted : BiOk c fSorted (rSortedA c.K) := by
  intro F H L vs ds o Q e hF hv q
  have go : ∀ (ds' : List D) (l : Addr) (xs : List V), (SqL c.K H l xs ∨ SqT c.K H l xs) → RepDs c F ds' xs → srtOk ds' = true → vs = [V.ref l] → o = .ol ((srtD ds').map O.fz) → rSortedA c.K vs H Q := by
    intro ds' l xs hs rs hk e1 eo
    unfold srtOk at hk
    rw [Bool.and_eq_true, Bool.and_eq_true, Bool.and_eq_true] at hk
    obtain ⟨⟨⟨h1, h2⟩, h3⟩, h4⟩ := hk
    rw [List.all_eq_true] at h1 h2
    obtain ⟨z1, z2, z3⟩ := zip_reps rs
    have mem2 : ∀ b ∈ xs.zip ds', b.2 ∈ ds' := fun b hb => (List.of_mem_zip hb).2
    refine ⟨l, xs.zip ds', e1, by rw [z1]; exact hs, fun b hb => ?_, ?_, ?_, fun p hp => ?_⟩
    · have ok := h1 b.2 (mem2 b hb)
      exact ⟨okD.dp ok (RepD.mono hF.same _ _ (z3 b hb)), ok⟩
    · intro d hd d' hd'
      obtain ⟨b, hb, rfl⟩ := List.mem_map.mp hd
      obtain ⟨b', hb', rfl⟩ := List.mem_map.mp hd'
      have := h2 b.2 (mem2 b hb)
      rw [List.all_eq_true] at this
      exact this b'.2 (mem2 b' hb')
    · rw [Bool.or_eq_true, List.all_eq_true, List.all_eq_true] at h3
      rcases h3 with h3 | h3
      · refine .inl fun d hd => ?_
        obtain ⟨b, hb, rfl⟩ := List.mem_map.mp hd
        have := h3 b.2 (mem2 b hb)
        unfold isT1 at this
        split at this
        · rename_i x r e9
          exact ⟨py x, pys r, by rw [e9]; simp [py, pys]⟩
        · cases this
      · refine .inr fun d hd => ?_
        obtain ⟨b, hb, rfl⟩ := List.mem_map.mp hd
        have := h3 b.2 (mem2 b hb)
        cases hb2 : b.2 <;> rw [hb2] at this <;> simp [notTN] at this <;> refine ⟨by simp [py], fun xs => by simp [py]⟩
    · have k3 : RepDs c F (srtD ds') (((xs.zip ds').mergeSort le2).map (·.1)) := by
        have := reps_zip (c := c) (F := F) (zs := (xs.zip ds').mergeSort le2) fun b hb => z3 b (List.mem_mergeSort.mp hb)
        rw [sort2, z2] at this
        exact this
      rw [eo] at q
      exact q _ _ (hF.newL k3 hp)
  unfold fSorted at e
  split at e
  · split at e
    · rename_i hk
      cases e
      obtain ⟨v, e1, h1⟩ := hv.one
      obtain ⟨l, xs, a1, a2, a3⟩ := h1.list hF.same
      subst a1
      exact go _ l xs (.inl a2) a3 hk e1 rfl
    · cases e
  · split at e
    · rename_i hk
      cases e
      obtain ⟨v, e1, h1⟩ := hv.one
      obtain ⟨l, xs, a1, a2, a3⟩ := h1.tup hF.same
      subst a1
      exact go _ l xs (.inr a2) a3 hk e1 rfl
    · cases e
  · cases e
theorem se_sorted {as : AL} (B : Bi Γ "sorted") (ha : SoundA Γ (e :: es) as) (st : ∀ env, starEach (e :: es) env = (false, eval e env) :: starEach es env) (pl : ∀ env, (backTo pos (starEach es env)).any (·.1) = false) : SoundE Γ (.Call (.Name "sorted" p) (e :: es) [] pos) (eBi fSorted as) :=
  se_callB (r := rSortedA Γ.K) (fun X hX => by rw [hX.K]; exact call_sortedA (by have := hX.room.un; omega)) B.gl B.no rfl ha bi_sorted (by decide) (by decide) st pl
end Pz
set_option Elab.async false
set_option linter.all false
set_option maxRecDepth 100000
set_option maxHeartbeats 1000000
namespace Pz
open PySem PySem.Spec L2
open PyProof.Rows hiding St

/-! ### t[::-1] -/
section
variable {prog : Program} {w : World} {A : Around} {E : Value → Shared → Prop} {s : Shared}
theorem adjust_rev (n : Nat) : Builtin.Slice.sliceAdjust none none (-1) (n : Int) = ((n : Int) - 1, -1) := rfl
theorem places_rev (n : Nat) : Builtin.Slice.slicePlaces ((n : Int) - 1) (-1) (-1) = n := by
  unfold Builtin.Slice.slicePlaces
  have h1 : ¬ ((-1 : Int) > 0) := by omega
  simp only [h1, if_false, Int.neg_neg, Int.ediv_one]
  split <;> omega
theorem fm_congr {α β : Type} {f g : α → Option β} : ∀ {l : List α}, (∀ a ∈ l, f a = g a) → l.filterMap f = l.filterMap g
  | [], _ => rfl
  | a :: l, h => by
    rw [List.filterMap_cons, List.filterMap_cons, h a List.mem_cons_self, fm_congr fun b hb => h b (List.mem_cons_of_mem _ hb)]
theorem pick_rev (xs : List Value) : (List.range xs.length).filterMap (fun (k : Nat) => xs.toArray[(((xs.length : Nat) : Int) - 1 + (k : Int) * (-1)).toNat]?) = xs.reverse := by
  have e : (List.range xs.length).filterMap (fun (k : Nat) => xs.toArray[(((xs.length : Nat) : Int) - 1 + (k : Int) * (-1)).toNat]?) = (List.range xs.length).filterMap (fun k => xs.reverse[k]?) := by
    apply fm_congr
    intro k hk
    have hk' := List.mem_range.mp hk
    rw [List.getElem?_reverse hk', List.getElem?_toArray]
    congr 1
    omega
  rw [e]
  have gen : ∀ l : List Value, (List.range l.length).filterMap (fun k => l[k]?) = l := by
    intro l
    apply List.ext_getElem?
    induction l with
    | nil => intro i; simp
    | cons a l ih =>
      intro i
      rw [List.length_cons, List.range_succ_eq_map, List.filterMap_cons_some (b := a) (by simp)]
      cases i with
      | zero => simp
      | succ i =>
        rw [List.getElem?_cons_succ, List.getElem?_cons_succ, ← ih i, List.filterMap_map]
        rfl
  have := gen xs.reverse
  rw [List.length_reverse] at this
  exact this
theorem getItem_tuple_rev {t sl : Addr} {its : List Value} {vs : Value} {Q : Value → Shared → Prop} (ht : IsTup s.heap t its.toArray) (hs : s.heap.IsSliceOf sl .none .none vs) (ps : IsPart vs (some (-1)))
    (h : Q (.ref s.heap.objs.size) { s with heap := s.heap.push { cls := .type "tuple", data := .seq its.reverse.toArray } }) (hsz : its.length ≤ sizeLine) : wpAny (model prog w) A (getItem (.ref t) (.ref sl)) Q E s := by
  obtain ⟨os, hos, hcs, hds⟩ := id hs
  have hTs : s.TypeIs (.ref sl) "slice" := ⟨os, hos, hcs⟩
  have hok : sizeOk (.seq its.reverse.toArray) := by
    show its.reverse.toArray.size ≤ sizeLine
    rw [List.size_toArray, List.length_reverse]; exact hsz
  unfold getItem
  try with_reducible refine wpAny_holding ?_
  first | refine wpAny_bind (wpAny_pure (wpAny_bind (wpAny_sequenceKey ht.typeIs (by decide) ?_))) | refine wpAny_bind (wpAny_sequenceKey ht.typeIs (by decide) ?_)
  refine wpAny_bind (wpAny_callSpecial?_slot (name := Str.ofString "__getitem__") ht.typeIs PyProof.Rows.slot_tuple_getitem (wpAny_call_entry PyProof.Rows.slot_tuple_getitem ht.typeIs PyProof.Rows.entry_tuple_getitem ?_ (PyProof.Rows.args_tuple_getitem _ _)))
  show wpAny _ _ (Builtin.Tuple.tupleItemsOf (.ref t) >>= _) _ _ s
  refine wpAny_bind (PyProof.Rows.tupleItemsOf_ ht (wpAny_bind (wpAny_typeOf hTs ?_)))
  rw [if_pos (by decide)]
  refine wpAny_bind ?_
  unfold Builtin.Slice.sliceApplied Builtin.Slice.sliceFields
  refine wpAny_bind (wpAny_bind (wpAny_field hos hds (x := .none) rfl (wpAny_bind (wpAny_field hos hds (x := .none) rfl (wpAny_bind (wpAny_field hos hds (x := vs) rfl (wpAny_pure ?_)))))))
  refine wpAny_bind (HT.slicePart_ ps ?_)
  show wpAny _ _ (if ((-1 : Int) == 0) = true then _ else _) _ _ s
  rw [if_neg (by decide)]
  refine wpAny_bind (HT.slicePart_ .none (wpAny_bind (HT.slicePart_ .none (wpAny_bind (wpAny_pure ?_)))))
  show wpAny _ _ (match Builtin.Slice.sliceAdjust none none (-1) ((its.toArray.size : Nat) : Int) with | (lo, hi) => pure (lo, (-1 : Int), Builtin.Slice.slicePlaces lo hi (-1))) _ _ s
  rw [adjust_rev]
  show wpAny _ _ (pure (((its.toArray.size : Nat) : Int) - 1, (-1 : Int), Builtin.Slice.slicePlaces (((its.toArray.size : Nat) : Int) - 1) (-1) (-1))) _ _ s
  rw [places_rev, List.size_toArray]
  refine wpAny_pure ?_
  show wpAny _ _ (if ((((its.length : Nat) : Int) - 1) == 0 && (-1 : Int) == 1 && its.length == its.length) = true then _ else _) _ _ s
  rw [if_neg (by simp)]
  show wpAny _ _ (Builtin.Tuple.tupleExact ((List.range its.length).filterMap (fun (k : Nat) => its.toArray[(((its.length : Nat) : Int) - 1 + (k : Int) * (-1)).toNat]?)).toArray >>= _) _ _ s
  rw [pick_rev]
  first
    | exact wpAny_bind (m := Builtin.Tuple.tupleExact _) (wpAny_newObj_type (wpAny_pure ⟨_, rfl, wpAny_pure h⟩) hok)
    | exact wpAny_bind (m := Builtin.Tuple.tupleExact _) (wpAny_newObj_type (wpAny_bind (wpAny_pure (wpAny_pure ⟨_, rfl, wpAny_pure h⟩))) hok)
end
variable {c : Gc} {F H H' : Hp} {L T T1 T2 : List (V × O)} {R : List Addr} {Γ : Cs} {e a b d tg : Expr} {es : List Expr} {pos p : Pos} {v w : V} {o o' : O} {σ : L2.St} {S S' : Env} {W : List Nat} {x y : AE}
def tRevT (K : PySem.W.Frag) (te : TE) : TE := fun σ H Q => te σ H fun x H1 => ∃ a xs, x = .ref a ∧ SqT K H1 a xs ∧ ∀ p, H1 p = none → Q (.ref p) (upd H1 p (.tup xs.reverse))
theorem pe_revT {X : Cx} {te : TE} {k : Nat} {p1 p2 p3 : Pos} (he : PE X e te) : PE X (.Subscript e (.Slice none none (some (.UnaryOp .USub (.Constant (.int 1) k p1) p2)) p3) pos) (tRevT X.K te) := by
  refine ⟨fun pins s σ H Q I h => Subscript_ (thn (he.run pins s σ H _ I h) fun v s1 ⟨x, H1, I1, r1, a, xs, ex, hx, q⟩ => ?_)⟩
  subst ex
  cases r1
  have hst : PO X (some (.UnaryOp .USub (.Constant (.int 1) k p1) p2)) (tPart (tUn (rU fun i => .int (-i)) (tC (.int 1)))) := po_some (pe_un un_neg pe_int)
  refine wpAny_Slice (thn (po_none.run pins s1 σ H1 (fun o H2 => o = none ∧ H2 = H1) I1 ⟨rfl, rfl⟩) fun vl s2 ⟨l, H2, I2, pl, el, e2⟩ => ?_)
  subst el e2
  refine thn (po_none.run pins s2 σ H2 (fun o H3 => o = none ∧ H3 = H2) I2 ⟨rfl, rfl⟩) fun vu s3 ⟨u, H3, I3, pu, eu, e3⟩ => ?_
  subst eu e3
  refine thn (hst.run pins s3 σ H3 (fun o H4 => o = some (-1) ∧ H4 = H3) I3 ⟨1, rfl, -1, rfl, rfl, rfl⟩) fun vs s4 ⟨o, H4, I4, ps, eo, e4⟩ => ?_
  subst eo e4
  cases pl; cases pu
  have I5 : Inv X pins σ H4 { s4 with heap := s4.heap.push { cls := .type "slice", data := .fields #[.none, .none, vs] } } := I4.kept (t' := s4.toks) fun b ob q => Heap.get?_push_of_some _ q
  obtain ⟨its, r, ht, hz⟩ := I5.tuple hx
  have hlen := r.length
  refine tail_any (ops := [.ref a, .ref s4.heap.objs.size]) ht.typeIs PyProof.Rows.slot_tuple_getitem.lookup ?_ (by with_unfolding_all rfl)
  refine getItem_tuple_rev ht (Heap.IsSliceOf.new _ .none .none vs) ps ?_ (by omega)
  refine ⟨.ref _, _, I5.laid (t' := s4.toks) (o := .tup xs.reverse) (fun b ob q => Heap.get?_push_of_some _ q) (Nat.le_refl _) ?_, rfl, q _ (I5.hok.fresh (Nat.le_refl _))⟩
  exact ⟨by rw [List.length_reverse]; exact hz, _, r.reverse, IsTup.new _ _⟩
def fRevT : List D → Option O
  | [.tup ds] => some (.fz (.tup ds.reverse))
  | _ => none
theorem bi_revT : BiOk c fRevT (fun vs H Q => ∃ v, vs = [v] ∧ ∃ a xs, v = .ref a ∧ SqT c.K H a xs ∧ ∀ p, H p = none → Q (.ref p) (upd H p (.tup xs.reverse))) := by
  intro F H L vs ds o Q e hF hv q
  unfold fRevT at e
  split at e
  · cases e
    obtain ⟨v, e1, h1⟩ := hv.one
    obtain ⟨l, xs, a1, a2, a3⟩ := h1.tup hF.same
    exact ⟨v, e1, l, xs, a1, a2, fun p hp => q _ _ (hF.newT a3.rev hp)⟩
  · cases e
theorem se_revT {x : AE} {k : Nat} {p1 p2 p3 : Pos} (hx : SoundA1 Γ a x) : SoundE Γ (.Subscript a (.Slice none none (some (.UnaryOp .USub (.Constant (.int 1) k p1) p2)) p3) pos) (e1 fRevT x) := by
  obtain ⟨t, h1, h2⟩ := hx
  exact ⟨tRevT Γ.K t, fun X hX => by rw [hX.K]; exact pe_revT (h1 X hX), fun σ S T H o S' ee h Q q => look1 h2 bi_revT ee h q⟩
def fRev (ds : List D) : Option O := match fRevL ds with
  | some o => some o
  | none => fRevT ds
theorem se_rev {x : AE} {k : Nat} {p1 p2 p3 : Pos} (hx : SoundA1 Γ a x) : SoundE Γ (.Subscript a (.Slice none none (some (.UnaryOp .USub (.Constant (.int 1) k p1) p2)) p3) pos) (e1 fRev x) :=
  se_either (f1 := fRevL) (f2 := fRevT) (se_revL hx) (se_revT hx) fun ds o e => by
    unfold fRev at e
    split at e
    · cases e; exact .inl ‹_›
    · exact .inr e
end Pz
set_option Elab.async false
set_option linter.all false
set_option maxRecDepth 100000
set_option maxHeartbeats 1000000
namespace Pz
open PySem PySem.Spec L2
open PyProof.Rows hiding St
open PySem.Builtin.Itertools
def rawInts (ks : List Nat) : List Value := ks.map fun (i : Nat) => rawInt (i : Int)
theorem mro_cmb : mroOf (.type "itertools.combinations") = pure [.type "itertools.combinations", .type "object"] := by rw [mroOf_type]; kernel_rfl
theorem look_cmb_new : typeLookup (.type "itertools.combinations") "__new__" = pure (some (.builtin "itertools.combinations.__new__")) := by rw [typeLookup_type, builtinLookup_eq_fast]; kernel_rfl
theorem slot_cmb_init : Slot "itertools.combinations" "__init__" "object.__init__" :=
  .of (owner := "object") (n := "__init__") (by rw [typeLookup_type, builtinLookup_eq_fast]; kernel_rfl) (by decide +kernel) (by decide +kernel) (by decide +kernel) (by first | exact .inl (by decide +kernel) | exact .inr (by decide +kernel)) (by rw [isSubtype_type]; kernel_rfl)
theorem slot_cmb_next : Slot "itertools.combinations" "__next__" "itertools.combinations.__next__" :=
  .of (owner := "itertools.combinations") (n := "__next__") (by rw [typeLookup_type, builtinLookup_eq_fast]; kernel_rfl) (by decide +kernel) (by decide +kernel) (by decide +kernel) (by first | exact .inl (by decide +kernel) | exact .inr (by decide +kernel)) (by rw [isSubtype_type]; kernel_rfl)
theorem slot_cmb_iter : Slot "itertools.combinations" "__iter__" "itertools.combinations.__iter__" :=
  .of (owner := "itertools.combinations") (n := "__iter__") (by rw [typeLookup_type, builtinLookup_eq_fast]; kernel_rfl) (by decide +kernel) (by decide +kernel) (by decide +kernel) (by first | exact .inl (by decide +kernel) | exact .inr (by decide +kernel)) (by rw [isSubtype_type]; kernel_rfl)
theorem sub_cmb : isSubtype (.type "itertools.combinations") (.type "itertools.combinations") = pure true := by rw [isSubtype_type]; kernel_rfl
theorem called_cmb : TypeCalled "itertools.combinations" "itertools.combinations.__new__" "object.__init__" :=
  ⟨by decide +kernel, by decide +kernel, ⟨_, _, mro_cmb⟩, madeBy_type mro_cmb look_cmb_new (by decide +kernel), by decide +kernel, sub_cmb, slot_cmb_init⟩
theorem tcall_cmb (a b : Value) : checkTypeCall "itertools.combinations" ⟨[a, b], []⟩ = pure () := by kernel_rfl
theorem ncall_cmb (a b : Value) : checkBuiltinCall "itertools.combinations.__new__" ⟨[.type "itertools.combinations", a, b], []⟩ = pure () := by kernel_rfl
theorem entry_cmb_new : entryFor table "itertools.combinations.__new__" = some Builtin.«itertools.combinations.__new__» := entryFor_of_tree (by kernel_rfl)
theorem entry_cmb_next : entryFor table "itertools.combinations.__next__" = some Builtin.«itertools.combinations.__next__» := entryFor_of_tree (by kernel_rfl)
theorem entry_cmb_iter : entryFor table "itertools.combinations.__iter__" = some Builtin.«dict_keyiterator.__iter__» :=
  entryFor_alias (id' := "dict_keyiterator.__iter__") (by kernel_rfl) (by first | rfl | decide +kernel | (unfold String.splitOn; simp +decide [String.splitOnAux])) (by decide +kernel) (by kernel_rfl)
theorem args_cmb_next (a : Value) : argsOk "itertools.combinations.__next__" ⟨[a], []⟩ := by unfold argsOk; kernel_rfl
theorem args_cmb_iter (a : Value) : argsOk "itertools.combinations.__iter__" ⟨[a], []⟩ := by unfold argsOk; kernel_rfl
theorem no_len_cmb : typeLookup (.type "itertools.combinations") "__len__" = pure none := by rw [typeLookup_type, builtinLookup_eq_fast]; kernel_rfl
theorem no_hint_cmb : typeLookup (.type "itertools.combinations") "__length_hint__" = pure none := by rw [typeLookup_type, builtinLookup_eq_fast]; kernel_rfl
theorem args_obj_init3 (o a b : Value) : argsOk "object.__init__" ⟨[o, a, b], []⟩ := by unfold argsOk; kernel_rfl
end Pz
set_option Elab.async false
set_option linter.all false
set_option maxRecDepth 100000
set_option maxHeartbeats 1000000
namespace Pz
open PySem PySem.Spec L2
open PyProof.Rows hiding St
open PySem.Builtin.Itertools
/-- the object: what it has of the pool, whether it goes, the last tuple, where it stands -/
def cmbObj (pool : Addr) (st : Int) (old : Value) (ix : List Nat) : Obj := { cls := .type "itertools.combinations", data := .fields ([.ref pool, rawInt st, old] ++ rawInts ix).toArray }
section
variable {prog : Program} {w : World} {A : Around} {E : Value → Shared → Prop} {s : Shared}
theorem cmb_new {it : Addr} {r : Int} {t : Tok} {T : String} {o : Obj} {n : Nat} {vs : List Value} {Q : PySem.Fin → Shared → Prop} (hT : T = "list" ∨ T = "tuple") (ho : s.heap.get? it = some o) (hc : o.cls = .type T) (hd : o.data = .seq vs.toArray n) (hL : vs.length ≤ sizeLine)
    (h0 : 0 ≤ r) (h1 : r ≤ 2 ^ 20)
    (h : ∀ h1 : Heap, (∀ b o, s.heap.get? b = some o → h1.get? b = some o) → s.heap.objs.size ≤ h1.objs.size → Q (.done (.ret (.ref (h1.push (seqObj "tuple" vs.toArray 0)).objs.size))) { s with heap := (h1.push (seqObj "tuple" vs.toArray 0)).push (cmbObj h1.objs.size (if r.toNat > vs.length then 2 else 0) .none (List.range r.toNat)) }) :
    wpAny (model prog w) A (Builtin.«itertools.combinations.__new__» ⟨[.type "itertools.combinations", .ref it, .int r t], []⟩) Q E s := by
  unfold Builtin.«itertools.combinations.__new__»
  refine wpAny_bind ?_
  show wpAny _ _ (itClassAndRest "combinations" _ >>= _) _ _ _
  refine wpAny_bind ?_
  unfold itClassAndRest
  have hs := sub_cmb
  have hT2 : ("itertools." ++ "combinations") = "itertools.combinations" := by decide +kernel
  simp only [hT2]
  wp_walk
  have a1 : (decide (r < -2 ^ 63) || decide (r ≥ 2 ^ 63)) = false := by simp; omega
  rw [a1, if_neg Bool.false_ne_true]
  refine wpAny_pure (wpAny_bind (collect_sq hT ho hc hd hL ?_))
  generalize hh : (s.heap.push (seqObj "list" #[] 0)).update s.heap.objs.size (Obj.mapSeq (· ++ vs.toArray)) = h1
  have k1 : ∀ b o', s.heap.get? b = some o' → h1.get? b = some o' := fun b o' q => by
    rw [← hh]; exact (Heap.get?_update_other _ _ (Nat.ne_of_gt (Heap.lt_size q))).trans (Heap.get?_push_of_some _ q)
  have hle : s.heap.objs.size ≤ h1.objs.size := by
    rw [← hh, Heap.size_update, PyProof.Rows.size_push']; omega
  rw [if_neg (by omega)]
  have a2 : itTooMany r = false := by unfold itTooMany; simp; omega
  rw [a2, if_neg Bool.false_ne_true]
  refine wpAny_bind (wpAny_newObj_type (wpAny_pure ?_) (by show vs.toArray.size ≤ sizeLine; rw [List.size_toArray]; exact hL))
  refine wpAny_bind ?_
  unfold itNewRecord
  have a3 : typeHasDict (.type "itertools.combinations") = false := by decide +kernel
  simp only [a3, Bool.not_false, if_true]
  refine wpAny_newObj_type (wpAny_pure (h h1 k1 hle)) ?_
  show _ ≤ sizeLine + 2
  have := cap_line
  unfold cap at this
  simp
  omega
/-- combinations(xs, r): a new object -/
theorem call_cmb {it : Addr} {r : Int} {t : Tok} {T : String} {o : Obj} {n : Nat} {vs : List Value} {Q : Value → Shared → Prop} (hT : T = "list" ∨ T = "tuple") (ho : s.heap.get? it = some o) (hc : o.cls = .type T) (hd : o.data = .seq vs.toArray n) (hL : vs.length ≤ sizeLine)
    (h0 : 0 ≤ r) (h1 : r ≤ 2 ^ 20)
    (h : ∀ (pool c : Addr) (h' : Heap), (∀ b o, s.heap.get? b = some o → h'.get? b = some o) → s.heap.objs.size ≤ pool → s.heap.objs.size ≤ c → c ≠ pool → h'.get? pool = some (seqObj "tuple" vs.toArray 0) → h'.get? c = some (cmbObj pool (if r.toNat > vs.length then 2 else 0) .none (List.range r.toNat)) → Q (.ref c) { s with heap := h' }) :
    wpAny (model prog w) A (call (.type "itertools.combinations") [.ref it, .int r t]) Q E s := by
  refine callType_new (S := fun _ R s => s.heap.get? it = some o ∧ ∀ h2 : Heap, (∀ b o, s.heap.get? b = some o → h2.get? b = some o) → s.heap.objs.size ≤ h2.objs.size → R (.ok (.ret (.ref (h2.push (seqObj "tuple" vs.toArray 0)).objs.size))) { s with heap := (h2.push (seqObj "tuple" vs.toArray 0)).push (cmbObj h2.objs.size (if r.toNat > vs.length then 2 else 0) .none (List.range r.toNat)) })
    called_cmb (by decide) (tcall_cmb _ _) (ncall_cmb _ _) (fun obj => args_obj_init3 obj _ _) entry_cmb_new (.of_wp fun prog w A R s z => cmb_new hT z.1 hc hd hL h0 h1 fun h2 k2 hle => ⟨_, rfl, z.2 h2 k2 hle⟩) ⟨ho, fun h2 k2 hle => ?_⟩
  have hz : (h2.push (seqObj "tuple" vs.toArray 0)).objs.size = h2.objs.size + 1 := PyProof.Rows.size_push' ..
  have hc1 : s.heap.objs.size ≤ (h2.push (seqObj "tuple" vs.toArray 0)).objs.size := by rw [hz]; exact Nat.le_succ_of_le hle
  have hc2 : (h2.push (seqObj "tuple" vs.toArray 0)).objs.size ≠ h2.objs.size := by rw [hz]; exact Nat.succ_ne_self _
  have at2 : ((h2.push (seqObj "tuple" vs.toArray 0)).push (cmbObj h2.objs.size (if r.toNat > vs.length then 2 else 0) .none (List.range r.toNat))).get? (h2.push (seqObj "tuple" vs.toArray 0)).objs.size = some (cmbObj h2.objs.size (if r.toNat > vs.length then 2 else 0) .none (List.range r.toNat)) := Heap.get?_push_size _ rfl
  exact ⟨⟨_, at2, rfl⟩, h h2.objs.size _ _ (fun b o' q => Heap.get?_push_of_some _ (Heap.get?_push_of_some _ (k2 b o' q))) hle hc1 hc2 (Heap.get?_push_of_some _ (Heap.get?_push_size _ rfl)) at2⟩
end
end Pz
set_option Elab.async false
set_option linter.all false
set_option maxRecDepth 100000
set_option maxHeartbeats 1000000
namespace Pz
open PySem PySem.Spec L2
open PyProof.Rows hiding St
open PySem.Builtin.Itertools
/-- the next places, as the program's interpreter reckons them -/
def nxtC (n : Nat) (ix : List Nat) : Option (List Nat) :=
  match (List.range ix.length).reverse.find? fun i => ix.getD i 0 != i + n - ix.length with
  | none => none
  | some i => some (ix.take i ++ (List.range (ix.length - i)).map (ix.getD i 0 + 1 + ·))
def picks (vs : List Value) (ix : List Nat) : List Value := ix.map fun i => vs.toArray.getD i .none
theorem cmb_set1 {pool : Addr} {st k : Int} {old : Value} {ix : List Nat} : Obj.mapFields (fun x => x.setIfInBounds 1 (rawInt k)) (cmbObj pool st old ix) = cmbObj pool k old ix := by simp [cmbObj, Obj.mapFields]
theorem cmb_set2 {pool : Addr} {st : Int} {old x : Value} {ix : List Nat} : Obj.mapFields (fun y => y.setIfInBounds 2 x) (cmbObj pool st old ix) = cmbObj pool st x ix := by simp [cmbObj, Obj.mapFields]
theorem cmb_set3 {pool : Addr} {st : Int} {old : Value} {ix jx : List Nat} : Obj.mapFields (fun fs => fs.extract 0 3 ++ (jx.map fun (n : Nat) => rawInt n).toArray) (cmbObj pool st old ix) = cmbObj pool st old jx := by simp [cmbObj, Obj.mapFields, rawInts]
section
variable {prog : Program} {w : World} {A : Around} {E : Value → Shared → Prop} {s : Shared}
def CmbGo (s : Shared) (c pool : Addr) (vs : List Value) (jx : List Nat) (Q : Value → Shared → Prop) : Prop := ∀ (p : Addr) (h' : Heap), (∀ b o, b ≠ c → s.heap.get? b = some o → h'.get? b = some o) → s.heap.objs.size ≤ p → h'.get? p = some (seqObj "tuple" (picks vs jx).toArray 0) → h'.get? c = some (cmbObj pool 1 (.ref p) jx) → Q (.ref p) { s with heap := h' }
theorem cmb_fin {c pool : Addr} {vs : List Value} {jx : List Nat} {old : Value} {Q : Value → Shared → Prop} {h1 : Heap} (h : CmbGo s c pool vs jx Q) (k1 : ∀ b o, b ≠ c → s.heap.get? b = some o → h1.get? b = some o) (hle : s.heap.objs.size ≤ h1.objs.size) (hc : h1.get? c = some (cmbObj pool 1 old jx)) :
    Q (.ref h1.objs.size) { s with heap := (h1.push (seqObj "tuple" (picks vs jx).toArray 0)).update c (Obj.mapFields fun x => x.setIfInBounds 2 (.ref h1.objs.size)) } := by
  have hne : c ≠ h1.objs.size := Nat.ne_of_lt (Heap.lt_size hc)
  refine h h1.objs.size _ (fun b o hb q => ?_) hle ?_ ?_
  · exact (Heap.get?_update_other _ _ (Ne.symm hb)).trans (Heap.get?_push_of_some _ (k1 b o hb q))
  · exact (Heap.get?_update_other _ _ hne).trans (Heap.get?_push_size _ rfl)
  · have hc' : (h1.push (seqObj "tuple" (picks vs jx).toArray 0)).get? c = some (cmbObj pool 1 old jx) := Heap.get?_push_of_some _ hc
    have := Heap.get?_update_self (Obj.mapFields fun x => x.setIfInBounds 2 (.ref h1.objs.size)) hc' (by rw [cmb_set2]; rfl)
    rw [cmb_set2] at this
    exact this
theorem cmb_next0 {c pool : Addr} {old : Value} {ix : List Nat} {vs : List Value} {n : Nat} {Q : Value → Shared → Prop} (hp : s.heap.get? c = some (cmbObj pool 0 old ix)) (hpool : s.heap.get? pool = some (seqObj "tuple" vs.toArray n)) (hcp : c ≠ pool) (hL : ix.length ≤ sizeLine) (h : CmbGo s c pool vs ix Q) :
    wpAny (model prog w) A (Builtin.«itertools.combinations.__next__» ⟨[.ref c], []⟩) (fun f s' => ∃ v, f = .done (.ret v) ∧ Q v s') E s := by
  unfold Builtin.«itertools.combinations.__next__»
  show wpAny _ _ (slotArgs "__next__" 0 _ >>= _) _ _ _
  refine wpAny_bind ?_
  unfold slotArgs
  wp_walk
  generalize hk : (List.map _ (List.drop 3 _)) = ks
  have ek : ks = ix := by rw [← hk]; simp [rawInts, rawInt, Function.comp_def]
  subst ek
  clear hk
  rw [if_neg (by simp; exact hL)]
  wp_walk
  have hup := Heap.get?_update_self (Obj.mapFields fun x => x.setIfInBounds 1 (rawInt 1)) hp (by rw [cmb_set1]; rfl)
  rw [cmb_set1] at hup
  exact ⟨_, rfl, cmb_fin (old := old) h (fun b o hb q => (Heap.get?_update_other _ _ (Ne.symm hb)).trans q) (by rw [Heap.size_update]; exact Nat.le_refl _) hup⟩
theorem raise_new {α : Type} {a : Addr} {Q : α → Shared → Prop} (hh : A.handled = none) (h : E (.ref a) s) : wpAny (model prog w) A (raiseNew (.ref a) : Sem α) Q E s := by
  simp only [raiseNew]
  refine wpAny_bind (wpAny_bind (wpAny_handled ?_)); rw [hh]
  exact wpAny_pure (wpAny_throw h)
def CmbEnd (s : Shared) (c : Addr) (E : Value → Shared → Prop) : Prop := ∀ (a : Addr) (o : Obj) (h' : Heap), (∀ b o, b ≠ c → s.heap.get? b = some o → h'.get? b = some o) → h'.get? a = some o → o.cls = .type "StopIteration" → E (.ref a) { s with heap := h' }
theorem cmb_next2 {c pool : Addr} {old : Value} {ix : List Nat} {Q : Value → Shared → Prop} (hh : A.handled = none) (hp : s.heap.get? c = some (cmbObj pool 2 old ix)) (h : CmbEnd s c E) :
    wpAny (model prog w) A (Builtin.«itertools.combinations.__next__» ⟨[.ref c], []⟩) (fun f s' => ∃ v, f = .done (.ret v) ∧ Q v s') E s := by
  unfold Builtin.«itertools.combinations.__next__»
  show wpAny _ _ (slotArgs "__next__" 0 _ >>= _) _ _ _
  refine wpAny_bind ?_
  unfold slotArgs
  wp_walk
  exact raise_new hh (h _ _ _ (fun b o hb q => Heap.get?_push_of_some _ (Heap.get?_push_of_some _ q)) (Heap.get?_push_size _ rfl) rfl)
theorem cmb_next1 {c pool : Addr} {old : Value} {ix : List Nat} {vs : List Value} {n : Nat} {Q : Value → Shared → Prop} (hh : A.handled = none) (hp : s.heap.get? c = some (cmbObj pool 1 old ix)) (hpool : s.heap.get? pool = some (seqObj "tuple" vs.toArray n)) (hcp : c ≠ pool)
    (h : ∀ jx, nxtC vs.length ix = some jx → jx.length ≤ cap ∧ CmbGo s c pool vs jx Q) (hE : nxtC vs.length ix = none → CmbEnd s c E) :
    wpAny (model prog w) A (Builtin.«itertools.combinations.__next__» ⟨[.ref c], []⟩) (fun f s' => ∃ v, f = .done (.ret v) ∧ Q v s') E s := by
  unfold Builtin.«itertools.combinations.__next__»
  show wpAny _ _ (slotArgs "__next__" 0 _ >>= _) _ _ _
  refine wpAny_bind ?_
  unfold slotArgs
  wp_walk
  generalize hk : (List.map _ (List.drop 3 _)) = ks
  have ek : ks = ix := by rw [← hk]; simp [rawInts, rawInt, Function.comp_def]
  subst ek
  clear hk
  split
  · rename_i jx hj
    have hj' : nxtC vs.length ks = some jx := by rw [← hj, List.size_toArray]; rfl
    obtain ⟨hL, hg⟩ := h jx hj'
    unfold itSetNumbersFrom
    wp_walk
    have e3 : (Obj.mapFields (fun fs => fs.extract 0 3 ++ (List.map (fun (n : Nat) => rawInt n) jx).toArray) (cmbObj pool 1 old ks)) = cmbObj pool 1 old jx := cmb_set3
    have e4 : (cmbObj pool 1 old jx).data.pastItsLine = none := by
      have := cap_line
      unfold cap at this
      unfold cap at hL
      simp [cmbObj, Data.pastItsLine, rawInts]
      omega
    have hup := Heap.get?_update_self (Obj.mapFields fun fs => fs.extract 0 3 ++ (List.map (fun (n : Nat) => rawInt n) jx).toArray) hp (by rw [e3]; rfl)
    rw [e3] at hup
    rw [e3, e4]
    wp_walk
    rw [if_neg (by have := cap_line; simp; omega)]
    wp_walk
    first
      | exact ⟨_, rfl, cmb_fin (old := old) hg (fun b o hb q => (Heap.get?_update_other _ _ (Ne.symm hb)).trans q) (by rw [Heap.size_update]; exact Nat.le_refl _) hup⟩
  · rename_i hj
    have hj' : nxtC vs.length ks = none := by rw [← hj, List.size_toArray]; rfl
    wp_walk
    exact raise_new hh (hE hj' _ _ _ (fun b o hb q => Heap.get?_push_of_some _ (Heap.get?_push_of_some _ ((Heap.get?_update_other _ _ (Ne.symm hb)).trans q))) (Heap.get?_push_size _ rfl) rfl)
end
end Pz
set_option Elab.async false
set_option linter.all false
set_option maxRecDepth 100000
set_option maxHeartbeats 1000000
namespace Pz
open PySem PySem.Spec L2
open PyProof.Rows hiding St
open PySem.Builtin.Itertools
/-- what comes behind ix, k turns looked at, at most -/
def walkC (n : Nat) : Nat → List Nat → Option (List (List Nat))
  | 0, _ => none
  | k + 1, ix => match nxtC n ix with
    | none => some []
    | some jx => if jx.length ≤ cap then (walkC n k jx).map (jx :: ·) else none
section
variable {prog : Program} {w : World} {A : Around} {E : Value → Shared → Prop} {s : Shared}
theorem cmb_ty {c pool : Addr} {st : Int} {old : Value} {ix : List Nat} (hp : s.heap.get? c = some (cmbObj pool st old ix)) : s.TypeIs (.ref c) "itertools.combinations" := ⟨_, hp, rfl⟩
theorem cmb_pyNext {c : Addr} {Q : Option Value → Shared → Prop} (hT : s.TypeIs (.ref c) "itertools.combinations")
    (h : ∀ E', (∀ (a : Addr) (o : Obj) (s' : Shared), s'.heap.get? a = some o → o.cls = .type "StopIteration" → Q none s' → E' (.ref a) s') → wpAny (model prog w) A.in1 (Builtin.«itertools.combinations.__next__» ⟨[.ref c], []⟩) (fun f s' => ∃ v, f = .done (.ret v) ∧ Q (some v) s') E' s) :
    wpAny (model prog w) A (pyNext (.ref c)) Q E s := by
  unfold pyNext
  refine wpAny_bind (wpAny_attempt (wpAny_callSpecial?_slot (name := Str.ofString "__next__") hT slot_cmb_next (wpAny_call_entry slot_cmb_next hT entry_cmb_next ?_ (args_cmb_next _))))
  refine wpAny_mono (h _ ?_) (fun f s' z => ?_) fun _ _ z => z
  · intro a o s' ha hc hq
    refine wpAny_bind (wpAny_isInstance (T := "StopIteration") (b := true) ⟨_, ha, hc⟩ isSubtype_stop (wpAny_pure hq))
  · obtain ⟨v, rfl, hq⟩ := z
    exact ⟨v, rfl, wpAny_pure hq⟩
theorem cmb_pyIter {c : Addr} {Q : Value → Shared → Prop} (hT : s.TypeIs (.ref c) "itertools.combinations") (h : Q (.ref c) s) : wpAny (model prog w) A (pyIter (.ref c)) Q E s := by
  refine wpAny_pyIter_slot hT slot_cmb_iter (wpAny_call_entry slot_cmb_iter hT entry_cmb_iter ?_ (args_cmb_iter _)); show wpAny _ _ (ret (.ref c)) _ _ s
  exact wpAny_pure ⟨_, rfl, "itertools.combinations", _, hT, slot_cmb_next.lookup, h⟩
/-- tuples of the pool's items, one after another, in the heap -/
def Laid (h' : Heap) (lo : Nat) (vs : List Value) : List Addr → List (List Nat) → Prop
  | [], [] => True
  | p :: ps, y :: ys => lo ≤ p ∧ p ∉ ps ∧ h'.get? p = some (seqObj "tuple" (picks vs y).toArray 0) ∧ Laid h' lo vs ps ys
  | _, _ => False
inductive Coming (n : Nat) : Int → List Nat → List (List Nat) → Prop
  | stop2 {ix : List Nat} : Coming n 2 ix []
  | stop1 {ix : List Nat} : nxtC n ix = none → Coming n 1 ix []
  | first {ix : List Nat} {ys : List (List Nat)} : ix.length ≤ cap → Coming n 1 ix ys → Coming n 0 ix (ix :: ys)
  | next {ix jx : List Nat} {ys : List (List Nat)} : nxtC n ix = some jx → jx.length ≤ cap → Coming n 1 jx ys → Coming n 1 ix (jx :: ys)
theorem coming_walk {n : Nat} : ∀ {k : Nat} {ix : List Nat} {ys : List (List Nat)}, walkC n k ix = some ys → Coming n 1 ix ys
  | 0, ix, ys, h => by cases h
  | k + 1, ix, ys, h => by
    unfold walkC at h
    split at h
    · rename_i e; cases h; exact .stop1 e
    · rename_i jx e
      split at h
      · rename_i hl
        cases hw : walkC n k jx with
        | none => rw [hw] at h; cases h
        | some zs => rw [hw] at h; cases h; exact .next e hl (coming_walk hw)
      · cases h
/-- one more step: the next tuple, or the end -/
theorem coming_step {c pool : Addr} {vs : List Value} {m : Nat} {st : Int} {old : Value} {ix : List Nat} {ys : List (List Nat)} {Q : Option Value → Shared → Prop} (hh : A.handled = none) (hC : Coming vs.length st ix ys) (hp : s.heap.get? c = some (cmbObj pool st old ix)) (hpool : s.heap.get? pool = some (seqObj "tuple" vs.toArray m)) (hcp : c ≠ pool)
    (hnil : ys = [] → ∀ h', (∀ b o, b ≠ c → s.heap.get? b = some o → h'.get? b = some o) → Q none { s with heap := h' })
    (hcons : ∀ jx zs, ys = jx :: zs → Coming vs.length 1 jx zs → CmbGo s c pool vs jx fun v s' => Q (some v) s') :
    wpAny (model prog w) A (pyNext (.ref c)) Q E s := by
  refine cmb_pyNext (cmb_ty hp) fun E' hE' => ?_
  have hend : ys = [] → CmbEnd s c E' := fun e a o h' k ha hc => hE' a o _ ha hc (hnil e h' k)
  cases hC with
  | stop2 => exact cmb_next2 (A := A.in1) hh hp (hend rfl)
  | stop1 e => exact cmb_next1 (A := A.in1) hh hp hpool hcp (fun jx z => by rw [e] at z; cases z) fun _ => hend rfl
  | first hl hC2 => exact cmb_next0 hp hpool hcp (Nat.le_trans hl cap_line) (hcons _ _ rfl hC2)
  | next e hl hC2 => exact cmb_next1 (A := A.in1) hh hp hpool hcp (fun jx z => by rw [e] at z; cases z; exact ⟨hl, hcons _ _ rfl hC2⟩) fun z => by rw [e] at z; cases z
theorem Laid.ge {h' : Heap} {lo : Nat} {vs : List Value} : ∀ {ps : List Addr} {ys : List (List Nat)}, Laid h' lo vs ps ys → ∀ p ∈ ps, lo ≤ p
  | [], _, _, p, hp => by cases hp
  | q :: ps, [], h, _, _ => h.elim
  | q :: ps, y :: ys, h, p, hp => by
    rcases List.mem_cons.mp hp with e | hp
    · rw [e]; exact h.1
    · exact Laid.ge h.2.2.2 p hp
theorem Laid.mono {h' : Heap} {lo lo' : Nat} {vs : List Value} (hl : lo' ≤ lo) : ∀ {ps : List Addr} {ys : List (List Nat)}, Laid h' lo vs ps ys → Laid h' lo' vs ps ys
  | [], [], _ => trivial
  | [], _ :: _, h => h.elim
  | _ :: _, [], h => h.elim
  | _ :: _, _ :: _, h => ⟨Nat.le_trans hl h.1, h.2.1, h.2.2.1, Laid.mono hl h.2.2.2⟩
theorem cmb_drain {S c pool : Addr} {vs : List Value} {m : Nat} {res : Value} {R : Result → Shared → Prop} (hh : A.handled = none) (hcp : c ≠ pool) (hSc : S ≠ c) (hSp : S ≠ pool) : ∀ {ys : List (List Nat)} {st : Int} {ix : List Nat} {old : Value} {acc : Array Value} {k : Nat} {s : Shared}, Coming vs.length st ix ys →
    s.heap.get? c = some (cmbObj pool st old ix) → s.heap.get? pool = some (seqObj "tuple" vs.toArray m) → s.heap.get? S = some (lstObj acc k) → acc.size + ys.length ≤ cap →
    (∀ h' ps k', (∀ b o, b ≠ c → b ≠ S → s.heap.get? b = some o → h'.get? b = some o) → Laid h' s.heap.objs.size vs ps ys → h'.get? S = some (lstObj (acc ++ (ps.map Value.ref).toArray) k') → R (.ok (.ret res)) { s with heap := h' }) →
    codeAny (model prog w) A (.builtin "list.extend.loop" ⟨[.ref S, .ref c, res], []⟩) R s := by
  intro ys
  induction ys with
  | nil =>
    intro st ix old acc k s hC hp hpool hS hsz h
    refine codeAny_builtin F.entry_extend_loop ?_
    rw [Around.under_plainId F.plain_extend_loop _]
    show wpAny _ A.in1 (pyNext (.ref c) >>= _) _ _ s
    refine wpAny_bind (coming_step (A := A.in1) hh hC hp hpool hcp (fun e h' k1 => ?_) fun jx zs e => by cases e)
    refine wpAny_pure (h h' [] k (fun b o hb hb2 q => k1 b o hb q) trivial ?_)
    have := k1 S _ hSc hS
    simpa using this
  | cons jx zs ih =>
    intro st ix old acc k s hC hp hpool hS hsz h
    refine codeAny_builtin F.entry_extend_loop ?_
    rw [Around.under_plainId F.plain_extend_loop _]
    show wpAny _ A.in1 (pyNext (.ref c) >>= _) _ _ s
    refine wpAny_bind (coming_step (A := A.in1) hh hC hp hpool hcp (fun e => by cases e) fun jx' zs' e hC2 p h' k1 hlo hat hc' => ?_)
    cases e
    show wpAny _ A.in1 (updateSeq S (·.push (.ref p)) >>= _) _ _ _
    have hS1 := k1 S _ hSc hS
    have cl := cap_line
    rw [List.length_cons] at hsz
    refine wpAny_bind (wpAny_updateSeq hS1 rfl (wpAny_pure ⟨plainId_quiet F.plain_extend_loop _, ?_⟩) (by show acc.size ≤ sizeLine; omega) (by show (acc.push (.ref p)).size ≤ sizeLine + 1; rw [Array.size_push]; omega))
    have oth : ∀ b o, b ≠ S → h'.get? b = some o → (h'.update S (Obj.mapSeq (·.push (.ref p)))).get? b = some o := fun b o hb q => (Heap.get?_update_other _ _ (Ne.symm hb)).trans q
    have hS2 := Heap.get?_update_self (Obj.mapSeq (·.push (Value.ref p))) hS1 rfl
    have psz : p < h'.objs.size := Heap.lt_size hat
    have pS : p ≠ S := Nat.ne_of_gt (Nat.lt_of_lt_of_le (Heap.lt_size hS) hlo)
    have pc : p ≠ c := Nat.ne_of_gt (Nat.lt_of_lt_of_le (Heap.lt_size hp) hlo)
    refine ih (s := { s with heap := h'.update S (Obj.mapSeq (·.push (.ref p))) }) (acc := acc.push (.ref p)) hC2 (oth _ _ (Ne.symm hSc) hc') (oth _ _ (Ne.symm hSp) (k1 pool _ (Ne.symm hcp) hpool)) hS2 (by rw [Array.size_push]; omega) fun h2 ps k2 kk la hS3 => ?_
    have hsz2 : (h'.update S (Obj.mapSeq (·.push (Value.ref p)))).objs.size = h'.objs.size := Heap.size_update ..
    refine h h2 (p :: ps) k2 (fun b o hb hb2 q => kk b o hb hb2 (oth b o hb2 (k1 b o hb q))) ⟨hlo, fun hm => ?_, kk p _ pc pS (oth _ _ pS hat), la.mono ?_⟩ ?_
    · have := la.ge p hm
      have h9 : h'.objs.size ≤ p := by rw [← hsz2]; exact this
      exact Nat.not_le.mpr psz h9
    · show s.heap.objs.size ≤ (h'.update S (Obj.mapSeq (·.push (Value.ref p)))).objs.size
      rw [hsz2]; exact Nat.le_of_lt (Nat.lt_of_le_of_lt hlo psz)
    · have e9 : acc.push (.ref p) ++ (ps.map Value.ref).toArray = acc ++ ((p :: ps).map Value.ref).toArray := by
        apply Array.ext'
        simp
      rw [← e9]; exact hS3
end
end Pz
set_option Elab.async false
set_option linter.all false
set_option maxRecDepth 100000
set_option maxHeartbeats 1000000
namespace Pz
open PySem PySem.Spec L2
open PyProof.Rows hiding St
open PySem.Builtin.Itertools
section
variable {prog : Program} {w : World} {A : Around} {E : Value → Shared → Prop} {s : Shared}
theorem call_list_cmb {c pool : Addr} {vs : List Value} {m : Nat} {st : Int} {old : Value} {ix : List Nat} {ys : List (List Nat)} {Q : Value → Shared → Prop} (hh : A.handled = none) (hC : Coming vs.length st ix ys) (hp : s.heap.get? c = some (cmbObj pool st old ix)) (hpool : s.heap.get? pool = some (seqObj "tuple" vs.toArray m)) (hcp : c ≠ pool) (hlen : ys.length ≤ cap)
    (hQ : ∀ S ps k' h', (∀ b o, b ≠ c → s.heap.get? b = some o → h'.get? b = some o) → s.heap.objs.size ≤ S → S ∉ ps → Laid h' s.heap.objs.size vs ps ys → h'.get? S = some (lstObj (ps.map Value.ref).toArray k') → Q (.ref S) { s with heap := h' }) :
    wpAny (model prog w) A (call (.type "list") [.ref c]) Q E s := by
  let S := s.heap.objs.size
  have hSc : S ≠ c := Nat.ne_of_gt (Heap.lt_size hp)
  have hSp : S ≠ pool := Nat.ne_of_gt (Heap.lt_size hpool)
  refine callType_codes (Q₁ := fun obj s₁ => obj = .ref S ∧ s₁ = { s with heap := s.heap.push { cls := .type "list", data := .seq #[] } }) F.called_list (F.typeCall_list_1 _) F.entry_list_init (code_list_new _ ⟨rfl, rfl⟩) fun obj s₁ h₁ => ?_
  obtain ⟨rfl, rfl⟩ := h₁
  have hS : (s.heap.push { cls := .type "list", data := .seq #[] }).get? S = some { cls := .type "list", data := .seq #[] } := Heap.get?_push_size _ rfl
  refine ⟨⟨_, hS, rfl⟩, F.args_list_init_2 _ _, ?_⟩
  have keep : ∀ (h : Heap) (f : Obj → Obj), (∀ b o, s.heap.get? b = some o → h.get? b = some o) → ∀ b o, s.heap.get? b = some o → (h.update S f).get? b = some o := fun h f q b o e => (Heap.get?_update_other _ _ (Ne.symm (Nat.ne_of_lt (Heap.lt_size e)))).trans (q b o e)
  have k1 : ∀ b o, s.heap.get? b = some o → (s.heap.push { cls := .type "list", data := .seq #[] }).get? b = some o := fun b o e => Heap.get?_push_of_some _ e
  show wpAny _ A.in1.in1 (Builtin.List.listItems (.ref S) >>= fun o => Builtin.List.listUpdate (.ref S) (fun _ => #[]) >>= fun _ => letGo o.toList.reverse >>= fun _ => Builtin.List.listExtendWith (.ref S) (.ref c) .none) _ _ _
  refine wpAny_bind (PyProof.Rows.listItems_at hS rfl (wpAny_bind (PyProof.Rows.listUpdate_at hS rfl (wpAny_bind (wpAny_letGo ?_)) (Nat.zero_le _) (Nat.zero_le _))))
  have hS2 := Heap.get?_update_self (Obj.mapSeq (fun _ => (#[] : Array Value))) hS rfl
  have k2 := keep _ (Obj.mapSeq (fun _ => (#[] : Array Value))) k1
  have ty : ∀ {s' : Shared}, (∀ b o, s.heap.get? b = some o → s'.heap.get? b = some o) → s'.TypeIs (.ref c) "itertools.combinations" := fun q => cmb_ty (q _ _ hp)
  unfold Builtin.List.listExtendWith
  refine wpAny_bind (wpAny_typeOf (ty k2) ?_)
  have g1 : (Builtin.List.listSameRef (.ref S) (.ref c) || Value.type "itertools.combinations" == Value.type "list" || Value.type "itertools.combinations" == Value.type "tuple") = false := by simp [Builtin.List.listSameRef, hSc]
  rw [if_neg (by rw [g1]; decide)]
  refine wpAny_bind (cmb_pyIter (ty k2) (wpAny_bind (wpAny_holding ?_)))
  unfold Builtin.List.listLengthHint
  refine wpAny_bind (wpAny_specialOf (ty k2) no_len_cmb ?_); show wpAny _ A.in1.in1 (specialOf (Value.ref c) (Str.ofString "__length_hint__") >>= _) _ _ _
  refine wpAny_bind (wpAny_specialOf (ty k2) no_hint_cmb (wpAny_pure ?_)); show wpAny _ A.in1.in1 (rule "list.extend.makes-room" >>= fun _ => Builtin.List.listTouch (.ref S) >>= fun _ => again (.builtin "list.extend.loop" ⟨[.ref S, .ref c, .none], []⟩)) _ _ _
  refine wpAny_bind (wpAny_rule (wpAny_bind ?_)); show wpAny _ A.in1.in1 (updateSeq S (·.push .none) >>= fun _ => updateSeq S (·.pop)) _ _ _
  have hS3 := Heap.get?_update_self (Obj.mapSeq (·.push Value.none)) hS2 rfl
  refine wpAny_bind (wpAny_updateSeq hS2 rfl (wpAny_updateSeq (hz := by seq_fits) hS3 rfl (wpAny_pure ⟨plainId_quiet F.plain_extend_loop _, ?_⟩)))
  have hS4 := Heap.get?_update_self (Obj.mapSeq (·.pop)) hS3 rfl
  have k4 := keep _ (Obj.mapSeq (·.pop)) (keep _ (Obj.mapSeq (·.push Value.none)) k2)
  have sz4 : ((((s.heap.push { cls := .type "list", data := .seq #[] }).update S (Obj.mapSeq (fun _ => (#[] : Array Value)))).update S (Obj.mapSeq (·.push Value.none))).update S (Obj.mapSeq (·.pop))).objs.size = S + 1 := by
    rw [Heap.size_update, Heap.size_update, Heap.size_update, PyProof.Rows.size_push']
  refine cmb_drain (A := A.in1) hh hcp hSc hSp hC (k4 _ _ hp) (k4 _ _ hpool) (acc := #[]) hS4 (by simpa using hlen) fun h' ps k' kk la hS5 => ⟨rfl, ?_⟩
  refine hQ S ps k' h' (fun b o hb e => kk b o hb (Nat.ne_of_lt (Heap.lt_size e)) (k4 b o e)) (Nat.le_refl _) (fun hm => ?_) (la.mono ?_) (by simpa using hS5)
  · have := la.ge S hm
    exact Nat.not_succ_le_self S (by rw [sz4] at this; exact this)
  · rw [sz4]; exact Nat.le_succ _
end

/-! ### the tracked heap with them -/
def upds (H : Hp) : List (Addr × List V) → Hp
  | [] => H
  | (a, xs) :: r => upd (upds H r) a (.tup xs)
theorem upds_out {H : Hp} {b : Addr} : ∀ {l : List (Addr × List V)}, b ∉ l.map (·.1) → upds H l b = H b
  | [], _ => rfl
  | (a, xs) :: r, h => by
    have h' : b ≠ a ∧ b ∉ r.map (·.1) := by simpa [not_or] using h
    show upd (upds H r) a (.tup xs) b = H b
    rw [upd_ne h'.1, upds_out h'.2]
theorem hok_none {P : Program} {w : World} {H : Hp} {h : Heap} (ok : HOk P w H h) {a : Addr} (e : h.get? a = none) (hs : h.objs.size ≤ a) : H a = none := ok.fresh hs
theorem lay_many {X : Cx} {pins : List (Addr × Obj)} {σ : L2.St} {H : Hp} : ∀ {l : List (Addr × List V)} {s : Shared} {h' : Heap}, Inv X pins σ H s → (∀ b o, s.heap.get? b = some o → h'.get? b = some o) → (∀ q ∈ l, s.heap.objs.size ≤ q.1 ∧ ∃ us, Vals q.2 us ∧ q.2.length ≤ sizeLine ∧ h'.get? q.1 = some (seqObj "tuple" us.toArray 0)) → (l.map (·.1)).Nodup → Inv X pins σ (upds H l) { s with heap := h' }
  | [], s, h', I, k, _, _ => I.kept (t' := s.toks) k
  | (a, xs) :: r, s, h', I, k, hl, nd => by
    have nd' : a ∉ r.map (·.1) ∧ (r.map (·.1)).Nodup := List.nodup_cons.mp nd
    obtain ⟨ha, us, rv, hz, hat⟩ := hl (a, xs) List.mem_cons_self
    obtain ⟨G, g1, g2⟩ := restrict h' fun b => decide (b ≠ a)
    have gk : ∀ b o, b ≠ a → h'.get? b = some o → G.get? b = some o := fun b o hb e => by rw [g1 b (decide_eq_true hb)]; exact e
    have ga : G.get? a = none := g2 a (decide_eq_false fun z => z rfl)
    have gs : ∀ b o, G.get? b = some o → h'.get? b = some o := fun b o e => by
      by_cases hb : b = a
      · rw [hb, ga] at e; cases e
      · rw [← g1 b (decide_eq_true hb)]; exact e
    have I2 : Inv X pins σ (upds H r) { s with heap := G } := lay_many (h' := G) I (fun b o e => gk b o (Nat.ne_of_lt (Nat.lt_of_lt_of_le (Heap.lt_size e) ha)) (k b o e)) (fun q hq => by
      obtain ⟨b1, us2, b2, b3, b4⟩ := hl q (List.mem_cons_of_mem _ hq)
      exact ⟨b1, us2, b2, b3, gk _ _ (fun z => nd'.1 (z ▸ List.mem_map.mpr ⟨q, hq, rfl⟩)) b4⟩) nd'.2
    have hn : upds H r a = none := by rw [upds_out nd'.1]; exact I.hok.fresh ha
    exact I2.laidN (t' := s.toks) gs ga hn ⟨hz, us, rv, ⟨_, hat, rfl, 0, rfl⟩⟩
end Pz
set_option Elab.async false
set_option linter.all false
set_option maxRecDepth 100000
set_option maxHeartbeats 1000000
namespace Pz
open PySem PySem.Spec L2
open PyProof.Rows hiding St
open PySem.Builtin.Itertools
def combI (n r : Nat) : Option (List (List Nat)) := if r > n then some [] else (walkC n (cap + 1) (List.range r)).map (List.range r :: ·)
def pickV (xs : List V) (y : List Nat) : List V := y.map fun i => xs.getD i .non
theorem coming_comb {n r : Nat} {ys : List (List Nat)} (hr : r ≤ 2 ^ 20) (h : combI n r = some ys) : Coming n (if r > n then 2 else 0) (List.range r) ys := by
  unfold combI at h
  split at h
  · cases h; rw [if_pos ‹_›]; exact .stop2
  · rw [if_neg ‹_›]
    cases hw : walkC n (cap + 1) (List.range r) with
    | none => rw [hw] at h; cases h
    | some zs =>
      rw [hw] at h; cases h
      exact .first (by rw [List.length_range]; unfold cap; omega) (coming_walk hw)
theorem Coming.small {n : Nat} {st : Int} {ix : List Nat} {ys : List (List Nat)} (h : Coming n st ix ys) : ∀ y ∈ ys, y.length ≤ cap := by
  induction h with
  | stop2 => intro y hy; cases hy
  | stop1 _ => intro y hy; cases hy
  | first hl _ ih => intro y hy; rcases List.mem_cons.mp hy with e | hy; · rw [e]; exact hl
                     · exact ih y hy
  | next _ hl _ ih => intro y hy; rcases List.mem_cons.mp hy with e | hy; · rw [e]; exact hl
                      · exact ih y hy
theorem vals_getD : ∀ {xs : List V} {us : List Value} {i : Nat}, Vals xs us → RelV (xs.getD i .non) (us.getD i .none)
  | [], [], i, _ => by simp; rfl
  | x :: xs, u :: us, 0, .cons h _ => h
  | x :: xs, u :: us, i + 1, .cons _ h => by simpa using vals_getD (i := i) h
theorem vals_pick {xs : List V} {us : List Value} (h : Vals xs us) : ∀ {y : List Nat}, Vals (pickV xs y) (picks us y)
  | [] => .nil
  | i :: y => by
    refine .cons ?_ (vals_pick h (y := y))
    have e : us.toArray.getD i .none = us.getD i .none := by simp [List.getD_eq_getElem?_getD, Array.getD_eq_getD_getElem?]
    show RelV (xs.getD i .non) (us.toArray.getD i .none)
    rw [e]; exact vals_getD h
theorem Laid.nd {h' : Heap} {lo : Nat} {vs : List Value} : ∀ {ps : List Addr} {ys : List (List Nat)}, Laid h' lo vs ps ys → ps.Nodup ∧ ps.length = ys.length
  | [], [], _ => ⟨List.nodup_nil, rfl⟩
  | [], _ :: _, h => h.elim
  | _ :: _, [], h => h.elim
  | _ :: _, _ :: _, h => by
    obtain ⟨a, b⟩ := Laid.nd h.2.2.2
    exact ⟨List.nodup_cons.mpr ⟨h.2.1, a⟩, by simp [b]⟩
theorem Laid.each {h' : Heap} {lo : Nat} {vs : List Value} {xs : List V} (rv : Vals xs vs) : ∀ {ps : List Addr} {ys : List (List Nat)}, Laid h' lo vs ps ys → (∀ y ∈ ys, y.length ≤ cap) → ∀ q ∈ ps.zip (ys.map (pickV xs)), lo ≤ q.1 ∧ ∃ us, Vals q.2 us ∧ q.2.length ≤ sizeLine ∧ h'.get? q.1 = some (seqObj "tuple" us.toArray 0)
  | [], _, _, _, q, hq => by simp at hq
  | _ :: _, [], h, _, _, _ => h.elim
  | p :: ps, y :: ys, h, hs, q, hq => by
    rw [List.map_cons, List.zip_cons_cons] at hq
    rcases List.mem_cons.mp hq with e | hq
    · subst e
      refine ⟨h.1, _, vals_pick rv, ?_, h.2.2.1⟩
      have := hs y List.mem_cons_self
      have := cap_line
      unfold pickV
      rw [List.length_map]; omega
    · exact Laid.each rv h.2.2.2 (fun y hy => hs y (List.mem_cons_of_mem _ hy)) q hq
def tCmb (K : PySem.W.Frag) (t : TA) : TE := fun σ H Q => t σ H fun vs H1 => ∃ (q : Addr) (xs : List V) (r : Int) (ys : List (List Nat)), vs = [.ref q, .int r] ∧ (SqL K H1 q xs ∨ SqT K H1 q xs) ∧ 0 ≤ r ∧ r ≤ 2 ^ 20 ∧ combI xs.length r.toNat = some ys ∧ ys.length ≤ cap ∧
  ∀ (ps : List Addr) (l : Addr), ps.length = ys.length → ps.Nodup → (∀ p ∈ ps, H1 p = none) → H1 l = none → l ∉ ps → Q (.ref l) (upd (upds H1 (ps.zip (ys.map (pickV xs)))) l (.lst (ps.map V.ref)))
theorem vals_refs : ∀ {ps : List Addr}, Vals (ps.map V.ref) (ps.map Value.ref)
  | [] => .nil
  | _ :: _ => .cons rfl vals_refs
theorem pe_cmbL {X : Cx} {a b : Expr} {p p2 pos pos2 : Pos} {t : TA} (hgl : Gl X "list") (hml : X.mg "list" = none) (hgc : Gl X "combinations") (hmc : X.mg "combinations" = some (.type "itertools.combinations")) (hcalm : X.calm = true) (ha : PA X [a, b] t)
    (he : starEach [.Call (.Name "combinations" p2) [a, b] [] pos2] X.env = [(false, eval (.Call (.Name "combinations" p2) [a, b] [] pos2) X.env)]) (he2 : starEach [a, b] X.env = (false, eval a X.env) :: starEach [b] X.env) (hpl2 : (backTo pos2 (starEach [b] X.env)).any (·.1) = false) :
    PE X (.Call (.Name "list" p) [.Call (.Name "combinations" p2) [a, b] [] pos2] [] pos) (tCmb X.K t) := by
  refine ⟨fun pins s σ H Q I h => wpAny_Call_Name_kw (ld_blt I hgl hml rfl ?_)⟩
  refine PyProof.Rows.callWith_type1 (rest := []) ?_ he rfl
  rw [he]
  show wpAny _ _ (spliced ((false, eval (.Call (.Name "combinations" p2) [a, b] [] pos2) X.env) :: backTo pos [])) _ _ s
  refine Calls.spliced_cons (wpAny_Call_Name_kw (ld_glob I hgc hmc (PyProof.Rows.callWith_type1 (thn (ha.run pos2 pins s σ H _ I h) fun us s1 ⟨vs, H1, I1, r1, q, xs, r, ys, ev, hs, h0, h1, hc, hlen, k⟩ => ?_) he2 hpl2)))
  subst ev
  obtain ⟨u1, u2, rfl, ru1, ru2⟩ := vals2 r1
  obtain rfl : u1 = Value.ref q := ru1
  obtain ⟨tk, rfl⟩ := ru2
  have go : ∀ {T : String} {o : Obj} {n : Nat} {its : List Value}, (T = "list" ∨ T = "tuple") → s1.heap.get? q = some o → o.cls = .type T → o.data = .seq its.toArray n → Vals xs its → xs.length ≤ sizeLine →
      wpAny (model X.prog X.w) X.A (call (.type "itertools.combinations") [.ref q, .int r tk]) (fun v s2 => wpAny (model X.prog X.w) X.A (spliced (backTo pos [])) (fun vs s3 => wpAny (model X.prog X.w) X.A (call (.type "list") (v :: vs)) (EP X pins σ Q) X.xe s3) X.xe s2) X.xe s1 := by
    intro T o n its hT ho hcl hd rv hz
    have hl := rv.length
    refine call_cmb hT ho hcl hd (by rw [← hl]; exact hz) h0 h1 fun pool c h' k1 hp1 hc1 hcp hat hcat => ?_
    refine Calls.spliced_nil ?_
    have hC := coming_comb (n := its.length) (r := r.toNat) (ys := ys) (by omega) (by rw [← hl]; exact hc)
    refine call_list_cmb (s := { s1 with heap := h' }) (I1.ok.hd hcalm) hC hcat hat hcp hlen fun S ps k' h2 k2 hS hSps la hSat => ?_
    have hle : s1.heap.objs.size ≤ h'.objs.size := Nat.le_of_lt (Nat.lt_of_le_of_lt hc1 (Heap.lt_size hcat))
    have hSn : s1.heap.objs.size ≤ S := Nat.le_trans hle hS
    have keep : ∀ b o, s1.heap.get? b = some o → h2.get? b = some o := fun b o e => k2 b o (Nat.ne_of_lt (Nat.lt_of_lt_of_le (Heap.lt_size e) hc1)) (k1 b o e)
    obtain ⟨nd, hpl⟩ := la.nd
    obtain ⟨G, g1, g2⟩ := restrict h2 fun b => decide (b ≠ S)
    have gk : ∀ b o, b ≠ S → h2.get? b = some o → G.get? b = some o := fun b o hb e => by rw [g1 b (decide_eq_true hb)]; exact e
    have ga : G.get? S = none := g2 S (decide_eq_false fun z => z rfl)
    have gs : ∀ b o, G.get? b = some o → h2.get? b = some o := fun b o e => by
      by_cases hb : b = S
      · rw [hb, ga] at e; cases e
      · rw [← g1 b (decide_eq_true hb)]; exact e
    have zip1 : (ps.zip (ys.map (pickV xs))).map (·.1) = ps := List.map_fst_zip (by rw [List.length_map, hpl]; exact Nat.le_refl _)
    have I2 : Inv X pins σ (upds H1 (ps.zip (ys.map (pickV xs)))) { s1 with heap := G } := by
      refine lay_many I1 (fun b o e => gk b o (Nat.ne_of_lt (Nat.lt_of_lt_of_le (Heap.lt_size e) hSn)) (keep b o e)) (fun q hq => ?_) (by rw [zip1]; exact nd)
      obtain ⟨b1, us2, b2, b3, b4⟩ := la.each rv hC.small q hq
      exact ⟨Nat.le_trans hle b1, us2, b2, b3, gk _ _ (fun z => hSps (z ▸ (List.of_mem_zip hq).1)) b4⟩
    have hn : upds H1 (ps.zip (ys.map (pickV xs))) S = none := by rw [upds_out (by rw [zip1]; exact hSps)]; exact I1.hok.fresh hSn
    have hcl := cap_line
    refine ⟨.ref S, _, I2.laidN (t' := s1.toks) (o := .lst (ps.map V.ref)) gs ga hn ⟨by rw [List.length_map, hpl]; omega, ps.map Value.ref, k', vals_refs, hSat⟩, rfl, k ps S hpl nd (fun p hp => I1.hok.fresh (Nat.le_trans hle (la.ge p hp))) (I1.hok.fresh hSn) hSps⟩
  rcases hs with hs | hs
  · obtain ⟨its, rv, ⟨o, n, h1, h2, h3, h4⟩, hz⟩ := I1.list hs
    exact go (.inl rfl) h1 h2 h4 rv hz
  · obtain ⟨its, rv, ⟨o, h1, h2, n, h3⟩, hz⟩ := I1.tuple hs
    exact go (.inr rfl) h1 h2 h3 rv hz

variable {c : Gc} {F H H' : Hp} {L T T1 T2 : List (V × O)} {R : List Addr} {Γ : Cs} {e a b d tg : Expr} {es : List Expr} {pos pos2 p p2 : Pos} {v w : V} {o o' : O} {σ : L2.St} {S S' : Env} {W : List Nat} {x y : AE}
def pickD (ds : List D) (y : List Nat) : List D := y.map fun i => ds.getD i .non
theorem reps_getD : ∀ {ds : List D} {vs : List V} {i : Nat}, RepDs c F ds vs → RepD c F (ds.getD i .non) (vs.getD i .non)
  | [], vs, i, h => by
    have h' : vs = [] := h
    subst h'; simp; rfl
  | d :: ds, vs, 0, ⟨v, r, e, h1, h2⟩ => by subst e; exact h1
  | d :: ds, vs, i + 1, ⟨v, r, e, h1, h2⟩ => by subst e; simpa using reps_getD (i := i) h2
theorem reps_pick {ds : List D} {vs : List V} (h : RepDs c F ds vs) : ∀ {y : List Nat}, RepDs c F (pickD ds y) (pickV vs y)
  | [] => rfl
  | i :: y => ⟨_, _, rfl, reps_getD h, reps_pick h (y := y)⟩
theorem OkF.newT' {ds : List D} {vs : List V} {q : Addr} (h : OkF c F H [] L) (r : RepDs c F ds vs) (hq : H q = none) : ∃ F', Same F F' ∧ OkF c F' (upd H q (.tup vs)) [] ((.ref q, .fz (.tup ds)) :: L) := by
  obtain ⟨fp, h1, h2, h3, h4, h5⟩ := h
  have hF : F q = none := by
    cases e : F q with
    | none => rfl
    | some o => rw [h1 _ _ e] at hq; cases hq
  have hn : q ∉ fp := fun hm => by
    obtain ⟨u, hu⟩ := RepE.there L fp h2 q hm
    rw [hu] at hq; cases hq
  have sm : Same F (upd F q (.tup vs)) := same_upd hF
  refine ⟨upd F q (.tup vs), sm, fp, fun b u e => ?_, ⟨[], fp, ⟨rfl, q, vs, rfl, SqT.of upd_same, RepDs.mono sm ds vs r⟩, RepE.mono sm L fp (fun b hb => upd_ne fun z => hn (z ▸ hb)) h2, rfl⟩, h3, fun b hb => ?_, fun b hb => by cases hb⟩
  · by_cases hb : b = q
    · rw [hb, upd_same] at e; cases e; rw [hb]; exact upd_same
    · rw [upd_ne hb] at e; rw [upd_ne hb]; exact h1 _ _ e
  · rw [upd_ne fun z => hn (by rw [← z]; exact hb)]
    exact h4 b hb
theorem upds_ok {ds : List D} {xs : List V} : ∀ {ys : List (List Nat)} {ps : List Addr} {F : Hp}, OkF c F H [] L → RepDs c F ds xs → ps.length = ys.length → ps.Nodup → (∀ p ∈ ps, H p = none) →
    ∃ F', Same F F' ∧ OkF c F' (upds H (ps.zip (ys.map (pickV xs)))) [] L ∧ RepDs c F' (ys.map fun y => .tup (pickD ds y)) (ps.map V.ref)
  | [], ps, F, h, r, hl, _, _ => by
    have e : ps = [] := List.eq_nil_of_length_eq_zero hl
    subst e
    exact ⟨F, Same.refl F, h, rfl⟩
  | y :: ys, [], F, h, r, hl, _, _ => by simp at hl
  | y :: ys, q :: ps, F, h, r, hl, nd, hn => by
    have nd' := List.nodup_cons.mp nd
    obtain ⟨F1, s1, k1, k2⟩ := upds_ok (ys := ys) (ps := ps) h r (by simpa using hl) nd'.2 (fun p hp => hn p (List.mem_cons_of_mem _ hp))
    have zip1 : (ps.zip (ys.map (pickV xs))).map (·.1) = ps := List.map_fst_zip (by rw [List.length_map]; exact Nat.le_of_eq (by simpa using hl))
    have hq : upds H (ps.zip (ys.map (pickV xs))) q = none := by rw [upds_out (by rw [zip1]; exact nd'.1)]; exact hn q List.mem_cons_self
    obtain ⟨F2, s2, k3⟩ := OkF.newT' k1 (reps_pick (RepDs.mono s1 _ _ r) (y := y)) hq
    have k4 : RepD c F2 (.tup (pickD ds y)) (.ref q) := by
      obtain ⟨fp, z1, ⟨f, g, ⟨z2, z3⟩, _⟩, _⟩ := k3
      exact z3
    obtain ⟨fp, z1, ⟨f, g, ⟨z2, z3⟩, z4, z5⟩, z6, z7, z8⟩ := k3
    subst z2
    refine ⟨F2, s1.trans s2, ⟨g, z1, z4, by rw [z5] at z6; exact z6, by rw [z5] at z7; exact z7, z8⟩, _, _, rfl, k4, RepDs.mono s2 _ _ k2⟩
def combD (ds : List D) (r : Int) : Option O := if 0 ≤ r ∧ r ≤ 2 ^ 20 then (match combI ds.length r.toNat with
  | some ys => if ys.length ≤ cap then some (.ol (ys.map fun y => .fz (.tup (pickD ds y)))) else none
  | none => none) else none
def fComb : List D → Option O
  | [.lst ds, .int r] => combD ds r
  | [.tup ds, .int r] => combD ds r
  | _ => none
theorem se_cmb {as : AL} (B : Bi Γ "list") (hgc : Γ.sc.names.lookup ("combinations" : Str) = some .globalImplicit) (hmc : Γ.mg "combinations" = some (.type "itertools.combinations")) (ha : SoundA Γ [a, b] as)
    (he : ∀ env, starEach [.Call (.Name "combinations" p2) [a, b] [] pos2] env = [(false, eval (.Call (.Name "combinations" p2) [a, b] [] pos2) env)]) (he2 : ∀ env, starEach [a, b] env = (false, eval a env) :: starEach [b] env) (hpl2 : ∀ env, (backTo pos2 (starEach [b] env)).any (·.1) = false) :
    SoundE Γ (.Call (.Name "list" p) [.Call (.Name "combinations" p2) [a, b] [] pos2] [] pos) (eBi fComb as) := by
  refine se_bi (r := fun vs H1 Q => ∃ (q : Addr) (xs : List V) (r : Int) (ys : List (List Nat)), vs = [.ref q, .int r] ∧ (SqL Γ.K H1 q xs ∨ SqT Γ.K H1 q xs) ∧ 0 ≤ r ∧ r ≤ 2 ^ 20 ∧ combI xs.length r.toNat = some ys ∧ ys.length ≤ cap ∧
    ∀ (ps : List Addr) (l : Addr), ps.length = ys.length → ps.Nodup → (∀ p ∈ ps, H1 p = none) → H1 l = none → l ∉ ps → Q (.ref l) (upd (upds H1 (ps.zip (ys.map (pickV xs)))) l (.lst (ps.map V.ref)))) ha
    (fun X hX t ht => by rw [hX.K]; exact pe_cmbL (by show X.env.scope.names.lookup _ = _; rw [← hX.sc]; exact B.gl) (by rw [← hX.mg]; exact B.no) (by show X.env.scope.names.lookup _ = _; rw [← hX.sc]; exact hgc) (by rw [← hX.mg]; exact hmc) hX.calm ht (he _) (he2 _) (hpl2 _)) ?_
  intro F H L vs ds o Q e hF hv q
  have go : ∀ (ds' : List D) (r : Int) (l : Addr) (xs : List V), (SqL Γ.K H l xs ∨ SqT Γ.K H l xs) → RepDs Γ.c F ds' xs → combD ds' r = some o → ∃ ys, 0 ≤ r ∧ r ≤ 2 ^ 20 ∧ combI xs.length r.toNat = some ys ∧ ys.length ≤ cap ∧
      ∀ (ps : List Addr) (l : Addr), ps.length = ys.length → ps.Nodup → (∀ p ∈ ps, H p = none) → H l = none → l ∉ ps → Q (.ref l) (upd (upds H (ps.zip (ys.map (pickV xs)))) l (.lst (ps.map V.ref))) := by
    intro ds' r l xs hs rs hk
    unfold combD at hk
    split at hk
    · rename_i hr
      split at hk
      · rename_i ys hys
        split at hk
        · rename_i hlen
          cases hk
          refine ⟨ys, hr.1, hr.2, by rw [rs.len]; exact hys, hlen, fun ps l hpl nd hn hl hlp => ?_⟩
          obtain ⟨F', s', k1, k2⟩ := upds_ok hF rs hpl nd hn
          have zip1 : (ps.zip (ys.map (pickV xs))).map (·.1) = ps := List.map_fst_zip (by rw [List.length_map]; exact Nat.le_of_eq hpl)
          have hl2 : upds H (ps.zip (ys.map (pickV xs))) l = none := by rw [upds_out (by rw [zip1]; exact hlp)]; exact hl
          have k3 := k1.newL k2 hl2
          rw [List.map_map] at k3
          exact q _ _ k3
        · cases hk
      · cases hk
    · cases hk
  unfold fComb at e
  split at e
  · obtain ⟨v, w, e1, h1, h2⟩ := hv.two
    obtain ⟨l, xs, a1, a2, a3⟩ := h1.list hF.same
    obtain ⟨ys, z⟩ := go _ _ l xs (.inl a2) a3 e
    exact ⟨l, xs, _, ys, by rw [e1, a1, h2.int], .inl a2, z⟩
  · obtain ⟨v, w, e1, h1, h2⟩ := hv.two
    obtain ⟨l, xs, a1, a2, a3⟩ := h1.tup hF.same
    obtain ⟨ys, z⟩ := go _ _ l xs (.inr a2) a3 e
    exact ⟨l, xs, _, ys, by rw [e1, a1, h2.int], .inr a2, z⟩
  · cases e
end Pz
set_option Elab.async false
set_option linter.all false
set_option maxRecDepth 100000
set_option maxHeartbeats 1000000
namespace Pz
open PySem PySem.Spec L2
open PyProof.Rows hiding St

/-! ### constants of the module, by look -/
mutual
def kOk (K : PySem.W.Frag) : D → Value → Bool
  | .non, .none => true
  | .bl b, .bool c => b == c
  | .int i, .int j _ => decide (i = j)
  | .str x, .str y _ => decide (x = y)
  | .tup ds, .ref a => match K.lookup a with
    | some o => (match o.cls with
      | .type T => decide (T = "tuple")
      | _ => false) && (match o.data with
      | .seq its _ => decide (its.size ≤ sizeLine) && kOks K ds its.toList
      | _ => false)
    | none => false
  | _, _ => false
def kOks (K : PySem.W.Frag) : List D → List Value → Bool
  | [], [] => true
  | d :: ds, v :: vs => kOk K d v && kOks K ds vs
  | _, _ => false
end
mutual
theorem kOk_rep {K : PySem.W.Frag} : ∀ {d : D} {u : Value}, kOk K d u = true → ∃ v, RelV v u ∧ ∀ (fa : Nat → Addr) (F : Hp), RepD ⟨K, fa⟩ F d v
  | .non, u, h => by
    cases u <;> simp [kOk] at h
    exact ⟨.non, rfl, fun _ _ => rfl⟩
  | .bl b, u, h => by
    cases u <;> simp [kOk] at h
    subst h
    exact ⟨.bl b, rfl, fun _ _ => rfl⟩
  | .int i, u, h => by
    cases u <;> simp [kOk] at h
    subst h
    exact ⟨.int i, ⟨_, rfl⟩, fun _ _ => rfl⟩
  | .str x, u, h => by
    cases u <;> simp [kOk] at h
    subst h
    exact ⟨.str x, ⟨_, rfl⟩, fun _ _ => rfl⟩
  | .tup ds, u, h => by
    cases u with
    | ref a =>
      unfold kOk at h
      split at h
      · rename_i o hk
        rw [Bool.and_eq_true] at h
        obtain ⟨h1, h2⟩ := h
        split at h1
        · rename_i T hc
          have hT := of_decide_eq_true h1
          subst hT
          split at h2
          · rename_i its n hd
            rw [Bool.and_eq_true] at h2
            obtain ⟨vs, r1, r2⟩ := kOks_rep h2.2
            exact ⟨.ref a, rfl, fun fa F => ⟨a, vs, rfl, .inr ⟨o, its, n, hk, hc, hd, of_decide_eq_true h2.1, r1⟩, r2 fa F⟩⟩
          · cases h2
        · cases h1
      · cases h
    | _ => simp [kOk] at h
  | .lst _, u, h => by cases u <;> simp [kOk] at h
  | .dct _, u, h => by cases u <;> simp [kOk] at h
  | .fn _, u, h => by cases u <;> simp [kOk] at h
theorem kOks_rep {K : PySem.W.Frag} : ∀ {ds : List D} {us : List Value}, kOks K ds us = true → ∃ vs, Vals vs us ∧ ∀ (fa : Nat → Addr) (F : Hp), RepDs ⟨K, fa⟩ F ds vs
  | [], [], h => ⟨[], .nil, fun _ _ => rfl⟩
  | [], _ :: _, h => by simp [kOks] at h
  | _ :: _, [], h => by simp [kOks] at h
  | d :: ds, u :: us, h => by
    rw [kOks, Bool.and_eq_true] at h
    obtain ⟨v, r1, r2⟩ := kOk_rep h.1
    obtain ⟨vs, r3, r4⟩ := kOks_rep h.2
    exact ⟨v :: vs, .cons r1 r3, fun fa F => ⟨v, vs, rfl, r2 fa F, r4 fa F⟩⟩
end
theorem con_mk {K : PySem.W.Frag} {h : Heap} {mg : Str → Option Value} {x : Str} {u : Value} {d : D} (X : K.In h) (G : h.Ns mainGlobals mg) (a : PySem.W.nsIn K mainGlobals x = some (some u)) (k : kOk K d u = true) : ∀ fa : Nat → Addr, ∃ v u, mg x = some u ∧ RelV v u ∧ ∀ F, RepD ⟨K, fa⟩ F d v := fun fa =>
  let ⟨v, r1, r2⟩ := kOk_rep k
  ⟨v, u, PySem.W.mg_of X G a, r1, r2 fa⟩
theorem txt_mk {K : PySem.W.Frag} {h : Heap} {mg : Str → Option Value} {x : Str} {st : Stmt} {f : Addr} {oc : Value} {od an : Option Addr} {osl : Array (Option Value)} {kV doc pm cdv ct : Value} (X : K.In h) (G : h.Ns mainGlobals mg) (a : PySem.W.nsIn K mainGlobals x = some (some (.ref f)))
    (l : K.lookup f = some ⟨oc, od, .func (PySem.W.fnOf x x (defArgs st) (defBody st) (defScope st) .none kV doc pm an cdv ct), osl⟩) (c : PySem.W.codeIn K cdv x = true) (k : PySem.W.keepIn K (.ref f) = true) : Txt K mg x st := ⟨f, _, PySem.W.mg_of X G a, fun_mk l c k⟩
end Pz
set_option Elab.async false
set_option linter.all false
set_option maxRecDepth 100000
set_option maxHeartbeats 1000000
namespace Pz
open PySem PySem.Spec L2
open PyProof.Rows hiding St
variable {c : Gc} {F H H' : Hp} {L T T1 T2 : List (V × O)} {R : List Addr} {Γ : Cs} {e a b d tg : Expr} {es : List Expr} {pos pos2 p p2 : Pos} {v w : V} {o o' : O} {σ : L2.St} {S S' : Env} {W : List Nat} {x y : AE}

/-! ### either of two meanings -/
def eEls (f g : EE) : EE := fun S => match f S with
  | some r => some r
  | none => g S
theorem se_els {f g : EE} (hf : SoundE Γ e f) (hg : SoundE Γ e g) : SoundE Γ e (eEls f g) := by
  obtain ⟨t, a1, a2⟩ := hf
  obtain ⟨u, b1, b2⟩ := hg
  refine ⟨_, fun X hX => PE.or (a1 X hX) (b1 X hX), fun σ S T H o S' ee hh Q q => ?_⟩
  unfold eEls at ee
  split at ee
  · rename_i r hr
    cases ee
    exact .inl (a2 σ S T H o S' hr hh Q q)
  · exact .inr (b2 σ S T H o S' ee hh Q q)

/-! ### what stands at a place, looked at -/
theorem RepOs.at : ∀ {os : List O} {vs : List V} {fp : List Addr} {j : Nat}, RepOs c F H os vs fp → os[j]? = some o → vs[j]? = some v → ∃ f, RepO c F H o v f
  | [], _, _, j, _, h, _ => by simp at h
  | o1 :: os, vs, fp, 0, ⟨v1, r, f, g, e1, h1, h2, _⟩, ho, hv => by
    subst e1
    simp at ho hv; subst ho; subst hv
    exact ⟨f, h1⟩
  | o1 :: os, vs, fp, j + 1, ⟨v1, r, f, g, e1, h1, h2, _⟩, ho, hv => by
    subst e1
    exact RepOs.at (j := j) h2 (by simpa using ho) (by simpa using hv)
theorem RepOk.at : ∀ {kvs : List (Key × O)} {ps : List (Key × V)} {fp : List Addr} {k : Key}, RepOk c F H kvs ps fp → kLook kvs k = some o → valV ps k = some v → ∃ f, RepO c F H o v f
  | [], _, _, k, _, h, _ => by simp [kLook] at h
  | (k1, o1) :: kvs, ps, fp, k, ⟨v1, r, f, g, e1, h1, h2, _⟩, ho, hv => by
    subst e1
    by_cases z : k1 = k
    · subst z
      rw [valV_pos rfl] at hv
      simp [kLook] at ho
      cases hv; subst ho
      exact ⟨f, h1⟩
    · rw [valV_neg z] at hv
      exact RepOk.at (k := k) h2 (by simpa [kLook, List.find?_cons, z] using ho) hv
theorem rep_pl {fp : List Addr} (h : RepE c F H (ents σ S ++ T) fp) : ∀ {p : Pl} {v : V} {o : O}, PlAt σ S H p v → getPl p S = some o → ∃ f, RepO c F H o v f
  | .slot i, v, o, h1, h2 => RepE.mem h (List.mem_append_left _ (ents_mem h1 (get_slot h2)))
  | .sub p q, v, o, ⟨w, op, d, h1, h2, h3, h4⟩, hg => by
    have hg' : subGet op d = some o := by
      have hg2 := hg
      simp only [getPl, h2, h3] at hg2
      exact hg2
    obtain ⟨f, r⟩ := rep_pl h h1 h2
    rcases h4 with ⟨os, i, j, x, vs, rfl, rfl, g1, rfl, g2, g3, g4⟩ | ⟨kvs, kk, x, ps, rfl, g1, rfl, g2, g3, g4⟩
    · obtain ⟨a', vs', g, e1, e2, e3, _⟩ := r
      cases e1
      rw [g2] at e2; cases e2
      exact RepOs.at e3 (by simpa [subGet, g1] using hg') g4
    · obtain ⟨a', ps', g, e1, e2, e3, _⟩ := r
      cases e1
      rw [g2] at e2; cases e2
      exact RepOk.at e3 (by simpa [subGet, g1] using hg') g4
def eAt (p : Pl) : EE := fun S => match getPl p S with
  | some (.fz d) => some (.fz d, S)
  | _ => none
theorem se_at {p : Pl} (hp : SoundPl Γ e p) : SoundE Γ e (eAt p) := by
  obtain ⟨t, p1, p2⟩ := hp
  refine ⟨t, p1, fun σ S T H o S' ee hh Q q => ?_⟩
  unfold eAt at ee
  split at ee
  · rename_i d hd
    cases ee
    refine p2 σ S T H _ hd hh _ fun v hv => q v H (.of_hd hh.cov ?_)
    obtain ⟨F, fp, h1, h2, h3, h4, h5⟩ := hh.ok
    obtain ⟨f, r⟩ := rep_pl h2 hv hd
    exact (OkF.add (F := F) ⟨fp, h1, h2, h3, h4, h5⟩ r.2).ok
  · cases ee
def eLenAt (p : Pl) : EE := fun S => match getPl p S with
  | some (.ol os) => some (.fz (.int os.length), S)
  | _ => none
theorem se_lenAt {p : Pl} {pp : Pos} (B : Bi Γ "len") (hp : SoundPl Γ e p) (st : ∀ env, starEach [e] env = (false, eval e env) :: starEach [] env) (pl : ∀ env, (backTo pos (starEach [] env)).any (·.1) = false) : SoundE Γ (.Call (.Name "len" pp) [e] [] pos) (eLenAt p) := by
  obtain ⟨t, p1, p2⟩ := hp
  refine ⟨tCB (fun vs H Q => ∃ x n, vs = [x] ∧ LenV Γ.K x H n ∧ Q (.int n) H) (tCons t tNil), fun X hX => by
    rw [hX.K]
    exact pe_callB call_len (by show X.env.scope.names.lookup _ = _; rw [← hX.sc]; exact B.gl) (by rw [← hX.mg]; exact B.no) rfl (pa_cons (p1 X hX) pa_nil (st _)) (by decide) (by decide) (st _) (pl _), fun σ S T H o S' ee hh Q q => ?_⟩
  unfold eLenAt at ee
  split at ee
  · rename_i os hd
    cases ee
    refine p2 σ S T H _ hd hh _ fun v hv => ?_
    obtain ⟨R, L, kf⟩ := pl_focus hv hd hh
    obtain ⟨a0, vs, rfl, b2, b3⟩ := kf.at_l
    refine ⟨_, vs.length, rfl, .inl ⟨vs, SqL.of b2, rfl⟩, ?_⟩
    rw [b3]
    exact q _ _ (.of_hd hh.cov (hh.ok.scal rfl))
  · cases ee
end Pz
set_option Elab.async false
set_option linter.all false
set_option maxRecDepth 100000
set_option maxHeartbeats 1000000
namespace Pz
open PySem PySem.Spec L2
open PyProof.Rows hiding St
def M_source : SS := sSeq (sSet 1 (eLit (.int 11))) (sSeq (sFor (.nm 2) (iVal (aVar 0)) (sSet 1 (e2 fMod (aTmp (eBi fInt (aCons (aTmp (e2 fAdd (aTmp (e2 fAdd (aTmp (e2 fMulI (aVar 1) (aTmp (eLit (.int 69069))))) (aTmp (e2 fMulI (aVar 2) (aTmp (eLit (.int 31))))))) (aTmp (eLit (.int 5))))) (aNil)))) (aTmp (eLit (.int 2147483629)))))) (sRet (eDct ["cells", "left", "mixed", "turn"] (lCons (e1 fRev (aTmp (eLc (.nm 2) (iVal (aVar 0)) (tYes) (eBi fAbs (aCons (aVar 2) (aNil))) [2]))) (lCons (eLit (.int 1)) (lCons (eVar 1) (lCons (eLit (.int 0)) (lNil))))))))
def M_pick : SS := sSeq (sWhile (tAnd (tE (e2 fGt (aVar 1) (aTmp (eLit (.int 1))))) (tAnd (tE (e2 fLt (aTmp (eEls (eAt (.sub (.slot 0) (qLit (.str "left")))) (e2 fIdx (aVar 0) (aTmp (eLit (.str "left")))))) (aTmp (eLit (.int 2))))) (tE (e2 fGt (aTmp (eEls (eLenAt (.sub (.slot 0) (qLit (.str "cells")))) (eBi fLen (aCons (aTmp (eEls (eAt (.sub (.slot 0) (qLit (.str "cells")))) (e2 fIdx (aVar 0) (aTmp (eLit (.str "cells")))))) (aNil))))) (aTmp (eLit (.int 0))))))) (sSetIt (.slot 0) (qLit (.str "left")) (eM0 (.sub (.slot 0) (qLit (.str "cells"))) mPop))) (sSeq (sSet 2 (eEls (eAt (.sub (.slot 0) (qLit (.str "left")))) (e2 fIdx (aVar 0) (aTmp (eLit (.str "left")))))) (sSeq (sIf (tOr (tE (e2 fLt (aVar 1) (aTmp (eLit (.int 2))))) (tE (e2 fGt (aVar 2) (aTmp (eLit (.int 1)))))) (sSeq (sSetIt (.slot 0) (qLit (.str "left")) (e2 fDiv (aVar 2) (aTmp (eBi fMax2 (aCons (aTmp (eLit (.int 1))) (aCons (aVar 1) (aNil))))))) (sRet (e2 fMod (aTmp (eBi fInt (aCons (aVar 2) (aNil)))) (aTmp (eBi fMax2 (aCons (aTmp (eLit (.int 1))) (aCons (aVar 1) (aNil)))))))) (sNil)) (sSeq (sSetIt (.slot 0) (qLit (.str "turn")) (e2 fAdd (aTmp (eEls (eAt (.sub (.slot 0) (qLit (.str "turn")))) (e2 fIdx (aVar 0) (aTmp (eLit (.str "turn")))))) (aTmp (eLit (.int 1))))) (sSeq (sSet 3 (e2 fMod (aTmp (eBi fInt (aCons (aTmp (e2 fAdd (aTmp (eEls (eAt (.sub (.slot 0) (qLit (.str "mixed")))) (e2 fIdx (aVar 0) (aTmp (eLit (.str "mixed")))))) (aTmp (e2 fMulI (aTmp (eEls (eAt (.sub (.slot 0) (qLit (.str "turn")))) (e2 fIdx (aVar 0) (aTmp (eLit (.str "turn")))))) (aTmp (eLit (.int 104729))))))) (aNil)))) (aTmp (eLit (.int 998244353))))) (sSeq (sSet 3 (e2 fMod (aTmp (eBi fInt (aCons (aTmp (e2 fAdd (aTmp (e2 fMulI (aVar 3) (aVar 3))) (aTmp (e2 fMulI (aTmp (eEls (eAt (.sub (.slot 0) (qLit (.str "turn")))) (e2 fIdx (aVar 0) (aTmp (eLit (.str "turn")))))) (aTmp (eLit (.int 17))))))) (aNil)))) (aTmp (eLit (.int 2147483647))))) (sSeq (sSetIt (.slot 0) (qLit (.str "mixed")) (eVar 3)) (sRet (e2 fMod (aTmp (eBi fInt (aCons (aTmp (e2 fDiv (aVar 3) (aTmp (eLit (.int 16))))) (aNil)))) (aVar 1)))))))))
def G_pick : Fn := run 4 [true, true] M_pick
def G_source : Fn := run 3 [true] M_source
def M_of : SS := sRet (e2 fIdx (aVar 1) (aTmp (eCall G_pick [true, true] (aCons (aVar 0) (aCons (aTmp (eEls (eLenAt (.slot 1)) (eBi fLen (aCons (aVar 1) (aNil))))) (aNil))))))
def G_of : Fn := run 2 [true, true] M_of
def src (cs : List Int) (l m t : Int) : O := .od [(.inr "cells", .ol (cs.map fun i => .fz (.int i))), (.inr "left", .fz (.int l)), (.inr "mixed", .fz (.int m)), (.inr "turn", .fz (.int t))]
variable {cs : List Int} {l m t k : Int} {x y : Option O} {S : Env}
theorem p_c1 : tE (e2 fGt (aVar 1) (aTmp (eLit (.int 1)))) (some (src cs l m t) :: some (.fz (.int k)) :: S) = some (decide (1 < k), some (src cs l m t) :: some (.fz (.int k)) :: S) := rfl
theorem p_c2 : tE (e2 fLt (aTmp (eEls (eAt (.sub (.slot 0) (qLit (.str "left")))) (e2 fIdx (aVar 0) (aTmp (eLit (.str "left")))))) (aTmp (eLit (.int 2)))) (some (src cs l m t) :: S) = some (decide (l < 2), some (src cs l m t) :: S) := rfl
theorem p_c3 : tE (e2 fGt (aTmp (eEls (eLenAt (.sub (.slot 0) (qLit (.str "cells")))) (eBi fLen (aCons (aTmp (eEls (eAt (.sub (.slot 0) (qLit (.str "cells")))) (e2 fIdx (aVar 0) (aTmp (eLit (.str "cells")))))) (aNil))))) (aTmp (eLit (.int 0)))) (some (src cs l m t) :: S) = some (decide (0 < ((cs.map fun i => O.fz (.int i)).length : Int)), some (src cs l m t) :: S) := rfl
theorem p_pop {c : Int} : sSetIt (.slot 0) (qLit (.str "left")) (eM0 (.sub (.slot 0) (qLit (.str "cells"))) mPop) (some (src (cs ++ [c]) l m t) :: S) = some (.nx (some (src cs c m t) :: S)) := by
  have e : mPop ((cs ++ [c]).map fun i => O.fz (.int i)) = some (.fz (.int c), cs.map fun i => O.fz (.int i)) := by
    unfold mPop
    simp
  have e2 : eM0 (.sub (.slot 0) (qLit (.str "cells"))) mPop (some (src (cs ++ [c]) l m t) :: S) = some (.fz (.int c), some (src cs l m t) :: S) := by
    show (match mPop ((cs ++ [c]).map fun i => O.fz (.int i)) with
      | some (y, os') => (match updPl (.sub (.slot 0) (qLit (.str "cells"))) (.ol os') (some (src (cs ++ [c]) l m t) :: S) with
        | some S1 => some (y, S1)
        | none => none)
      | none => none) = _
    rw [e]; rfl
  unfold sSetIt
  rw [e2]; rfl
/-- what a draw may begin with -/
structure SrcOk (n : Nat) (cs : List Int) (l m t : Int) : Prop where
  len : cs.length ≤ 63
  cs : ∀ c ∈ cs, 0 ≤ c
  l : 0 ≤ l
  m0 : 0 ≤ m
  m1 : m < 2 ^ 31
  t0 : 0 ≤ t
  t1 : t ≤ n
theorem SrcOk.mono {n n' : Nat} (h : SrcOk n cs l m t) (k : n ≤ n') : SrcOk n' cs l m t := { h with t1 := by have := h.t1; omega }
/-- a source that may have been drawn from n times -/
def Src (n : Nat) (o : O) : Prop := ∃ cs l m t, o = src cs l m t ∧ SrcOk n cs l m t
theorem Src.mono {n n' : Nat} {o : O} (h : Src n o) (k : n ≤ n') : Src n' o := let ⟨cs, l, m, t, e, h⟩ := h; ⟨cs, l, m, t, e, h.mono k⟩
theorem eBi_val {f : List D → Option O} {as : AL} {S S1 S2 : Env} {xs : List A} {ds : List D} {o : O} (h1 : as S = some (xs, S1)) (h2 : rsvs xs S1 = some (ds, S2)) (h3 : f ds = some o) : eBi f as S = some (o, S2) := by
  unfold eBi; rw [h1]; simp only [h2, h3]
theorem tmp_val {e : EE} {S S1 : Env} {o : O} (h : e S = some (o, S1)) : aTmp e S = some (.tmp o, S1) := by unfold aTmp; rw [h]
theorem cons_val {a : AE} {r : AL} {S S1 S2 : Env} {x : A} {xs : List A} (h : a S = some (x, S1)) (h2 : r S1 = some (xs, S2)) : aCons a r S = some (x :: xs, S2) := by unfold aCons; rw [h]; simp only [h2]
theorem e1_val {f : List D → Option O} {e : EE} {S S1 : Env} {o o' : O} (h : e S = some (o, S1)) (h2 : f [fr o] = some o') : e1 f (aTmp e) S = some (o', S1) := eBi_val (cons_val (tmp_val h) rfl) rfl h2
theorem e2_val {f : List D → Option O} {e g : EE} {S S1 S2 : Env} {o o' r : O} (h : e S = some (o, S1)) (h2 : g S1 = some (o', S2)) (h3 : f [fr o, fr o'] = some r) : e2 f (aTmp e) (aTmp g) S = some (r, S2) := eBi_val (cons_val (tmp_val h) (cons_val (tmp_val h2) rfl)) rfl h3
theorem seq_nx {f g : SS} {S S1 : Env} (h : f S = some (.nx S1)) : sSeq f g S = g S1 := by unfold sSeq; rw [h]
theorem seq_rt {f g : SS} {S S1 : Env} {o : O} (h : f S = some (.rt o S1)) : sSeq f g S = some (.rt o S1) := by unfold sSeq; rw [h]
theorem if_t {t : TB} {f g : SS} {S S1 : Env} (h : t S = some (true, S1)) : sIf t f g S = f S1 := by unfold sIf; rw [h]
theorem if_f {t : TB} {f g : SS} {S S1 : Env} (h : t S = some (false, S1)) : sIf t f g S = g S1 := by unfold sIf; rw [h]
theorem set_val {i : Nat} {f : EE} {S S1 : Env} {o : O} (h : f S = some (o, S1)) : sSet i f S = some (.nx (S1.set i (some o))) := by unfold sSet; rw [h]
theorem ret_val {f : EE} {S S1 : Env} {o : O} (h : f S = some (o, S1)) : sRet f S = some (.rt o S1) := by unfold sRet; rw [h]
theorem setIt_val {p : Pl} {q : QE} {f : EE} {S S1 S2 : Env} {o : O} (h : f S = some (o, S1)) (h2 : setIt p q o S1 = some S2) : sSetIt p q f S = some (.nx S2) := by unfold sSetIt; rw [h]; simp only [h2]
theorem and_val {t u : TB} {S : Env} {a b : Bool} (h1 : t S = some (a, S)) (h2 : u S = some (b, S)) : tAnd t u S = some (a && b, S) := by
  unfold tAnd; rw [h1]
  cases a with
  | true => simp only [h2, Bool.true_and]
  | false => rfl
theorem or_val {t u : TB} {S : Env} {a b : Bool} (h1 : t S = some (a, S)) (h2 : u S = some (b, S)) : tOr t u S = some (a || b, S) := by
  unfold tOr; rw [h1]
  cases a with
  | true => rfl
  | false => simp only [h2, Bool.false_or]
/-! the loop -/
def P_t : TB := tAnd (tE (e2 fGt (aVar 1) (aTmp (eLit (.int 1))))) (tAnd (tE (e2 fLt (aTmp (eEls (eAt (.sub (.slot 0) (qLit (.str "left")))) (e2 fIdx (aVar 0) (aTmp (eLit (.str "left")))))) (aTmp (eLit (.int 2))))) (tE (e2 fGt (aTmp (eEls (eLenAt (.sub (.slot 0) (qLit (.str "cells")))) (eBi fLen (aCons (aTmp (eEls (eAt (.sub (.slot 0) (qLit (.str "cells")))) (e2 fIdx (aVar 0) (aTmp (eLit (.str "cells")))))) (aNil))))) (aTmp (eLit (.int 0))))))
def P_b : SS := sSetIt (.slot 0) (qLit (.str "left")) (eM0 (.sub (.slot 0) (qLit (.str "cells"))) mPop)
theorem p_t : P_t (some (src cs l m t) :: some (.fz (.int k)) :: S) = some (decide (1 < k) && (decide (l < 2) && decide (0 < ((cs.map fun i => O.fz (.int i)).length : Int))), some (src cs l m t) :: some (.fz (.int k)) :: S) := and_val p_c1 (and_val p_c2 p_c3)
theorem p_while {n : Nat} : ∀ (N : Nat) (cs : List Int) (l : Int) (fuel : Nat), cs.length = N → N < fuel → SrcOk n cs l m t → ∃ cs' l', whileGo P_t P_b fuel (some (src cs l m t) :: some (.fz (.int k)) :: S) = some (.nx (some (src cs' l' m t) :: some (.fz (.int k)) :: S)) ∧ SrcOk n cs' l' m t
  | N, cs, l, 0, _, hf, _ => by omega
  | N, cs, l, fuel + 1, hN, hf, h => by
    unfold whileGo
    rw [p_t]
    cases hb : (decide (1 < k) && (decide (l < 2) && decide (0 < ((cs.map fun i => O.fz (.int i)).length : Int)))) with
    | false => exact ⟨cs, l, rfl, h⟩
    | true =>
      rw [Bool.and_eq_true, Bool.and_eq_true] at hb
      have h0 := of_decide_eq_true hb.2.2
      rw [List.length_map] at h0
      have hne : cs ≠ [] := by
        intro e; subst e; simp at h0
      have ec : cs = cs.dropLast ++ [cs.getLast hne] := (List.dropLast_concat_getLast hne).symm
      have hlen : cs.dropLast.length = N - 1 := by rw [List.length_dropLast, hN]
      have h' : SrcOk n cs.dropLast (cs.getLast hne) m t := { h with len := by rw [hlen]; have := h.len; omega, cs := fun c hc => h.cs c ((List.dropLast_sublist cs).subset hc), l := h.cs _ (List.getLast_mem hne) }
      obtain ⟨cs', l', e1, e2⟩ := p_while (N - 1) cs.dropLast (cs.getLast hne) fuel hlen (by omega) h'
      refine ⟨cs', l', ?_, e2⟩
      have e3 : P_b (some (src cs l m t) :: some (.fz (.int k)) :: S) = some (.nx (some (src cs.dropLast (cs.getLast hne) m t) :: some (.fz (.int k)) :: S)) := by
        conv => lhs; rw [ec]
        exact p_pop
      simp only [e3]
      exact e1
def mx (k : Int) : Int := if k > 1 then k else 1
theorem mx_pos : 0 < mx k := by unfold mx; split <;> omega
theorem p_mx {a : Option O} : eBi fMax2 (aCons (aTmp (eLit (.int 1))) (aCons (aVar 1) aNil)) (a :: some (.fz (.int k)) :: S) = some (.fz (.int (mx k)), a :: some (.fz (.int k)) :: S) := rfl
theorem divOk_of {j : Int} (h0 : 0 < j) (h1 : j ≤ 2 ^ 64) : divOk j = true := by
  unfold divOk
  have h2 : j.natAbs.log2 < 9000 := by
    have h3 : j.natAbs < 2 ^ 9000 := Nat.lt_of_le_of_lt (show j.natAbs ≤ 2 ^ 64 by omega) (Nat.pow_lt_pow_right (by decide) (by decide))
    by_cases hz : j.natAbs = 0
    · rw [hz]; decide
    · exact (Nat.log2_lt hz).mpr h3
  simp only [decide_eq_true_eq]
  exact ⟨by omega, h2⟩
theorem log2_le {i : Int} {b : Nat} (h : i.natAbs < 2 ^ b) (hb : 0 < b) : i.natAbs.log2 < b := by
  by_cases hz : i.natAbs = 0
  · rw [hz]; simpa using hb
  · exact (Nat.log2_lt hz).mpr h
theorem mulOk_of {i j : Int} (h1 : i.natAbs < 2 ^ 4000000) (h2 : j.natAbs < 2 ^ 4000000) : mulOk i j = true := by
  unfold mulOk
  have a := log2_le h1 (by decide)
  have b := log2_le h2 (by decide)
  simp only [decide_eq_true_eq]
  omega
theorem small_pow {i : Int} (h : i.natAbs ≤ 2 ^ 70) : i.natAbs < 2 ^ 4000000 := Nat.lt_of_le_of_lt h (Nat.pow_lt_pow_right (by decide) (by decide))
theorem fmod_rng {i j : Int} (h : 0 < j) : 0 ≤ i.fmod j ∧ i.fmod j < j := ⟨Int.fmod_nonneg_of_pos i h, Int.fmod_lt_of_pos i h⟩
/-- a draw -/
theorem pick_ok {n : Nat} {o : O} (hs : Src n o) (hn : n ≤ 2 ^ 64) (hk : k ≤ 2 ^ 64) : ∃ o' r, G_pick [o, .fz (.int k)] = some (.fz (.int r), [some o', some (.fz (.int k))]) ∧ Src (n + 1) o' ∧ 0 ≤ r ∧ r < mx k := by
  obtain ⟨cs, l, m, t, rfl, h⟩ := hs
  obtain ⟨cs', l', q1, h1⟩ := p_while (k := k) (S := [none, none]) cs.length cs l laps rfl (by have := h.len; unfold laps; omega) h
  have q2 : sSet 2 (eEls (eAt (.sub (.slot 0) (qLit (.str "left")))) (e2 fIdx (aVar 0) (aTmp (eLit (.str "left"))))) [some (src cs' l' m t), some (.fz (.int k)), none, none] = some (.nx [some (src cs' l' m t), some (.fz (.int k)), some (.fz (.int l')), none]) := rfl
  have q3 : tOr (tE (e2 fLt (aVar 1) (aTmp (eLit (.int 2))))) (tE (e2 fGt (aVar 2) (aTmp (eLit (.int 1))))) [some (src cs' l' m t), some (.fz (.int k)), some (.fz (.int l')), none] = some (decide (k < 2) || decide (1 < l'), [some (src cs' l' m t), some (.fz (.int k)), some (.fz (.int l')), none]) := or_val rfl rfl
  have hmx := mx_pos (k := k)
  have hmx2 : mx k ≤ 2 ^ 64 := by unfold mx; split <;> omega
  have start : ∀ out, M_pick [some (src cs l m t), some (.fz (.int k)), none, none] = some out → (match out with | .rt o S => some (o, finals [true, true] S) | .nx S => some (.fz .non, finals [true, true] S) | _ => none) = G_pick [src cs l m t, .fz (.int k)] := by
    intro out e
    have e' : M_pick ([src cs l m t, .fz (.int k)].map some ++ List.replicate (4 - [src cs l m t, O.fz (.int k)].length) none) = some out := e
    unfold G_pick run
    rw [e']
    cases out <;> rfl
  cases hb : (decide (k < 2) || decide (1 < l')) with
  | true =>
    have q4 : sSetIt (.slot 0) (qLit (.str "left")) (e2 fDiv (aVar 2) (aTmp (eBi fMax2 (aCons (aTmp (eLit (.int 1))) (aCons (aVar 1) (aNil)))))) [some (src cs' l' m t), some (.fz (.int k)), some (.fz (.int l')), none] = some (.nx [some (src cs' (l'.fdiv (mx k)) m t), some (.fz (.int k)), some (.fz (.int l')), none]) :=
      setIt_val (eBi_val (ds := [.int l', .int (mx k)]) rfl rfl (by unfold fDiv fI2; simp only [divOk_of hmx hmx2, if_true])) rfl
    have q5 : sRet (e2 fMod (aTmp (eBi fInt (aCons (aVar 2) (aNil)))) (aTmp (eBi fMax2 (aCons (aTmp (eLit (.int 1))) (aCons (aVar 1) (aNil)))))) [some (src cs' (l'.fdiv (mx k)) m t), some (.fz (.int k)), some (.fz (.int l')), none] = some (.rt (.fz (.int (l'.fmod (mx k)))) [some (src cs' (l'.fdiv (mx k)) m t), some (.fz (.int k)), some (.fz (.int l')), none]) :=
      ret_val (eBi_val (ds := [.int l', .int (mx k)]) rfl rfl (by unfold fMod fI2; simp only [if_pos (show mx k ≠ 0 by omega)]))
    refine ⟨_, _, (start _ ((seq_nx q1).trans ((seq_nx q2).trans (seq_rt ((if_t (by rw [q3, hb])).trans ((seq_nx q4).trans q5)))))).symm, ⟨cs', _, m, t, rfl, { h1 with l := ?_, t1 := ?_ }⟩, (fmod_rng hmx).1, (fmod_rng hmx).2⟩
    · exact Int.fdiv_nonneg h1.l (Int.le_of_lt hmx)
    · have := h1.t1; omega
  | false =>
    have tb := h1.t1
    have tb0 := h1.t0
    have g1 : mulOk (t + 1) 104729 = true := mulOk_of (small_pow (by omega)) (small_pow (by decide))
    have g3 : mulOk (t + 1) 17 = true := mulOk_of (small_pow (by omega)) (small_pow (by decide))
    obtain ⟨a, ha⟩ : ∃ a, a = (m + (t + 1) * 104729).fmod 998244353 := ⟨_, rfl⟩
    have ra := fmod_rng (i := m + (t + 1) * 104729) (j := 998244353) (by decide)
    rw [← ha] at ra
    have g2 : mulOk a a = true := mulOk_of (small_pow (by omega)) (small_pow (by omega))
    obtain ⟨b, hb2⟩ : ∃ b, b = (a * a + (t + 1) * 17).fmod 2147483647 := ⟨_, rfl⟩
    have rb := fmod_rng (i := a * a + (t + 1) * 17) (j := 2147483647) (by decide)
    rw [← hb2] at rb
    have g4 : divOk 16 = true := divOk_of (by decide) (by decide)
    have hk1 : 1 < k := by
      rw [Bool.or_eq_false_iff] at hb
      have := of_decide_eq_false hb.1
      omega
    have hkm : mx k = k := by unfold mx; rw [if_pos (by omega)]
    have f1 : sSetIt (.slot 0) (qLit (.str "turn")) (e2 fAdd (aTmp (eEls (eAt (.sub (.slot 0) (qLit (.str "turn")))) (e2 fIdx (aVar 0) (aTmp (eLit (.str "turn")))))) (aTmp (eLit (.int 1)))) [some (src cs' l' m t), some (.fz (.int k)), some (.fz (.int l')), none] = some (.nx [some (src cs' l' m (t + 1)), some (.fz (.int k)), some (.fz (.int l')), none]) := rfl
    have d1 : eAt (.sub (.slot 0) (qLit (.str "turn"))) [some (src cs' l' m (t + 1)), some (.fz (.int k)), some (.fz (.int l')), none] = some (.fz (.int (t + 1)), [some (src cs' l' m (t + 1)), some (.fz (.int k)), some (.fz (.int l')), none]) := rfl
    have d2 : eAt (.sub (.slot 0) (qLit (.str "mixed"))) [some (src cs' l' m (t + 1)), some (.fz (.int k)), some (.fz (.int l')), none] = some (.fz (.int m), [some (src cs' l' m (t + 1)), some (.fz (.int k)), some (.fz (.int l')), none]) := rfl
    have f2 : sSet 3 (e2 fMod (aTmp (eBi fInt (aCons (aTmp (e2 fAdd (aTmp (eEls (eAt (.sub (.slot 0) (qLit (.str "mixed")))) (e2 fIdx (aVar 0) (aTmp (eLit (.str "mixed")))))) (aTmp (e2 fMulI (aTmp (eEls (eAt (.sub (.slot 0) (qLit (.str "turn")))) (e2 fIdx (aVar 0) (aTmp (eLit (.str "turn")))))) (aTmp (eLit (.int 104729))))))) (aNil)))) (aTmp (eLit (.int 998244353)))) [some (src cs' l' m (t + 1)), some (.fz (.int k)), some (.fz (.int l')), none] = some (.nx [some (src cs' l' m (t + 1)), some (.fz (.int k)), some (.fz (.int l')), some (.fz (.int a))]) := by
      simp [sSet, e2, eBi, aCons, aTmp, aNil, eEls, d1, d2, rsvs, rsv, fr, eLit, fMulI, fI2, fAdd, fInt, fMod, g1, ← ha]
    have d3 : eAt (.sub (.slot 0) (qLit (.str "turn"))) [some (src cs' l' m (t + 1)), some (.fz (.int k)), some (.fz (.int l')), some (.fz (.int a))] = some (.fz (.int (t + 1)), [some (src cs' l' m (t + 1)), some (.fz (.int k)), some (.fz (.int l')), some (.fz (.int a))]) := rfl
    have f3 : sSet 3 (e2 fMod (aTmp (eBi fInt (aCons (aTmp (e2 fAdd (aTmp (e2 fMulI (aVar 3) (aVar 3))) (aTmp (e2 fMulI (aTmp (eEls (eAt (.sub (.slot 0) (qLit (.str "turn")))) (e2 fIdx (aVar 0) (aTmp (eLit (.str "turn")))))) (aTmp (eLit (.int 17))))))) (aNil)))) (aTmp (eLit (.int 2147483647)))) [some (src cs' l' m (t + 1)), some (.fz (.int k)), some (.fz (.int l')), some (.fz (.int a))] = some (.nx [some (src cs' l' m (t + 1)), some (.fz (.int k)), some (.fz (.int l')), some (.fz (.int b))]) := by
      simp [sSet, e2, eBi, aCons, aTmp, aNil, aVar, eEls, d3, rsvs, rsv, fr, shal, eLit, fMulI, fI2, fAdd, fInt, fMod, g2, g3, ← hb2]
    have f4 : sSetIt (.slot 0) (qLit (.str "mixed")) (eVar 3) [some (src cs' l' m (t + 1)), some (.fz (.int k)), some (.fz (.int l')), some (.fz (.int b))] = some (.nx [some (src cs' l' b (t + 1)), some (.fz (.int k)), some (.fz (.int l')), some (.fz (.int b))]) := rfl
    have f5 : sRet (e2 fMod (aTmp (eBi fInt (aCons (aTmp (e2 fDiv (aVar 3) (aTmp (eLit (.int 16))))) (aNil)))) (aVar 1)) [some (src cs' l' b (t + 1)), some (.fz (.int k)), some (.fz (.int l')), some (.fz (.int b))] = some (.rt (.fz (.int ((b.fdiv 16).fmod k))) [some (src cs' l' b (t + 1)), some (.fz (.int k)), some (.fz (.int l')), some (.fz (.int b))]) := by
      simp [sRet, e2, eBi, aCons, aTmp, aNil, aVar, rsvs, rsv, fr, shal, eLit, fI2, fInt, fMod, fDiv, g4, show k ≠ 0 by omega]
    refine ⟨_, _, (start _ ((seq_nx q1).trans ((seq_nx q2).trans ((seq_nx ((if_f (by rw [q3, hb])).trans rfl)).trans ((seq_nx f1).trans ((seq_nx f2).trans ((seq_nx f3).trans ((seq_nx f4).trans f5)))))))).symm, ⟨cs', l', b, t + 1, rfl, { h1 with m0 := rb.1, m1 := by omega, t0 := by omega, t1 := by omega }⟩, ?_, ?_⟩
    · exact (fmod_rng (by omega)).1
    · rw [hkm]; exact (fmod_rng (by omega)).2
/-! ### comprehensions without side effects -/
theorem lcGo_pure {tg : Tg} {t : TB} {e : EE} {own : List Nat} {S0 : Env} {pr : D → Bool} {v : D → O} : ∀ {ds : List D} {acc : List O}, (∀ d ∈ ds, ∃ S2 S3, bindT tg d S0 = some S2 ∧ t S2 = some (pr d, S3) ∧ (pr d = true → ∃ S4, e S3 = some (v d, S4) ∧ clearS S4 own = S0) ∧ (pr d = false → clearS S3 own = S0)) → lcGo tg t e own ds acc S0 = some (acc ++ (ds.filter pr).map v, S0)
  | [], acc, _ => by simp [lcGo]
  | d :: ds, acc, h => by
    obtain ⟨S2, S3, h1, h2, h3, h4⟩ := h d List.mem_cons_self
    have ih := fun acc => lcGo_pure (ds := ds) (acc := acc) fun x hx => h x (List.mem_cons_of_mem _ hx)
    unfold lcGo
    rw [h1]
    simp only [h2]
    cases hp : pr d with
    | true =>
      obtain ⟨S4, h5, h6⟩ := h3 hp
      simp only [h5, h6, ih, List.filter_cons_of_pos hp, List.map_cons, List.append_assoc, List.singleton_append]
    | false =>
      simp only [h4 hp, ih, List.filter_cons_of_neg (show ¬ pr d = true by rw [hp]; decide)]
theorem lc_pure {tg : Tg} {it : IE} {t : TB} {e : EE} {own : List Nat} {S S1 : Env} {ds : List D} (pr : D → Bool) (v : D → O) (h1 : it S = some (ds, S1)) (hl : ds.length ≤ cap) (h2 : ∀ d ∈ ds, ∃ S2 S3, bindT tg d (clearS S1 own) = some S2 ∧ t S2 = some (pr d, S3) ∧ (pr d = true → ∃ S4, e S3 = some (v d, S4) ∧ clearS S4 own = clearS S1 own) ∧ (pr d = false → clearS S3 own = clearS S1 own)) :
    eLc tg it t e own S = some (.ol ((ds.filter pr).map v), putBack S1 (clearS S1 own) own) := by
  unfold eLc
  rw [h1]
  simp only [hl, if_true, lcGo_pure h2, List.nil_append]
theorem lc_map {tg : Tg} {it : IE} {e : EE} {own : List Nat} {S S1 : Env} {ds : List D} (v : D → O) (h1 : it S = some (ds, S1)) (hl : ds.length ≤ cap) (h2 : ∀ d ∈ ds, ∃ S2 S4, bindT tg d (clearS S1 own) = some S2 ∧ e S2 = some (v d, S4) ∧ clearS S4 own = clearS S1 own) :
    eLc tg it tYes e own S = some (.ol (ds.map v), putBack S1 (clearS S1 own) own) := by
  have := lc_pure (tg := tg) (t := tYes) (e := e) (own := own) (fun _ => true) v h1 hl fun d hd => by
    obtain ⟨S2, S4, a1, a2, a3⟩ := h2 d hd
    exact ⟨S2, S2, a1, rfl, fun _ => ⟨S4, a2, a3⟩, fun z => by cases z⟩
  rw [List.filter_eq_self.mpr fun _ _ => rfl] at this
  exact this
theorem frs_fz : ∀ ds : List D, frs (ds.map O.fz) = ds
  | [] => rfl
  | d :: ds => by simp [frs, fr, frs_fz ds]
/-! ### the source -/
theorem src_loop : ∀ {ns : List Int} {m : Int} {a x : Option O}, (∀ i ∈ ns, i.natAbs.log2 ≤ 2 ^ 20) → 0 ≤ m → m < 2 ^ 31 → ∃ m' x', forGo (.nm 2) (sSet 1 (e2 fMod (aTmp (eBi fInt (aCons (aTmp (e2 fAdd (aTmp (e2 fAdd (aTmp (e2 fMulI (aVar 1) (aTmp (eLit (.int 69069))))) (aTmp (e2 fMulI (aVar 2) (aTmp (eLit (.int 31))))))) (aTmp (eLit (.int 5))))) (aNil)))) (aTmp (eLit (.int 2147483629))))) (ns.map D.int) [a, some (.fz (.int m)), x] = some (.nx [a, some (.fz (.int m')), x']) ∧ 0 ≤ m' ∧ m' < 2 ^ 31
  | [], m, a, x, _, h0, h1 => ⟨m, x, rfl, h0, h1⟩
  | n :: ns, m, a, x, hb, h0, h1 => by
    have r := fmod_rng (i := m * 69069 + n * 31 + 5) (j := 2147483629) (by decide)
    obtain ⟨m', x', e, h2, h3⟩ := src_loop (ns := ns) (m := (m * 69069 + n * 31 + 5).fmod 2147483629) (a := a) (x := some (.fz (.int n))) (fun i hi => hb i (List.mem_cons_of_mem _ hi)) r.1 (by omega)
    refine ⟨m', x', ?_, h2, h3⟩
    have g1 : mulOk m 69069 = true := mulOk_of (small_pow (by omega)) (small_pow (by decide))
    have g2 : mulOk n 31 = true := by
      unfold mulOk
      have := hb n List.mem_cons_self
      simp only [decide_eq_true_eq]
      have h5 : (31 : Int).natAbs.log2 = 4 := by decide
      omega
    have q : sSet 1 (e2 fMod (aTmp (eBi fInt (aCons (aTmp (e2 fAdd (aTmp (e2 fAdd (aTmp (e2 fMulI (aVar 1) (aTmp (eLit (.int 69069))))) (aTmp (e2 fMulI (aVar 2) (aTmp (eLit (.int 31))))))) (aTmp (eLit (.int 5))))) (aNil)))) (aTmp (eLit (.int 2147483629)))) [a, some (.fz (.int m)), some (.fz (.int n))] = some (.nx [a, some (.fz (.int ((m * 69069 + n * 31 + 5).fmod 2147483629))), some (.fz (.int n))]) := by
      simp [sSet, e2, eBi, aCons, aTmp, aNil, aVar, rsvs, rsv, fr, shal, eLit, fMulI, fI2, fAdd, fInt, fMod, g1, g2]
    have b : bindT (.nm 2) (.int n) [a, some (.fz (.int m)), x] = some [a, some (.fz (.int m)), some (.fz (.int n))] := rfl
    rw [List.map_cons]
    unfold forGo
    rw [b]
    simp only [q]
    exact e
theorem source_ok {ns : List Int} (hl : ns.length ≤ 63) (hb : ∀ i ∈ ns, i.natAbs.log2 ≤ 2 ^ 20) : ∃ o f, G_source [.fz (.lst (ns.map D.int))] = some (o, [some f]) ∧ Src 0 o := by
  obtain ⟨m', x', q2, h0, h1⟩ := src_loop (ns := ns) (m := 11) (a := some (.fz (.lst (ns.map D.int)))) (x := none) hb (by decide) (by decide)
  have q1 : sSet 1 (eLit (.int 11)) [some (.fz (.lst (ns.map D.int))), none, none] = some (.nx [some (.fz (.lst (ns.map D.int))), some (.fz (.int 11)), none]) := rfl
  let E1 : Env := [some (.fz (.lst (ns.map D.int))), some (.fz (.int m')), x']
  let as : List Int := ns.map fun i => if i < 0 then -i else i
  have q3 : eLc (.nm 2) (iVal (aVar 0)) tYes (eBi fAbs (aCons (aVar 2) aNil)) [2] E1 = some (.ol ((as.map D.int).map O.fz), E1) := by
    have := lc_map (tg := .nm 2) (it := iVal (aVar 0)) (e := eBi fAbs (aCons (aVar 2) aNil)) (own := [2]) (S := E1) (S1 := E1) (ds := ns.map D.int) (fun d => match d with | .int i => .fz (.int (if i < 0 then -i else i)) | _ => .fz .non) rfl (by rw [List.length_map]; unfold cap; omega) (fun d hd => by
      obtain ⟨i, _, rfl⟩ := List.mem_map.mp hd
      exact ⟨_, _, rfl, rfl, rfl⟩)
    rw [this, List.map_map, List.map_map, List.map_map]
    rfl
  have q4 : e1 fRev (aTmp (eLc (.nm 2) (iVal (aVar 0)) tYes (eBi fAbs (aCons (aVar 2) aNil)) [2])) E1 = some (.ol ((as.map D.int).reverse.map O.fz), E1) := by
    refine e1_val q3 ?_
    show fRev [.lst (frs ((as.map D.int).map O.fz))] = _
    rw [frs_fz]; rfl
  have q5 : eDct ["cells", "left", "mixed", "turn"] (lCons (e1 fRev (aTmp (eLc (.nm 2) (iVal (aVar 0)) (tYes) (eBi fAbs (aCons (aVar 2) (aNil))) [2]))) (lCons (eLit (.int 1)) (lCons (eVar 1) (lCons (eLit (.int 0)) (lNil))))) E1 = some (src as.reverse 1 m' 0, E1) := by
    unfold eDct lCons
    simp only [q4]
    have e : ((as.map D.int).reverse.map O.fz) = as.reverse.map fun i => .fz (.int i) := by rw [← List.map_reverse, List.map_map]; rfl
    rw [e]
    rfl
  refine ⟨src as.reverse 1 m' 0, .fz (.lst (ns.map D.int)), ?_, as.reverse, 1, m', 0, rfl, ⟨by simp [as]; omega, fun c hc => ?_, by decide, h0, h1, by decide, by decide⟩⟩
  · have e : M_source ([O.fz (.lst (ns.map D.int))].map some ++ List.replicate (3 - [O.fz (.lst (ns.map D.int))].length) none) = some (.rt (src as.reverse 1 m' 0) E1) := by
      refine (seq_nx q1).trans ((seq_nx ?_).trans (ret_val q5))
      exact q2
    unfold G_source run
    rw [e]; rfl
  · have hc2 := List.mem_reverse.mp hc
    obtain ⟨i, _, rfl⟩ := List.mem_map.mp hc2
    split <;> omega
/-- one of many -/
theorem at_of {α : Type} {ds : List α} {r : Int} (h0 : 0 ≤ r) (h1 : r < ds.length) : ∃ d, d ∈ ds ∧ L2.atI ds r = some d := by
  refine ⟨ds[r.toNat]'(by omega), List.getElem_mem _, ?_⟩
  unfold L2.atI L2.ixN
  rw [if_pos h0, if_pos h1]
  exact List.getElem?_eq_getElem _
theorem of_run {n : Nat} {o w : O} {ds : List D} (hs : Src n o) (hn : n ≤ 2 ^ 64) (h0 : ds ≠ []) (hl : ds.length ≤ cap) (hw : shal w = some (.tup ds) ∨ shal w = some (.lst ds)) (hlen : ∀ (a : Option O), eEls (eLenAt (.slot 1)) (eBi fLen (aCons (aVar 1) aNil)) [a, some w] = some (.fz (.int ds.length), [a, some w])) :
    ∃ o' d, d ∈ ds ∧ G_of [o, w] = some (.fz d, [some o', some w]) ∧ Src (n + 1) o' := by
  have hpos : 0 < ds.length := List.length_pos_iff.mpr h0
  have hk : (ds.length : Int) ≤ 2 ^ 64 := by unfold cap at hl; omega
  obtain ⟨o', r, e1, e2, e3, e4⟩ := pick_ok hs hn hk
  have hm : mx (ds.length : Int) = ds.length := by unfold mx; split <;> omega
  rw [hm] at e4
  obtain ⟨d, hd, ed⟩ := at_of (ds := ds) e3 e4
  have own : isOwn o = true := by obtain ⟨cs, l, m, t, rfl, _⟩ := hs; rfl
  have c1 : eCall G_pick [true, true] (aCons (aVar 0) (aCons (aTmp (eEls (eLenAt (.slot 1)) (eBi fLen (aCons (aVar 1) aNil)))) aNil)) [some o, some w] = some (.fz (.int r), [some o', some w]) := by
    have a1 : aCons (aVar 0) (aCons (aTmp (eEls (eLenAt (.slot 1)) (eBi fLen (aCons (aVar 1) aNil)))) aNil) [some o, some w] = some ([.ref 0, .tmp (.fz (.int ds.length))], [some o, some w]) := cons_val rfl (cons_val (tmp_val (hlen _)) rfl)
    have a2 : lend [true, true] [.ref 0, .tmp (.fz (.int ds.length))] [some o, some w] = some ([o, .fz (.int ds.length)], [none, some w]) := by
      simp [lend, own]
    unfold eCall
    rw [a1]; simp only [a2, e1]
    rfl
  refine ⟨o', d, hd, ?_, e2⟩
  have c2 : M_of [some o, some w] = some (.rt (.fz d) [some o', some w]) := by
    refine ret_val ?_
    rcases hw with hw | hw
    · refine eBi_val (xs := [.ref 1, .tmp (.fz (.int r))]) (ds := [.tup ds, .int r]) (cons_val rfl (cons_val (tmp_val c1) rfl)) ?_ ?_
      · simp [rsvs, rsv, hw, fr]
      · simp [fIdx, fIdxS, ed]
    · refine eBi_val (xs := [.ref 1, .tmp (.fz (.int r))]) (ds := [.lst ds, .int r]) (cons_val rfl (cons_val (tmp_val c1) rfl)) ?_ ?_
      · simp [rsvs, rsv, hw, fr]
      · simp [fIdx, fIdxS, ed]
  unfold G_of run
  have c3 : M_of ([o, w].map some ++ List.replicate (2 - [o, w].length) none) = some (.rt (.fz d) [some o', some w]) := c2
  rw [c3]; rfl
theorem allFz_fz : ∀ ds : List D, allFz (ds.map O.fz) = some ds
  | [] => rfl
  | d :: ds => by simp [allFz, allFz_fz ds]
theorem of_tup {n : Nat} {o : O} {ds : List D} (hs : Src n o) (hn : n ≤ 2 ^ 64) (h0 : ds ≠ []) (hl : ds.length ≤ cap) : ∃ o' d, d ∈ ds ∧ G_of [o, .fz (.tup ds)] = some (.fz d, [some o', some (.fz (.tup ds))]) ∧ Src (n + 1) o' :=
  of_run hs hn h0 hl (.inl rfl) fun _ => rfl
theorem of_lst {n : Nat} {o : O} {ds : List D} (hs : Src n o) (hn : n ≤ 2 ^ 64) (h0 : ds ≠ []) (hl : ds.length ≤ cap) : ∃ o' d, d ∈ ds ∧ G_of [o, .fz (.lst ds)] = some (.fz d, [some o', some (.fz (.lst ds))]) ∧ Src (n + 1) o' :=
  of_run hs hn h0 hl (.inr rfl) fun _ => rfl
theorem of_ol {n : Nat} {o : O} {ds : List D} (hs : Src n o) (hn : n ≤ 2 ^ 64) (h0 : ds ≠ []) (hl : ds.length ≤ cap) : ∃ o' d, d ∈ ds ∧ G_of [o, .ol (ds.map O.fz)] = some (.fz d, [some o', some (.ol (ds.map O.fz))]) ∧ Src (n + 1) o' :=
  of_run hs hn h0 hl (.inr (by simp [shal, allFz_fz])) fun a => by
    show some (O.fz (.int ((ds.map O.fz).length : Nat)), _) = _
    rw [List.length_map]
end Pz
set_option Elab.async false
set_option linter.all false
set_option maxRecDepth 100000
set_option maxHeartbeats 1000000
namespace Pz
open PySem PySem.Spec L2
open PyProof.Rows hiding St
open PySem.W (dataLe TotalLe)
/-! ### sorted, to be reckoned by the kernel -/
def ins {α : Type} (le : α → α → Bool) (a : α) : List α → List α
  | [] => [a]
  | b :: l => if le a b then a :: b :: l else b :: ins le a l
def isort {α : Type} (le : α → α → Bool) : List α → List α
  | [] => []
  | a :: l => ins le a (isort le l)
theorem ins_split {α : Type} {le : α → α → Bool} {a : α} : ∀ {l1 l2 : List α}, (∀ b ∈ l1, le a b = false) → (∀ b r, l2 = b :: r → le a b = true) → ins le a (l1 ++ l2) = l1 ++ a :: l2
  | [], [], _, _ => rfl
  | [], b :: r, _, h => by show (if le a b then _ else _) = _; rw [h b r rfl]; rfl
  | b :: l1, l2, h, k => by
    show (if le a b then _ else _) = _
    rw [h b List.mem_cons_self]
    simp only [Bool.false_eq_true, if_false, List.cons_append]
    exact congrArg (b :: ·) (ins_split (fun c hc => h c (List.mem_cons_of_mem _ hc)) k)
theorem isort_eq {α : Type} {le : α → α → Bool} (tr : ∀ a b c, le a b = true → le b c = true → le a c = true) (tot : ∀ a b, (le a b || le b a) = true) : ∀ l : List α, l.mergeSort le = isort le l
  | [] => by simp [isort]
  | a :: l => by
    obtain ⟨l1, l2, h1, h2, h3⟩ := List.mergeSort_cons tr tot a l
    rw [h1, isort, ← isort_eq tr tot l, h2]
    have sp : (l1 ++ a :: l2).Pairwise (fun x y => le x y = true) := by rw [← h1]; exact List.pairwise_mergeSort tr tot _
    refine (ins_split (fun b hb => by simpa using h3 b hb) fun b r e => ?_).symm
    subst e
    have := (List.pairwise_append.mp sp).2.1
    exact (List.pairwise_cons.mp this).1 b List.mem_cons_self
theorem srtD_eq (ds : List D) : srtD ds = isort leD ds := by
  have T : TotalLe leD := by unfold leD dataLe; exact PySem.W.sortLe_total _ _ _
  exact isort_eq T.trans (fun a b => by have := T.total a b; rcases this with z | z <;> simp [z]) ds
theorem ts1 : isort leD [.tup [.int 2, .tup [.str "b"]], .tup [.int 1, .tup [.str "b", .str "c"]], .tup [.int 1, .tup [.str "a", .str "d"]]] = [.tup [.int 1, .tup [.str "a", .str "d"]], .tup [.int 1, .tup [.str "b", .str "c"]], .tup [.int 2, .tup [.str "b"]]] := by kernel_rfl
end Pz
set_option Elab.async false
set_option linter.all false
set_option maxRecDepth 100000
set_option maxHeartbeats 1000000
namespace Pz
open PySem PySem.Spec L2
open PyProof.Rows hiding St
/-! ### tuples and lists of texts -/
@[reducible] def ts (l : List Str) : D := .tup (l.map D.str)
@[reducible] def lst (l : List Str) : D := .lst (l.map D.str)
theorem str_beq {x y : Str} : (x == y) = decide (x = y) := by
  by_cases h : x = y
  · subst h; simp
  · rw [decide_eq_false h]; exact beq_eq_false_iff_ne.mpr h
theorem eqD_str {x y : Str} : eqD (.str x) (.str y) = decide (x = y) := by
  unfold eqD
  show PyData.eqv (.str x) (.str y) = _
  unfold PyData.eqv
  exact str_beq
theorem anyEq_str {l : List Str} {x : Str} : anyEq (l.map D.str) (.str x) = decide (x ∈ l) := by
  unfold anyEq
  induction l with
  | nil => simp
  | cons a l ih =>
    rw [List.map_cons, List.any_cons, ih, eqD_str]
    by_cases h : a = x
    · subst h; simp
    · simp [h, Ne.symm h]
theorem flat_strs {l : List Str} : (flatD (.str x) && (l.map D.str).all flatD) = true := by
  simp [flatD, List.all_map, Function.comp_def]
theorem fIn_ts {l : List Str} {x : Str} : fInA [.str x, ts l] = some (.fz (.bl (decide (x ∈ l)))) := by
  have e : memD (.str x) (ts l) = some (decide (x ∈ l)) := by
    show (if (flatD (.str x) && (l.map D.str).all flatD) = true then some (anyEq (l.map D.str) (.str x)) else none) = _
    rw [if_pos flat_strs, anyEq_str]
  unfold fInA
  show (match (memD (.str x) (ts l)).map fun b => O.fz (.bl b) with
    | some o => some o
    | none => fInD [.str x, ts l]) = _
  rw [e]; rfl
theorem fIn_ls {l : List Str} {x : Str} : fInA [.str x, lst l] = some (.fz (.bl (decide (x ∈ l)))) := by
  have e : memD (.str x) (lst l) = some (decide (x ∈ l)) := by
    show (if (flatD (.str x) && (l.map D.str).all flatD) = true then some (anyEq (l.map D.str) (.str x)) else _) = _
    rw [if_pos flat_strs, anyEq_str]
  unfold fInA
  show (match (memD (.str x) (lst l)).map fun b => O.fz (.bl b) with
    | some o => some o
    | none => fInD [.str x, lst l]) = _
  rw [e]; rfl
theorem fNotIn_ts {l : List Str} {x : Str} : fNotInA [.str x, ts l] = some (.fz (.bl (!decide (x ∈ l)))) := by
  have e : memD (.str x) (ts l) = some (decide (x ∈ l)) := by
    show (if (flatD (.str x) && (l.map D.str).all flatD) = true then some (anyEq (l.map D.str) (.str x)) else none) = _
    rw [if_pos flat_strs, anyEq_str]
  unfold fNotInA
  show (match (memD (.str x) (ts l)).map fun b => O.fz (.bl (!b)) with
    | some o => some o
    | none => fNotInD [.str x, ts l]) = _
  rw [e]; rfl
theorem fNe_bl {a b : Bool} : fNe [.bl a, .bl b] = some (.fz (.bl (a != b))) := by cases a <;> cases b <;> rfl
theorem fEq_nil {ds : List D} (h : okD (.lst ds) = true) : fEq [.lst ds, .lst []] = some (.fz (.bl ds.isEmpty)) := by
  show (if (okD (.lst ds) && okD (.lst [])) = true then some (O.fz (D.bl (eqD (.lst ds) (.lst [])))) else none) = _
  rw [if_pos (by rw [h]; rfl)]
  cases ds <;> rfl
/-! ### one step of a meaning, of names -/
theorem var_val {i : Nat} {S : Env} {o : O} (h : S[i]? = some (some o)) : aVar i S = some (.ref i, S) := by unfold aVar; rw [h]
theorem rsv_ref {i : Nat} {S : Env} {o : O} {d : D} (h : S[i]? = some (some o)) (hd : shal o = some d) : rsv (.ref i) S = some (d, S) := by
  show (match S[i]? with
    | some (some o) => (match shal o with
      | some d => some (d, S)
      | none => some (fr o, S.set i (some (.fz (fr o)))))
    | _ => none) = _
  rw [h]; simp only [hd]
theorem e1_v {f : List D → Option O} {i : Nat} {S : Env} {o r : O} {d : D} (h : S[i]? = some (some o)) (hd : shal o = some d) (hf : f [d] = some r) : e1 f (aVar i) S = some (r, S) :=
  eBi_val (cons_val (var_val h) rfl) (by unfold rsvs; rw [rsv_ref h hd]; rfl) hf
theorem e2_vv {f : List D → Option O} {i j : Nat} {S : Env} {o o' r : O} {d d' : D} (h : S[i]? = some (some o)) (hd : shal o = some d) (h' : S[j]? = some (some o')) (hd' : shal o' = some d') (hf : f [d, d'] = some r) : e2 f (aVar i) (aVar j) S = some (r, S) :=
  eBi_val (cons_val (var_val h) (cons_val (var_val h') rfl)) (by unfold rsvs; rw [rsv_ref h hd]; unfold rsvs; simp only [rsv_ref h' hd']; rfl) hf
theorem e2_tv {f : List D → Option O} {e : EE} {j : Nat} {S S1 : Env} {o o' r : O} {d' : D} (h : e S = some (o, S1)) (h' : S1[j]? = some (some o')) (hd' : shal o' = some d') (hf : f [fr o, d'] = some r) : e2 f (aTmp e) (aVar j) S = some (r, S1) :=
  eBi_val (cons_val (tmp_val h) (cons_val (var_val h') rfl)) (by unfold rsvs rsv; simp only; unfold rsvs; simp only [rsv_ref h' hd']; rfl) hf
theorem e2_vt {f : List D → Option O} {e : EE} {i : Nat} {S S1 : Env} {o o' r : O} {d : D} (h : S[i]? = some (some o)) (h1 : e S = some (o', S1)) (h2 : S1[i]? = some (some o)) (hd : shal o = some d) (hf : f [d, fr o'] = some r) : e2 f (aVar i) (aTmp e) S = some (r, S1) :=
  eBi_val (cons_val (var_val h) (cons_val (tmp_val h1) rfl)) (by unfold rsvs; rw [rsv_ref h2 hd]; rfl) hf
theorem tE_val {e : EE} {S S1 : Env} {b : Bool} (h : e S = some (.fz (.bl b), S1)) : tE e S = some (b, S1) := by unfold tE; rw [h]
theorem els_1 {f g : EE} {S : Env} {r : O × Env} (h : f S = some r) : eEls f g S = some r := by unfold eEls; rw [h]
theorem els_2 {f g : EE} {S : Env} (h : f S = none) : eEls f g S = g S := by unfold eEls; rw [h]
theorem run_rt {n : Nat} {io : List Bool} {b : SS} {os : List O} {S0 S : Env} {o : O} (h0 : os.map some ++ List.replicate (n - os.length) none = S0) (h : b S0 = some (.rt o S)) : run n io b os = some (o, finals io S) := by
  unfold run; rw [h0, h]
/-! ### a loop that looks for one -/
theorem forGo_search {tg : Tg} {b : SS} {hit : D → Bool} {o : O} {Inv : Env → Prop} : ∀ {ds : List D} {S : Env}, (∀ d ∈ ds, ∀ S, Inv S → ∃ S1 S2, bindT tg d S = some S1 ∧ Inv S2 ∧ b S1 = some (if hit d = true then .rt o S2 else .nx S2)) → Inv S → ∃ S2, Inv S2 ∧ forGo tg b ds S = some (if ds.any hit = true then .rt o S2 else .nx S2)
  | [], S, _, h => ⟨S, h, rfl⟩
  | d :: ds, S, k, h => by
    obtain ⟨S1, S2, h1, h2, h3⟩ := k d List.mem_cons_self S h
    unfold forGo
    rw [h1]
    cases hd : hit d with
    | true =>
      rw [hd, if_pos rfl] at h3
      refine ⟨S2, h2, ?_⟩
      simp only [h3, List.any_cons, hd, Bool.true_or, if_true]
    | false =>
      rw [hd, if_neg Bool.false_ne_true] at h3
      obtain ⟨S3, h4, h5⟩ := forGo_search (ds := ds) (S := S2) (fun x hx => k x (List.mem_cons_of_mem _ hx)) h2
      refine ⟨S3, h4, ?_⟩
      simp only [h3, List.any_cons, hd, Bool.false_or]
      exact h5
theorem sFor_search {tg : Tg} {it : IE} {b : SS} {hit : D → Bool} {o : O} {Inv : Env → Prop} {ds : List D} {S S0 : Env} (hi : it S = some (ds, S0)) (k : ∀ d ∈ ds, ∀ S, Inv S → ∃ S1 S2, bindT tg d S = some S1 ∧ Inv S2 ∧ b S1 = some (if hit d = true then .rt o S2 else .nx S2)) (h : Inv S0) : ∃ S2, Inv S2 ∧ sFor tg it b S = some (if ds.any hit = true then .rt o S2 else .nx S2) := by
  unfold sFor
  rw [hi]
  exact forGo_search k h
theorem call_val {g : Fn} {io : List Bool} {as : AL} {S S1 S2 : Env} {xs : List A} {os : List O} {o : O} {fs : List (Option O)} (h1 : as S = some (xs, S1)) (h2 : lend io xs S1 = some (os, S2)) (h3 : g os = some (o, fs)) : eCall g io as S = some (o, giveBack io xs fs S2) := by
  unfold eCall; rw [h1]; simp only [h2, h3]
theorem ival_t {e : EE} {S S1 : Env} {o : O} {ds : List D} (h : e S = some (o, S1)) (hi : items (fr o) = some ds) : iVal (aTmp e) S = some (ds, S1) := by
  unfold iVal; rw [tmp_val h]; simp only [hi]
def unts : D → List Str
  | .tup ds => ds.filterMap fun x => match x with
    | .str s => some s
    | _ => none
  | _ => []
theorem unts_ts {l : List Str} : unts (ts l) = l := by
  show (l.map D.str).filterMap _ = l
  induction l with
  | nil => rfl
  | cons a l ih =>
    exact congrArg (a :: ·) ih
theorem canAll {l : List Str} (h : ∀ x ∈ l, PyData.strOk x = true) : PyData.canLayAll0 (pys (l.map D.str)) = true := by
  induction l with
  | nil => rfl
  | cons a l ih =>
    show (PyData.strOk a && PyData.canLayAll0 (pys (l.map D.str))) = true
    rw [h a List.mem_cons_self, ih fun x hx => h x (List.mem_cons_of_mem _ hx)]; rfl
theorem depAll {l : List Str} : PyData.depthAll (pys (l.map D.str)) = 0 := by
  induction l with
  | nil => rfl
  | cons a l ih =>
    show max 0 (PyData.depthAll (pys (l.map D.str))) = 0
    rw [ih]; rfl
theorem okD_lst {l : List Str} (h : ∀ x ∈ l, PyData.strOk x = true) : okD (lst l) = true := by
  show (PyData.canLayAll0 (pys (l.map D.str)) && decide (PyData.depthAll (pys (l.map D.str)) + 1 ≤ 64)) = true
  rw [canAll h, depAll]; rfl
theorem okD_ts {l : List Str} (h : ∀ x ∈ l, PyData.strOk x = true) : okD (ts l) = true := by
  show (PyData.canLayAll0 (pys (l.map D.str)) && decide (PyData.depthAll (pys (l.map D.str)) + 1 ≤ 64)) = true
  rw [canAll h, depAll]; rfl
end Pz
set_option Elab.async false
set_option linter.all false
set_option maxRecDepth 100000
set_option maxHeartbeats 1000000
namespace Pz
open PySem PySem.Spec L2
open PyProof.Rows hiding St
/-! ### big steps, for a search -/
section
variable {α : Type}
theorem z_g0 {a : α} {S : List α} : (a :: S)[0]? = some a := rfl
theorem z_gS {a : α} {r : Option α} {S : List α} {n : Nat} (h : S[n]? = r) : (a :: S)[n+1]? = r := h
theorem z_s0 {a x : α} {S : List α} : (a :: S).set 0 x = x :: S := rfl
theorem z_sS {a x : α} {S S' : List α} {n : Nat} (h : S.set n x = S') : (a :: S).set (n+1) x = a :: S' := congrArg (a :: ·) h
theorem frs_map (enc : α → D) : ∀ L : List α, frs (L.map fun x => .fz (enc x)) = L.map enc
  | [] => rfl
  | a :: L => by rw [List.map_cons, List.map_cons, frs, fr, frs_map enc L]
theorem fr_map (enc : α → D) (L : List α) : fr (.ol (L.map fun x => .fz (enc x))) = .lst (L.map enc) := by rw [fr, frs_map]
theorem allFz_map (enc : α → D) : ∀ L : List α, allFz (L.map fun x => .fz (enc x)) = some (L.map enc)
  | [] => rfl
  | a :: L => by rw [List.map_cons, List.map_cons, allFz, allFz_map enc L]; rfl
theorem shal_map (enc : α → D) (L : List α) : shal (.ol (L.map fun x => .fz (enc x))) = some (.lst (L.map enc)) := by rw [shal, allFz_map]; rfl
end
section
variable {S S0 S1 S2 S3 S4 S' : Env} {o o' r : O} {os : List O} {d : D} {ds : List D} {e e' : EE} {l : EL} {i k : Nat} {as : AL} {a : AE} {x : A} {xs : List A} {bs io : List Bool} {fs : List (Option O)} {f : Option O} {b : Bool} {t u : TB} {s s' : SS} {out : Option Out}
theorem z_lit : eLit d S = some (.fz d, S) := rfl
theorem z_var (h : S[i]? = some (some o)) (hf : fr o = d) (hs : S.set i (some (.fz d)) = S') : eVar i S = some (.fz d, S') := by
  unfold eVar; rw [h]; subst hf; subst hs; rfl
theorem z_tup (h : l S = some (os, S1)) (hf : frs os = ds) : eTup l S = some (.fz (.tup ds), S1) := by unfold eTup; rw [h]; subst hf; rfl
theorem z_lst (h : l S = some (os, S1)) : eLst l S = some (.ol os, S1) := by unfold eLst; rw [h]
theorem z_lnil : lNil S = some ([], S) := rfl
theorem z_lcons (h : e S = some (o, S1)) (h2 : l S1 = some (os, S2)) : lCons e l S = some (o :: os, S2) := by unfold lCons; rw [h]; simp only [h2]
theorem z_frfz : fr (.fz d) = d := rfl
theorem z_frol (h : frs os = ds) : fr (.ol os) = .lst ds := by rw [fr, h]
theorem z_frs0 : frs [] = [] := rfl
theorem z_frsS (h : fr o = d) (h2 : frs os = ds) : frs (o :: os) = d :: ds := by rw [frs, h, h2]
theorem z_anil : aNil S = some ([], S) := rfl
theorem z_r0 : rsvs [] S = some ([], S) := rfl
theorem z_rS {r : List A} (h : rsv x S = some (d, S1)) (h2 : rsvs r S1 = some (ds, S2)) : rsvs (x :: r) S = some (d :: ds, S2) := by
  unfold rsvs; rw [h]; simp only [h2]
theorem z_rT (h : fr o = d) : rsv (.tmp o) S = some (d, S) := by subst h; rfl
theorem z_rF (h : S[i]? = some (some o)) (hn : shal o = none) (hf : fr o = d) (hs : S.set i (some (.fz d)) = S') : rsv (.ref i) S = some (d, S') := by
  show (match S[i]? with
    | some (some o) => (match shal o with
      | some d => some (d, S)
      | none => some (fr o, S.set i (some (.fz (fr o)))))
    | _ => none) = _
  rw [h]; subst hf; subst hs; simp only [hn]
theorem z_shfz : shal (.fz d) = some d := rfl
theorem z_sl {lo hi : Option EE} {l h : Option Int} (h0 : a S = some (x, S1)) (h1 : evP lo S1 = some (l, S2)) (h2 : evP hi S2 = some (h, S3)) (h3 : rsv x S3 = some (d, S4)) (h4 : fSl d l h = some o) : eSl a lo hi S = some (o, S4) := by
  unfold eSl; rw [h0]; simp only [h1, h2, h3, h4]
theorem z_ev0 : evP none S = some (none, S) := rfl
theorem z_ev1 {j : Int} (h : e S = some (.fz (.int j), S1)) : evP (some e) S = some (some j, S1) := by simp only [evP, h]
theorem z_call {g : Fn} (h1 : as S = some (xs, S1)) (h2 : lend io xs S1 = some (os, S2)) (h3 : g os = some (o, fs)) (h4 : giveBack io xs fs S2 = S3) : eCall g io as S = some (o, S3) := by rw [call_val h1 h2 h3, h4]
theorem z_l0 : lend bs [] S = some ([], S) := by cases bs <;> rfl
theorem z_lT {r : List A} (h : lend bs r S = some (os, S1)) : lend (b :: bs) (.tmp o :: r) S = some (o :: os, S1) := by unfold lend; rw [h]
theorem z_lO {r : List A} (h : S[i]? = some (some o)) (hb : (b && isOwn o) = true) (hs : S.set i none = S1) (h2 : lend bs r S1 = some (os, S2)) : lend (b :: bs) (.ref i :: r) S = some (o :: os, S2) := by
  unfold lend; rw [h]; subst hs; simp only [hb, if_true, h2]
theorem z_lZ {r : List A} (h : S[i]? = some (some (.fz d))) (h2 : lend bs r S = some (os, S2)) : lend (b :: bs) (.ref i :: r) S = some (.fz d :: os, S2) := by
  have e : S.set i (some (.fz d)) = S := set_self h
  unfold lend; rw [h]; simp only [isOwn, Bool.and_false, Bool.false_eq_true, if_false, fr, e, h2]
theorem z_lF {r : List A} (h : S[i]? = some (some o)) (hf : fr o = d) (hs : S.set i (some (.fz d)) = S1) (h2 : lend bs r S1 = some (os, S2)) : lend (false :: bs) (.ref i :: r) S = some (.fz d :: os, S2) := by
  unfold lend; rw [h]; subst hf; subst hs; simp only [Bool.false_and, Bool.false_eq_true, if_false, h2]
theorem z_b0 : giveBack bs [] fs S = S := by
  cases bs with
  | nil => cases fs <;> rfl
  | cons b _ => cases b <;> cases fs <;> rfl
theorem z_bT {r : List A} (h : giveBack bs r fs S = S') : giveBack (b :: bs) (.tmp o :: r) (f :: fs) S = S' := by cases b <;> exact h
theorem z_bR {r : List A} (h : giveBack bs r fs S = S1) (hs : S1.set i f = S') : giveBack (true :: bs) (.ref i :: r) (f :: fs) S = S' := by
  subst hs; subst h; rfl
theorem z_bF {r : List A} (h : giveBack bs r fs S = S') : giveBack (false :: bs) (.ref i :: r) (f :: fs) S = S' := h
theorem z_not (h : t S = some (b, S1)) : tNot t S = some (!b, S1) := by unfold tNot; rw [h]
theorem z_eT (h : t S = some (b, S1)) : eT t S = some (.fz (.bl b), S1) := by unfold eT; rw [h]
theorem z_eNot (h : e S = some (.fz (.bl b), S1)) : eNot e S = some (.fz (.bl (!b)), S1) := by unfold eNot; rw [h]
theorem z_chn {f g : Int → Int → Bool} {p q r : EE} {i j k : Int} (h1 : p S = some (.fz (.int i), S)) (h2 : q S = some (.fz (.int j), S)) (h3 : r S = some (.fz (.int k), S)) : tChn f g p q r S = some (f i j && g j k, S) := by
  unfold tChn
  cases h : f i j <;> simp [h1, h2, h3, h]
theorem z_els2 {e1 e2 : EE} {res : Option (O × Env)} (h : e1 S = none) (h2 : e2 S = res) : eEls e1 e2 S = res := (els_2 h).trans h2
theorem z_ift {x y : EE} {res : Option (O × Env)} (h : t S = some (true, S1)) (h2 : x S1 = res) : eIf t x y S = res := by unfold eIf; rw [h]; exact h2
theorem z_iff {x y : EE} {res : Option (O × Env)} (h : t S = some (false, S1)) (h2 : y S1 = res) : eIf t x y S = res := by unfold eIf; rw [h]; exact h2
theorem z_lenAt {p : Pl} {n : Nat} (h : getPl p S = some (.ol os)) (hn : os.length = n) : eLenAt p S = some (.fz (.int n), S) := by unfold eLenAt; rw [h]; subst hn; rfl
theorem z_getS (h : S[i]? = some (some o)) : getPl (.slot i) S = some o := by unfold getPl; rw [h]; rfl
theorem z_getD {p : Pl} {q : QE} (h : getPl p S = some o) (hq : q S = some d) (hs : subGet o d = some o') : getPl (.sub p q) S = some o' := by unfold getPl; rw [h]; simp only [hq, hs]
theorem z_atF {p : Pl} (h : getPl p S = some (.fz d)) : eAt p S = some (.fz d, S) := by unfold eAt; rw [h]
theorem z_fLen {n : Nat} (hn : ds.length = n) : fLen [.lst ds] = some (.fz (.int n)) := by subst hn; rfl
theorem z_fLenT {n : Nat} (hn : ds.length = n) : fLen [.tup ds] = some (.fz (.int n)) := by subst hn; rfl
/-! statements -/
theorem z_set (h : e S = some (o, S1)) (hs : S1.set i (some o) = S2) : sSet i e S = some (.nx S2) := by rw [set_val h, hs]
theorem z_run {n : Nat} {bb : SS} (h0 : os.map some ++ List.replicate (n - os.length) none = S0) (h : bb S0 = some (.rt o S)) (hf : finals io S = fs) : run n io bb os = some (o, fs) := by rw [run_rt h0 h, hf]
theorem Src.own {n : Nat} (h : Src n o) : (true && isOwn o) = true := by obtain ⟨cs, l, m, t, rfl, _⟩ := h; rfl
theorem z_exp (h : e S = some (o, S1)) : sExp e S = some (.nx S1) := by unfold sExp; rw [h]
theorem z_seq (h : s S = some (.nx S1)) (h2 : s' S1 = out) : sSeq s s' S = out := (seq_nx h).trans h2
theorem z_sif_f {x y : SS} (h : t S = some (false, S1)) (h2 : y S1 = out) : sIf t x y S = out := (if_f h).trans h2
theorem z_sif_t {x y : SS} (h : t S = some (true, S1)) (h2 : x S1 = out) : sIf t x y S = out := (if_t h).trans h2
theorem z_nil : sNil S = some (.nx S) := rfl
theorem z_par {is : List Nat} (h : l S = some (os, S1)) (hl : os.length = is.length) (hs : setAll is os S1 = S2) : sPar is l S = some (.nx S2) := by
  unfold sPar; rw [h]; subst hs; simp only [hl, if_true]
theorem z_a0 : setAll [] [] S = S := rfl
theorem z_aS {is : List Nat} (h : S.set i (some o) = S1) (h2 : setAll is os S1 = S2) : setAll (i :: is) (o :: os) S = S2 := by subst h; exact h2
/-! binding, clearing -/
theorem z_bnm (h : S.set i (some (.fz d)) = S') : bindT (.nm i) d S = some S' := by subst h; rfl
theorem z_btp {tgs : List Tg} {r : Option Env} (h : bindTs tgs ds S = r) : bindT (.tp tgs) (.tup ds) S = r := h
theorem z_bs0 : bindTs [] [] S = some S := rfl
theorem z_bsS {tg : Tg} {tgs : List Tg} {r : Option Env} (h : bindT tg d S = some S1) (h2 : bindTs tgs ds S1 = r) : bindTs (tg :: tgs) (d :: ds) S = r := by
  show (match bindT tg d S with
    | some S1 => bindTs tgs ds S1
    | none => none) = _
  rw [h]; exact h2
theorem z_cl0 : clearS S [] = S := rfl
theorem z_clS {is : List Nat} (h : clearS S is = S1) (h2 : S1.set i none = S2) : clearS S (i :: is) = S2 := by subst h; exact h2
theorem z_pb0 : putBack S0 S [] = S := rfl
theorem z_pbS {is : List Nat} {y : Option O} (h : putBack S0 S is = S1) (hg : S0[i]? = some y) (h2 : S1.set i y = S2) : putBack S0 S (i :: is) = S2 := by
  subst h; unfold putBack; rw [hg]; exact h2
theorem z_ivr (h : S[i]? = some (some o)) (hf : fr o = d) (hi : items d = some ds) (hs : S.set i (some (.fz d)) = S') : iVal (aVar i) S = some (ds, S') := by
  unfold iVal; rw [var_val h]; subst hf; subst hs; simp only [h, hi]
theorem z_ivt (h : e S = some (o, S1)) (hf : fr o = d) (hi : items d = some ds) : iVal (aTmp e) S = some (ds, S1) := by subst hf; exact ival_t h hi
theorem z_itl : items (.lst ds) = some ds := rfl
theorem z_itt : items (.tup ds) = some ds := rfl
variable {α : Type}
theorem z_its {l : List Str} : items (ts l) = some (l.map D.str) := rfl
theorem z_lcf {tg : Tg} {it : IE} {own : List Nat} {enc : α → D} {L : List α} {pr : α → Bool} {v : α → O} {B C E : α → Env} (h1 : it S = some (L.map enc, S1)) (hl : L.length ≤ cap) (hc : clearS S1 own = S0)
    (hb : ∀ x ∈ L, bindT tg (enc x) S0 = some (B x)) (ht : ∀ x ∈ L, t (B x) = some (pr x, C x)) (hn : ∀ x ∈ L, clearS (C x) own = S0) (he : ∀ x ∈ L, pr x = true → e (C x) = some (v x, E x)) (hn' : ∀ x ∈ L, pr x = true → clearS (E x) own = S0) (hp : putBack S1 S0 own = S') : eLc tg it t e own S = some (.ol ((L.filter pr).map v), S') := by
  unfold eLc
  rw [h1]
  simp only [List.length_map, hl, if_true]
  rw [hc]
  have go : ∀ (M : List α), (∀ x ∈ M, x ∈ L) → ∀ acc, lcGo tg t e own (M.map enc) acc S0 = some (acc ++ (M.filter pr).map v, S0) := by
    intro M
    induction M with
    | nil => intro _ acc; simp [lcGo]
    | cons a M ih =>
      intro hM acc
      have m := hM a List.mem_cons_self
      rw [List.map_cons]
      unfold lcGo
      rw [hb a m]
      simp only [ht a m]
      cases hpa : pr a with
      | true =>
        simp only [he a m hpa, hn' a m hpa, ih fun x hx => hM x (List.mem_cons_of_mem _ hx)]
        rw [List.filter_cons_of_pos hpa, List.map_cons]; simp
      | false =>
        simp only [hn a m, ih fun x hx => hM x (List.mem_cons_of_mem _ hx)]
        rw [List.filter_cons_of_neg (by rw [hpa]; decide)]
  rw [go L (fun _ h => h) []]
  simp only [List.nil_append, hp]
theorem z_lcm {tg : Tg} {it : IE} {own : List Nat} {enc : α → D} {L : List α} {v : α → O} {B E : α → Env} (h1 : it S = some (L.map enc, S1)) (hl : L.length ≤ cap) (hc : clearS S1 own = S0)
    (hb : ∀ x ∈ L, bindT tg (enc x) S0 = some (B x)) (he : ∀ x ∈ L, e (B x) = some (v x, E x)) (hn : ∀ x ∈ L, clearS (E x) own = S0) (hp : putBack S1 S0 own = S') : eLc tg it tYes e own S = some (.ol (L.map v), S') := by
  unfold eLc
  rw [h1]
  simp only [List.length_map, hl, if_true]
  rw [hc]
  have go : ∀ (M : List α), (∀ x ∈ M, x ∈ L) → ∀ acc, lcGo tg tYes e own (M.map enc) acc S0 = some (acc ++ M.map v, S0) := by
    intro M
    induction M with
    | nil => intro _ acc; simp [lcGo]
    | cons a M ih =>
      intro hM acc
      have m := hM a List.mem_cons_self
      rw [List.map_cons]
      unfold lcGo
      rw [hb a m]
      simp only [tYes, he a m, hn a m, ih fun x hx => hM x (List.mem_cons_of_mem _ hx)]
      rw [List.map_cons]; simp
  rw [go L (fun _ h => h) []]
  simp only [List.nil_append, hp]
end
end Pz
set_option Elab.async false
set_option linter.all false
set_option maxRecDepth 100000
set_option maxHeartbeats 1000000
namespace Pz
open PySem PySem.Spec L2
open PyProof.Rows hiding St
open PySem.W (dataLe TotalLe)
/-! ### what the search asks of built-ins -/
theorem fEq_int {i j : Int} : fEq [.int i, .int j] = some (.fz (.bl (decide (i = j)))) := by
  show some (O.fz (.bl (eqD (.int i) (.int j)))) = _
  congr 3
theorem fNe_int {i j : Int} : fNe [.int i, .int j] = some (.fz (.bl (!decide (i = j)))) := by
  show some (O.fz (.bl (!eqD (.int i) (.int j)))) = _
  congr 4
section
variable {α : Type} {enc : α → D} {l a b : List α} {k : Nat} {S S1 S2 S' : Env} {o r : O} {ds es : List D} {as : AL} {xs : List A} {j : Int}
theorem fSl_loT : fSl (.tup (l.map enc)) (some (k : Int)) none = some (.fz (.tup ((l.drop k).map enc))) := by
  show some (O.fz (.tup (cutD _ _ _))) = _
  unfold cutD
  rw [HT.sIx_nat, HT.sIx_none, List.length_map, List.map_drop]
  congr 3
  rw [List.take_of_length_le (by simp)]
  by_cases h : k ≤ l.length
  · rw [Nat.min_eq_left h]
  · rw [Nat.min_eq_right (by omega), List.drop_eq_nil_of_le (by simp), List.drop_eq_nil_of_le (by simp; omega)]
theorem fSl_hiT : fSl (.tup (l.map enc)) none (some (k : Int)) = some (.fz (.tup ((l.take k).map enc))) := by
  show some (O.fz (.tup (cutD _ _ _))) = _
  unfold cutD
  rw [HT.sIx_nat, HT.sIx_none, List.length_map, List.map_take, List.drop_zero, Nat.sub_zero]
  congr 3
  by_cases h : k ≤ l.length
  · rw [Nat.min_eq_left h]
  · rw [Nat.min_eq_right (by omega), List.take_of_length_le (by simp), List.take_of_length_le (by simp; omega)]
theorem fSl_loL : fSl (.lst (l.map enc)) (some (k : Int)) none = some (.ol ((l.drop k).map fun x => .fz (enc x))) := by
  have h := fSl_loT (enc := enc) (l := l) (k := k)
  show some (O.ol ((cutD _ _ _).map O.fz)) = _
  have e : cutD (l.map enc) (some (k : Int)) none = (l.drop k).map enc := by
    have h' : some (O.fz (.tup (cutD (l.map enc) (some (k : Int)) none))) = _ := h
    simpa using h'
  rw [e, List.map_map]; rfl
theorem fSl_hiL : fSl (.lst (l.map enc)) none (some (k : Int)) = some (.ol ((l.take k).map fun x => .fz (enc x))) := by
  have h := fSl_hiT (enc := enc) (l := l) (k := k)
  show some (O.ol ((cutD _ _ _).map O.fz)) = _
  have e : cutD (l.map enc) none (some (k : Int)) = (l.take k).map enc := by
    have h' : some (O.fz (.tup (cutD (l.map enc) none (some (k : Int))))) = _ := h
    simpa using h'
  rw [e, List.map_map]; rfl
theorem fAdd_T (h : a.length + b.length ≤ cap) : fAdd [.tup (a.map enc), .tup (b.map enc)] = some (.fz (.tup ((a ++ b).map enc))) := by
  show (if (a.map enc).length + (b.map enc).length ≤ cap then some (O.fz (.tup (a.map enc ++ b.map enc))) else none) = _
  rw [List.length_map, List.length_map, if_pos h, List.map_append]
theorem fAdd_L (h : a.length + b.length ≤ cap) : fAdd [.lst (a.map enc), .lst (b.map enc)] = some (.ol ((a ++ b).map fun x => .fz (enc x))) := by
  show (if (a.map enc).length + (b.map enc).length ≤ cap then some (O.ol ((a.map enc ++ b.map enc).map O.fz)) else none) = _
  rw [List.length_map, List.length_map, if_pos h, ← List.map_append, List.map_map]; rfl
theorem upTo_eq : ∀ (n : Nat) (lo : Nat), upTo lo n = (List.range' lo n).map fun (i : Nat) => D.int i
  | 0, _ => rfl
  | n + 1, lo => by
    show D.int lo :: upTo ((lo : Int) + 1) n = _
    rw [List.range'_succ, List.map_cons, ← upTo_eq n (lo + 1)]; rfl
theorem upTo0 (n : Nat) : upTo 0 (n : Int).toNat = (List.range n).map fun (i : Nat) => D.int i := by
  rw [Int.toNat_natCast, List.range_eq_range']; exact upTo_eq n 0
theorem z_rng1 (h : as S = some (xs, S1)) (h2 : rsvs xs S1 = some ([.int j], S2)) (hj : small62 j = true) (hd : upTo 0 j.toNat = ds) : iRange1 as S = some (ds, S2) := by
  unfold iRange1; rw [h]; subst hd; simp only [h2, hj, if_true]
theorem small_nat {n : Nat} (h : n ≤ cap) : small62 (n : Int) = true := by
  unfold small62; unfold cap at h; exact decide_eq_true (by omega)
end
theorem z_if' {t : TB} {x y : SS} {S S1 : Env} {b c : Bool} {out : Option Out} (h : t S = some (b, S1)) (hb : b = c) (h2 : (if c = true then x S1 else y S1) = out) : sIf t x y S = out := by
  subst hb
  cases b with
  | true => exact (if_t h).trans h2
  | false => exact (if_f h).trans h2
theorem z_no {t : TB} {x y : SS} {S S1 : Env} {b : Bool} {out : Option Out} (h : t S = some (b, S1)) (hb : b = false) (h2 : y S1 = out) : sIf t x y S = out := by subst hb; exact (if_f h).trans h2
theorem z_yes {t : TB} {x y : SS} {S S1 : Env} {b : Bool} {out : Option Out} (h : t S = some (b, S1)) (hb : b = true) (h2 : x S1 = out) : sIf t x y S = out := by subst hb; exact (if_t h).trans h2
theorem z_eno {t : TB} {x y : EE} {S S1 : Env} {b : Bool} {out : Option (O × Env)} (h : t S = some (b, S1)) (hb : b = false) (h2 : y S1 = out) : eIf t x y S = out := by subst hb; exact z_iff h h2
theorem z_eyes {t : TB} {x y : EE} {S S1 : Env} {b : Bool} {out : Option (O × Env)} (h : t S = some (b, S1)) (hb : b = true) (h2 : x S1 = out) : eIf t x y S = out := by subst hb; exact z_ift h h2
/-- a loop that looks for one; j: what its own names hold -/
theorem z_search {α J : Type} {tg : Tg} {it : IE} {b : SS} {S : Env} {enc : α → D} {L : List α} {hit : α → Bool} {o : O} {E : J → Env} {j0 : J} (hi : it S = some (L.map enc, E j0))
    (hb : ∀ x ∈ L, ∀ j, ∃ S1 j', bindT tg (enc x) (E j) = some S1 ∧ b S1 = some (if hit x = true then .rt o (E j') else .nx (E j'))) : ∃ j', sFor tg it b S = some (if L.any hit = true then .rt o (E j') else .nx (E j')) := by
  unfold sFor
  rw [hi]
  have go : ∀ (M : List α), (∀ x ∈ M, x ∈ L) → ∀ j, ∃ j', forGo tg b (M.map enc) (E j) = some (if M.any hit = true then .rt o (E j') else .nx (E j')) := by
    intro M
    induction M with
    | nil => intro _ j; exact ⟨j, rfl⟩
    | cons a M ih =>
      intro hM j
      obtain ⟨S1, j', h1, h2⟩ := hb a (hM a List.mem_cons_self) j
      rw [List.map_cons]
      unfold forGo
      rw [h1]
      cases ha : hit a with
      | true =>
        rw [ha, if_pos rfl] at h2
        refine ⟨j', ?_⟩
        simp only [h2, List.any_cons, ha, Bool.true_or, if_true]
      | false =>
        rw [ha, if_neg Bool.false_ne_true] at h2
        obtain ⟨j2, h3⟩ := ih (fun x hx => hM x (List.mem_cons_of_mem _ hx)) j'
        refine ⟨j2, ?_⟩
        simp only [h2, List.any_cons, ha, Bool.false_or]
        exact h3
  exact go L (fun _ h => h) j0
/-- a loop that goes on to its end; k: how many laps were gone -/
theorem z_for {α : Type} {tg : Tg} {it : IE} {b : SS} {S S1 : Env} {enc : α → D} {L : List α} {Inv : Nat → Env → Prop} (hi : it S = some (L.map enc, S1)) (h0 : Inv 0 S1)
    (hb : ∀ x ∈ L, ∀ k S, k < L.length → Inv k S → ∃ S1 S2, bindT tg (enc x) S = some S1 ∧ b S1 = some (.nx S2) ∧ Inv (k + 1) S2) : ∃ S2, sFor tg it b S = some (.nx S2) ∧ Inv L.length S2 := by
  unfold sFor
  rw [hi]
  have go : ∀ (M : List α), (∀ x ∈ M, x ∈ L) → ∀ k S, k + M.length = L.length → Inv k S → ∃ S2, forGo tg b (M.map enc) S = some (.nx S2) ∧ Inv L.length S2 := by
    intro M
    induction M with
    | nil => intro _ k S hk h; exact ⟨S, rfl, by rw [← hk]; exact h⟩
    | cons a M ih =>
      intro hM k S hk h
      rw [List.length_cons] at hk
      obtain ⟨S1, S2, h1, h2, h3⟩ := hb a (hM a List.mem_cons_self) k S (by omega) h
      obtain ⟨S3, h4, h5⟩ := ih (fun x hx => hM x (List.mem_cons_of_mem _ hx)) (k + 1) S2 (by omega) h3
      refine ⟨S3, ?_, h5⟩
      rw [List.map_cons]
      unfold forGo
      rw [h1]
      simp only [h2]
      exact h4
  exact go L (fun _ h => h) 0 S1 (by omega) h0
/-! ### sorted, of texts -/
theorem leD_total : TotalLe leD := by unfold leD dataLe; exact PySem.W.sortLe_total _ _ _
def leS (x y : Str) : Bool := leD (.str x) (.str y)
structure Ordr (ps : List Str) : Prop where
  nd : ps.Nodup
  srt : ps.Pairwise fun x y => leS x y = true
  anti : ∀ x ∈ ps, ∀ y ∈ ps, leS x y = true → leS y x = true → x = y
  ok : ∀ x ∈ ps, PyData.strOk x = true
  lo : 2 ≤ ps.length
  hi : ps.length ≤ 7
def pick (ps l : List Str) : List Str := ps.filter fun p => decide (p ∈ l)
theorem mem_pick {ps l : List Str} (hs : ∀ x ∈ l, x ∈ ps) {x : Str} : x ∈ pick ps l ↔ x ∈ l := by
  unfold pick
  rw [List.mem_filter]
  simp only [decide_eq_true_eq]
  exact ⟨fun h => h.2, fun h => ⟨hs x h, h⟩⟩
theorem srt_pick {ps l : List Str} (P : Ordr ps) (nd : l.Nodup) (hs : ∀ x ∈ l, x ∈ ps) : srtD (l.map D.str) = (pick ps l).map D.str := by
  have T := leD_total
  have pw : ((pick ps l).map D.str).Pairwise (fun x y => leD x y = true) := by
    rw [List.pairwise_map]
    exact (P.srt.filter _).imp fun h => h
  have pm : (pick ps l).Perm l := (List.perm_ext_iff_of_nodup (P.nd.filter _) nd).mpr fun x => mem_pick hs
  refine List.Perm.eq_of_pairwise (le := fun x y => leD x y = true) ?_ (List.pairwise_mergeSort T.trans (fun a b => by have := T.total a b; rcases this with z | z <;> simp [z]) _) pw ((List.mergeSort_perm _ _).trans (pm.symm.map _))
  intro x y hx hy h1 h2
  have hx' := (List.mergeSort_perm (l.map D.str) leD).subset hx
  obtain ⟨x', hx2, rfl⟩ := List.mem_map.mp hx'
  obtain ⟨y', hy2, rfl⟩ := List.mem_map.mp hy
  exact congrArg D.str (P.anti _ (hs _ hx2) _ ((mem_pick hs).mp hy2 |> hs _) h1 h2)
theorem all_str {l : List Str} (h : ∀ x ∈ l, PyData.strOk x = true) (hl : l.length ≤ cap) : srtOk (l.map D.str) = true := by
  unfold srtOk
  have a1 : (l.map D.str).all okD = true := by
    rw [List.all_map, List.all_eq_true]
    intro x hx
    show (PyData.strOk x && decide (0 ≤ 64)) = true
    rw [h x hx]; rfl
  have a2 : ((l.map D.str).all fun d => (l.map D.str).all fun e => PySem.W.alike (py d) (py e)) = true := by
    simp only [List.all_map, List.all_eq_true]
    intro x hx
    exact List.all_eq_true.mpr fun y hy => rfl
  have a3 : (l.map D.str).all notTN = true := by
    simp only [List.all_map, List.all_eq_true]
    intro x hx
    rfl
  rw [a1, a2, a3, List.length_map, decide_eq_true hl]; simp
theorem fSorted_L {ps l : List Str} (P : Ordr ps) (nd : l.Nodup) (hs : ∀ x ∈ l, x ∈ ps) : fSorted [.lst (l.map D.str)] = some (.ol ((pick ps l).map fun x => .fz (.str x))) := by
  have hl : l.length ≤ cap := by
    have a := nd.length_le_of_subset (l₂ := ps) hs
    have b := P.hi
    unfold cap; omega
  show (if srtOk (l.map D.str) = true then _ else none) = _
  rw [if_pos (all_str (fun x hx => P.ok x (hs x hx)) hl), srt_pick P nd hs, List.map_map]; rfl
theorem fSorted_T {ps l : List Str} (P : Ordr ps) (nd : l.Nodup) (hs : ∀ x ∈ l, x ∈ ps) : fSorted [.tup (l.map D.str)] = some (.ol ((pick ps l).map fun x => .fz (.str x))) := fSorted_L P nd hs
theorem eqv_strs : ∀ {a b : List Str}, PyData.eqvAll (pys (a.map D.str)) (pys (b.map D.str)) = decide (a = b)
  | [], [] => rfl
  | [], _ :: _ => rfl
  | _ :: _, [] => rfl
  | x :: a, y :: b => by
    show (PyData.eqv (.str x) (.str y) && PyData.eqvAll (pys (a.map D.str)) (pys (b.map D.str))) = _
    have e : PyData.eqv (.str x) (.str y) = decide (x = y) := eqD_str
    rw [e, eqv_strs]
    by_cases h : x = y
    · subst h; simp
    · simp [h]
theorem fEq_lst {a b : List Str} (h : ∀ x ∈ a, PyData.strOk x = true) (h2 : ∀ x ∈ b, PyData.strOk x = true) : fEq [.lst (a.map D.str), .lst (b.map D.str)] = some (.fz (.bl (decide (a = b)))) := by
  show (if (okD (lst a) && okD (lst b)) = true then some (O.fz (.bl (eqD (lst a) (lst b)))) else none) = _
  rw [okD_lst h, okD_lst h2, if_pos (show (true && true) = true from rfl)]
  have e : eqD (lst a) (lst b) = decide (a = b) := by
    show PyData.eqv (.list _) (.list _) = _
    unfold PyData.eqv
    exact eqv_strs
  rw [e]
theorem pick_eq_iff {ps a b : List Str} (ha : ∀ x ∈ a, x ∈ ps) (hb : ∀ x ∈ b, x ∈ ps) : pick ps a = pick ps b ↔ ∀ x, x ∈ a ↔ x ∈ b := by
  constructor
  · intro h x
    rw [← mem_pick ha, ← mem_pick hb, h]
  · intro h
    unfold pick
    congr 1
    funext p
    exact decide_eq_decide.mpr (h p)
end Pz
set_option Elab.async false
set_option linter.all false
set_option maxRecDepth 100000
set_option maxHeartbeats 1000000
namespace Pz
open PySem PySem.Spec L2
open PyProof.Rows hiding St
local macro_rules
  | `(tactic| infer_instance) => `(tactic| first
    | (with_reducible exact Pz.fIn_ts) | (with_reducible exact Pz.fEq_int) | (with_reducible exact Pz.fNe_int) | (with_reducible exact Pz.fSl_loT) | (with_reducible exact Pz.fSl_hiT) | (with_reducible exact Pz.fSl_loL) | (with_reducible exact Pz.fSl_hiL) | (with_reducible exact Pz.upTo0 _)
    | (with_reducible exact Pz.fIn_ls)
    | (with_reducible exact Pz.fNotIn_ts)
    | (with_reducible exact Pz.fNe_bl)
    | ((with_reducible apply Pz.z_fLen); first | (with_reducible exact List.length_map ..) | exact rfl)
    | ((with_reducible apply Pz.z_fLenT); first | (with_reducible exact List.length_map ..) | exact rfl)
    | ((with_reducible apply Pz.small_nat); assumption)
    | exact rfl)
local macro_rules
  | `(tactic| nofun) => `(tactic| first
    | (with_reducible exact Pz.z_g0)
    | (with_reducible apply Pz.z_gS)
    | (with_reducible assumption)
    | (with_reducible exact Pz.z_s0)
    | (with_reducible apply Pz.z_sS)
    | (with_reducible exact Pz.z_lit)
    | (with_reducible apply Pz.z_var)
    | (with_reducible apply Pz.eBi_val)
    | (with_reducible apply Pz.cons_val)
    | (with_reducible exact Pz.z_anil)
    | (with_reducible apply Pz.var_val)
    | (with_reducible apply Pz.tmp_val)
    | (with_reducible exact Pz.z_r0)
    | (with_reducible apply Pz.z_rS)
    | (with_reducible apply Pz.z_rT)
    | ((with_reducible apply Pz.rsv_ref); (exact rfl); first | (with_reducible exact Pz.z_shfz) | (with_reducible exact Pz.shal_map _ _) | (with_reducible assumption) | exact rfl)
    | ((with_reducible apply Pz.z_rF); (exact rfl); (exact rfl))
    | (with_reducible exact Pz.z_shfz)
    | (with_reducible exact Pz.shal_map _ _)
    | (with_reducible exact Pz.z_frfz)
    | (with_reducible exact Pz.fr_map _ _)
    | (with_reducible apply Pz.z_frol)
    | (with_reducible exact Pz.z_frs0)
    | (with_reducible apply Pz.z_frsS)
    | (with_reducible exact Pz.frs_map _ _)
    | (with_reducible apply Pz.z_tup)
    | (with_reducible apply Pz.z_lst)
    | (with_reducible exact Pz.z_lnil)
    | (with_reducible apply Pz.z_lcons)
    | ((with_reducible apply Pz.z_els2); (exact rfl))
    | (with_reducible apply Pz.els_1)
    | (with_reducible apply Pz.z_lenAt)
    | (with_reducible apply Pz.z_getS)
    | (with_reducible apply Pz.z_atF)
    | (with_reducible exact List.length_map ..)
    | (with_reducible apply Pz.z_sl)
    | (with_reducible exact Pz.z_ev0)
    | (with_reducible apply Pz.z_ev1)
    | (with_reducible apply Pz.z_call)
    | (with_reducible exact Pz.z_l0)
    | ((with_reducible show Pz.lend _ _ _ = _); (apply Pz.z_lT))
    | ((with_reducible show Pz.lend _ _ _ = _); (apply Pz.z_lZ); exact rfl)
    | ((with_reducible show Pz.lend _ _ _ = _); (apply Pz.z_lO); exact rfl; (first | exact rfl | exact Pz.Src.own ‹_›))
    | ((with_reducible show Pz.lend _ _ _ = _); (apply Pz.z_lF); exact rfl)
    | (with_reducible exact Pz.z_b0)
    | ((with_reducible show Pz.giveBack _ _ _ _ = _); (apply Pz.z_bT))
    | ((with_reducible show Pz.giveBack _ _ _ _ = _); (apply Pz.z_bR))
    | ((with_reducible show Pz.giveBack _ _ _ _ = _); (apply Pz.z_bF))
    | (with_reducible apply Pz.tE_val)
    | (with_reducible apply Pz.z_not)
    | (with_reducible apply Pz.z_eT)
    | (with_reducible apply Pz.z_eNot)
    | (with_reducible apply Pz.z_chn)
    | (with_reducible apply Pz.and_val)
    | (with_reducible apply Pz.or_val)
    | (with_reducible apply Pz.z_set)
    | (with_reducible apply Pz.ret_val)
    | (with_reducible apply Pz.z_exp)
    | (with_reducible exact Pz.z_nil)
    | (with_reducible apply Pz.z_par)
    | (with_reducible exact Pz.z_a0)
    | (with_reducible apply Pz.z_aS)
    | (with_reducible apply Pz.z_bnm)
    | (with_reducible apply Pz.z_btp)
    | (with_reducible exact Pz.z_bs0)
    | (with_reducible apply Pz.z_bsS)
    | (with_reducible exact Pz.z_cl0)
    | (with_reducible apply Pz.z_clS)
    | (with_reducible exact Pz.z_pb0)
    | (with_reducible apply Pz.z_pbS)
    | (with_reducible apply Pz.z_rng1)
    | (with_reducible apply Pz.z_ivr)
    | (with_reducible apply Pz.z_ivt)
    | (with_reducible exact Pz.z_itl)
    | (with_reducible exact Pz.z_itt)
    | (with_reducible exact Pz.z_its)
    | (with_reducible apply Pz.z_lcm)
    | (with_reducible apply Pz.z_lcf)
    | intro _
    | infer_instance)
local macro_rules
  | `(tactic| and_intros) => `(tactic| first | (nofun <;> and_intros))
/-! ### things in a drawn order -/
def M_mixed : SS := sSeq (sSet 2 (eBi fList (aCons (aVar 1) (aNil)))) (sRet (eLc (.nm 3) (iRange1 (aCons (aTmp (eEls (eLenAt (.slot 2)) (eBi fLen (aCons (aVar 2) (aNil))))) (aNil))) (tYes) (eM1 2 mPopAt (eCall G_pick [true, true] (aCons (aVar 0) (aCons (aTmp (eEls (eLenAt (.slot 2)) (eBi fLen (aCons (aVar 2) (aNil))))) (aNil))))) [3]))
def G_mixed : Fn := run 4 [true, true] M_mixed
theorem erase_perm {α : Type} : ∀ {R : List α} {k : Nat} (h : k < R.length), (R[k] :: R.eraseIdx k).Perm R
  | [], _, h => by simp at h
  | a :: R, 0, _ => .refl _
  | a :: R, k + 1, h => (List.Perm.swap a _ _).trans ((erase_perm (R := R) (k := k) (by simpa using h)).cons a)
theorem popAt {α : Type} {enc : α → D} {R : List α} {r : Int} (h0 : 0 ≤ r) (h1 : r < R.length) (h2 : R.length ≤ cap) : ∃ a R', mPopAt (R.map fun x => .fz (enc x)) (.fz (.int r)) = some (.fz (enc a), R'.map fun x => .fz (enc x)) ∧ (a :: R').Perm R := by
  obtain ⟨k, rfl⟩ := Int.eq_ofNat_of_zero_le h0
  have hk : k < R.length := by omega
  have e1 : L2.ixN (R.map fun x => O.fz (enc x)).length (k : Int) = some k := by
    unfold L2.ixN
    rw [List.length_map, if_pos (by omega), if_pos h1]; rfl
  refine ⟨R[k], R.eraseIdx k, ?_, erase_perm hk⟩
  show (match L2.ixN (R.map fun x => O.fz (enc x)).length (k : Int) with
    | some j => if small62 k then ((R.map fun x => O.fz (enc x))[j]?).map fun y => (y, (R.map fun x => O.fz (enc x)).eraseIdx j) else none
    | none => none) = _
  rw [e1]
  simp only [small_nat (n := k) (by omega), if_true]
  rw [List.getElem?_map, List.getElem?_eq_getElem hk]
  simp [List.eraseIdx_eq_take_drop_succ]
theorem mixed_go {α : Type} {enc : α → D} {w : O} : ∀ (k n : Nat) (R : List α) (o : O) (ds : List D) (acc : List O), R.length = k → ds.length = k → R.length ≤ cap → Src n o → n + k ≤ 2 ^ 64 → ∃ (o' : O) (M : List α), lcGo (.nm 3) tYes (eM1 2 mPopAt (eCall G_pick [true, true] (aCons (aVar 0) (aCons (aTmp (eEls (eLenAt (.slot 2)) (eBi fLen (aCons (aVar 2) (aNil))))) (aNil))))) [3] ds acc [some o, some w, some (.ol (R.map fun x => .fz (enc x))), none] = some (acc ++ M.map (fun x => .fz (enc x)), [some o', some w, some (.ol []), none]) ∧ M.Perm R ∧ Src (n + k) o'
  | 0, n, R, o, ds, acc, hR, hd, hc, hs, hn => by
    have e1 : R = [] := List.eq_nil_of_length_eq_zero hR
    have e2 : ds = [] := List.eq_nil_of_length_eq_zero hd
    subst e1; subst e2
    exact ⟨o, [], by simp [lcGo], .nil, hs⟩
  | k + 1, n, R, o, [], acc, hR, hd, hc, hs, hn => by simp at hd
  | k + 1, n, R, o, d :: ds, acc, hR, hd, hc, hs, hn => by
    obtain ⟨o1, r, p1, p2, p3, p4⟩ := pick_ok (k := R.length) hs (by omega) (by unfold cap at hc; omega)
    have p4' : r < R.length := by
      unfold mx at p4
      split at p4 <;> omega
    obtain ⟨a, R', q1, q2⟩ := popAt (enc := enc) p3 p4' hc
    have hl := q2.length_eq
    simp only [List.length_cons] at hl
    obtain ⟨o', M, h1, h2, h3⟩ := mixed_go (w := w) (enc := enc) k (n + 1) R' o1 ds (acc ++ [.fz (enc a)]) (by omega) (by simpa using hd) (by omega) p2 (by omega)
    refine ⟨o', a :: M, ?_, (h2.cons a).trans q2, by rw [show n + (k + 1) = n + 1 + k by omega]; exact h3⟩
    unfold lcGo
    have b : bindT (.nm 3) d [some o, some w, some (.ol (R.map fun x => .fz (enc x))), none] = some [some o, some w, some (.ol (R.map fun x => .fz (enc x))), some (.fz d)] := rfl
    rw [b]
    have c : eCall G_pick [true, true] (aCons (aVar 0) (aCons (aTmp (eEls (eLenAt (.slot 2)) (eBi fLen (aCons (aVar 2) (aNil))))) (aNil))) [some o, some w, some (.ol (R.map fun x => .fz (enc x))), some (.fz d)] = some (.fz (.int r), [some o1, some w, some (.ol (R.map fun x => .fz (enc x))), some (.fz d)]) := by
      and_intros
    have e : eM1 2 mPopAt (eCall G_pick [true, true] (aCons (aVar 0) (aCons (aTmp (eEls (eLenAt (.slot 2)) (eBi fLen (aCons (aVar 2) (aNil))))) (aNil)))) [some o, some w, some (.ol (R.map fun x => .fz (enc x))), some (.fz d)] = some (.fz (enc a), [some o1, some w, some (.ol (R'.map fun x => .fz (enc x))), some (.fz d)]) := by
      unfold eM1
      show (match eCall G_pick [true, true] (aCons (aVar 0) (aCons (aTmp (eEls (eLenAt (.slot 2)) (eBi fLen (aCons (aVar 2) (aNil))))) (aNil))) [some o, some w, some (.ol (R.map fun x => .fz (enc x))), some (.fz d)] with
        | some (x, S1) => _
        | none => none) = _
      rw [c]
      show (match mPopAt (R.map fun x => .fz (enc x)) (.fz (.int r)) with
        | some (y, os') => some (y, [some o1, some w, some (O.ol os'), some (O.fz d)])
        | none => none) = _
      rw [q1]
    simp only [tYes, e]
    show lcGo _ _ _ _ ds (acc ++ [.fz (enc a)]) [some o1, some w, some (.ol (R'.map fun x => .fz (enc x))), none] = _
    rw [h1]
    simp
theorem z_lcgo {tg : Tg} {it : IE} {t : TB} {e : EE} {own : List Nat} {S S0 S1 S2 S' : Pz.Env} {ds : List D} {acc : List O} (h1 : it S = some (ds, S1)) (hl : ds.length ≤ cap) (hc : clearS S1 own = S0) (h : lcGo tg t e own ds [] S0 = some (acc, S2)) (hp : putBack S1 S2 own = S') : eLc tg it t e own S = some (.ol acc, S') := by
  unfold eLc
  rw [h1]
  simp only [hl, if_true]
  rw [hc, h]
  simp only [hp]
theorem mixed_ok {α : Type} {enc : α → D} {L : List α} {n : Nat} {o w : O} {d : D} (hs : Src n o) (hn : n + L.length ≤ 2 ^ 64) (hl : L.length ≤ cap) (hw : shal w = some d) (hd : fList [d] = some (.ol (L.map fun x => .fz (enc x)))) :
    ∃ (o' : O) (M : List α), G_mixed [o, w] = some (.ol (M.map fun x => .fz (enc x)), [some o', some w]) ∧ M.Perm L ∧ Src (n + L.length) o' := by
  obtain ⟨o', M, h1, h2, h3⟩ := mixed_go (enc := enc) (w := w) L.length n L o ((List.range L.length).map fun (i : Nat) => D.int i) [] rfl (by simp) hl hs hn
  refine ⟨o', M, ?_, h2, h3⟩
  apply z_run (S0 := [some o, some w, none, none]) rfl
  · apply z_seq (S1 := [some o, some w, some (.ol (L.map fun x => .fz (enc x))), none])
    · and_intros
    · apply ret_val (S1 := [some o', some w, some (.ol []), none])
      have i1 : iRange1 (aCons (aTmp (eEls (eLenAt (.slot 2)) (eBi fLen (aCons (aVar 2) (aNil))))) (aNil)) [some o, some w, some (.ol (L.map fun x => .fz (enc x))), none] = some ((List.range L.length).map fun (i : Nat) => D.int i, [some o, some w, some (.ol (L.map fun x => .fz (enc x))), none]) := by
        and_intros
      have hc : clearS [some o, some w, some (.ol (L.map fun x => .fz (enc x))), none] [3] = [some o, some w, some (.ol (L.map fun x => .fz (enc x))), none] := rfl
      have hp : putBack [some o, some w, some (.ol (L.map fun x => .fz (enc x))), none] [some o', some w, some (.ol []), none] [3] = [some o', some w, some (.ol []), none] := rfl
      exact z_lcgo i1 (by rw [List.length_map, List.length_range]; exact hl) hc h1 hp
  · rfl
end Pz
set_option Elab.async false
set_option linter.all false
set_option maxRecDepth 100000
set_option maxHeartbeats 1000000
namespace Pz
open PySem PySem.Spec PySem.Builtin PySem.Builtin.Str L2
open PyProof.Rows hiding St
/-! ### what may be shown -/
theorem strOk_app {x y : Str} (h : PyData.strOk x = true) (h2 : PyData.strOk y = true) : PyData.strOk (x ++ y) = true := by
  show (x.cps ++ y.cps).all (· < 0x110000) = true
  rw [Array.all_append]
  exact Bool.and_eq_true_iff.mpr ⟨h, h2⟩
theorem char_lt (c : Char) : c.toNat < 0x110000 := by
  have := c.valid
  rcases this with h | h
  · exact Nat.lt_trans h (by decide)
  · exact h.2
theorem reprChar_ok {q c : Nat} (hq : q < 0x110000) (hc : c < 0x110000) : ∀ d ∈ reprChar q c, d < 0x110000 := by
  have hx : ∀ width, ∀ d ∈ (let d := (Nat.toDigits 16 c).map Char.toNat; List.replicate (width - d.length) 48 ++ d), d < 0x110000 := by
    intro width d hd
    rcases List.mem_append.mp hd with h | h
    · rw [(List.mem_replicate.mp h).2]; decide
    · obtain ⟨e, _, rfl⟩ := List.mem_map.mp h
      exact char_lt e
  have two : ∀ a b : Nat, a < 0x110000 → b < 0x110000 → ∀ d ∈ [a, b], d < 0x110000 := by
    intro a b ha hb d hd
    simp only [List.mem_cons, List.not_mem_nil, or_false] at hd
    rcases hd with e | e <;> rw [e] <;> assumption
  have app : ∀ (a b : Nat) (l : List Nat), a < 0x110000 → b < 0x110000 → (∀ d ∈ l, d < 0x110000) → ∀ d ∈ [a, b] ++ l, d < 0x110000 := by
    intro a b l ha hb hl d hd
    rcases List.mem_append.mp hd with h | h
    · exact two a b ha hb d h
    · exact hl d h
  unfold reprChar
  intro d hd
  split at hd
  · exact two _ _ (by decide) hc d hd
  · split at hd
    · exact two _ _ (by decide) (by decide) d hd
    · split at hd
      · exact two _ _ (by decide) (by decide) d hd
      · split at hd
        · exact two _ _ (by decide) (by decide) d hd
        · split at hd
          · rw [List.mem_singleton.mp hd]; exact hc
          · split at hd
            · exact app _ _ _ (by decide) (by decide) (hx 2) d hd
            · split at hd
              · exact app _ _ _ (by decide) (by decide) (hx 4) d hd
              · exact app _ _ _ (by decide) (by decide) (hx 8) d hd
theorem repr_strOk {x : Str} (h : PyData.strOk x = true) : PyData.strOk (reprText x) = true := by
  have hq : reprQuote x < 0x110000 := by
    unfold reprQuote
    split <;> decide
  have go : ∀ (l : List Nat) (acc : Array Nat), (∀ c ∈ l, c < 0x110000) → acc.all (· < 0x110000) = true → (l.foldl (fun out c => out ++ (reprChar (reprQuote x) c).toArray) acc).all (· < 0x110000) = true := by
    intro l
    induction l with
    | nil => intro acc _ h; exact h
    | cons c l ih =>
      intro acc hl ha
      refine ih _ (fun d hd => hl d (List.mem_cons_of_mem _ hd)) ?_
      rw [Array.all_append, ha, Bool.true_and]
      rw [List.all_toArray, List.all_eq_true]
      exact fun d hd => decide_eq_true (reprChar_ok hq (hl c List.mem_cons_self) d hd)
  have hx : ∀ c ∈ x.cps.toList, c < 0x110000 := by
    intro c hc
    have h' : x.cps.all (· < 0x110000) = true := h
    rw [← Array.all_toList, List.all_eq_true] at h'
    exact of_decide_eq_true (h' c hc)
  show ((x.cps.foldl (fun out c => out ++ (reprChar (reprQuote x) c).toArray) #[reprQuote x]).push (reprQuote x)).all (· < 0x110000) = true
  rw [Array.all_push, ← Array.foldl_toList, go _ _ hx (by simp [hq])]
  simp [hq]
theorem textFrom_ok : ∀ (ts : List Str) (k : Nat) (acc : Str), PyData.strOk acc = true → (∀ t ∈ ts, PyData.strOk t = true) → PyData.strOk (textFrom k acc ts) = true
  | [], k, acc, h, _ => h
  | t :: r, k, acc, h, h2 => textFrom_ok r (k + 1) _ (strOk_app (strOk_app h (by split <;> decide +kernel)) (h2 t List.mem_cons_self)) fun x hx => h2 x (List.mem_cons_of_mem _ hx)
theorem join_ok : ∀ (ts : List Str), (∀ t ∈ ts, PyData.strOk t = true) → PyData.strOk (Str.join ", " ts) = true
  | [], _ => by decide +kernel
  | [x], h => h x List.mem_cons_self
  | x :: y :: r, h => by
    show PyData.strOk (x ++ ", " ++ Str.join ", " (y :: r)) = true
    exact strOk_app (strOk_app (h x List.mem_cons_self) (by decide +kernel)) (join_ok (y :: r) fun t ht => h t (List.mem_cons_of_mem _ ht))
structure Sh (d : D) (dep len : Nat) : Prop where
  lay : PyData.canLay0 (py d) = true
  dp : (py d).depth ≤ dep
  sw : (py d).showable = true
  ln : (py d).shown.length ≤ len
  st : PyData.strOk (py d).shown = true
theorem Sh.mono {d : D} {a b a' b' : Nat} (h : Sh d a b) (h1 : a ≤ a') (h2 : b ≤ b') : Sh d a' b' := ⟨h.lay, Nat.le_trans h.dp h1, h.sw, Nat.le_trans h.ln h2, h.st⟩
theorem Sh.okd {d : D} {a b : Nat} (h : Sh d a b) (h1 : a ≤ 64) : okD d = true := by
  show (PyData.canLay0 (py d) && decide ((py d).depth ≤ 64)) = true
  rw [h.lay, decide_eq_true (Nat.le_trans h.dp h1)]; rfl
theorem Sh.repr {d : D} {a b : Nat} (h : Sh d a b) (h1 : a ≤ 64) (h2 : b ≤ cap) : fRepr [d] = some (.fz (.str (py d).shown)) := by
  have e : shOk d = true := by
    unfold shOk
    rw [h.okd h1, h.sw, decide_eq_true (Nat.le_trans h.ln h2)]; rfl
  show (if shOk d = true then _ else none) = _
  rw [if_pos e]
theorem Sh.bl {b : Bool} : Sh (.bl b) 0 5 := by cases b <;> exact ⟨rfl, Nat.le_refl _, rfl, by decide +kernel, by decide +kernel⟩
theorem Sh.non : Sh .non 0 4 := ⟨rfl, Nat.le_refl _, rfl, by decide +kernel, by decide +kernel⟩
theorem Sh.str {x : Str} {n : Nat} (h : PyData.strOk x = true) (hn : (reprText x).length ≤ n) : Sh (.str x) 0 n := ⟨h, Nat.le_refl _, rfl, hn, repr_strOk h⟩
theorem textFrom_le : ∀ (ts : List Str) (k : Nat) (acc : Str), (textFrom k acc ts).length ≤ acc.length + piled ts
  | [], k, acc => by show acc.length ≤ _; omega
  | t :: r, k, acc => by
    have h := textFrom_le r (k + 1) (acc ++ (if k > 0 then ", " else "" : String) ++ t)
    have e : (acc ++ (if k > 0 then ", " else "" : String) ++ t).length ≤ acc.length + 2 + t.length := by
      rw [strLen_append, strLen_append]
      split
      · exact Nat.le_refl _
      · show acc.length + 0 + t.length ≤ _; omega
    show (textFrom (k + 1) _ r).length ≤ _
    have e2 : piled (t :: r) = t.length + 2 + piled r := by simp [piled]
    omega
theorem piled_le {m : Nat} : ∀ {ts : List Str}, (∀ t ∈ ts, t.length ≤ m) → piled ts ≤ ts.length * (m + 2)
  | [], _ => by simp [piled]
  | t :: r, h => by
    have a := piled_le (ts := r) fun x hx => h x (List.mem_cons_of_mem _ hx)
    have b := h t List.mem_cons_self
    have e2 : piled (t :: r) = t.length + 2 + piled r := by simp [piled]
    rw [e2, List.length_cons, Nat.succ_mul]
    omega
theorem list_le {m : Nat} {ts : List Str} (h : ∀ t ∈ ts, t.length ≤ m) : (listText ts).length ≤ ts.length * (m + 2) + 2 := by
  have a := piled_le h
  have b := textFrom_le ts 0 "["
  unfold listText
  rw [strLen_append]
  show _ + 1 ≤ _
  have c : (Str.ofString "[").length = 1 := rfl
  omega
theorem tuple_le {m : Nat} {ts : List Str} (h : ∀ t ∈ ts, t.length ≤ m) : (tupleText ts).length ≤ ts.length * (m + 2) + 3 := by
  have a := piled_le h
  have j : (Str.join ", " ts).length ≤ piled ts := by
    by_cases e : ts = []
    · subst e; exact Nat.zero_le _
    · have := join_length_add ts e; omega
  unfold tupleText
  rw [strLen_append, strLen_append]
  have c : (Str.ofString "(").length = 1 := rfl
  split
  · show _ + 2 ≤ _; omega
  · show _ + 1 ≤ _; omega
theorem shs_all {a b : Nat} : ∀ {ds : List D}, (∀ d ∈ ds, Sh d a b) → PyData.canLayAll0 (pys ds) = true ∧ PyData.depthAll (pys ds) ≤ a ∧ PyData.showableAll (pys ds) = true ∧ (PyData.shownAll (pys ds)).length = ds.length ∧ (∀ t ∈ PyData.shownAll (pys ds), t.length ≤ b) ∧ ∀ t ∈ PyData.shownAll (pys ds), PyData.strOk t = true
  | [], _ => ⟨rfl, Nat.zero_le _, rfl, rfl, (fun _ h => nomatch h), (fun _ h => nomatch h)⟩
  | d :: ds, h => by
    obtain ⟨h1, h2, h3, h4, h5, h6⟩ := shs_all (ds := ds) fun x hx => h x (List.mem_cons_of_mem _ hx)
    have k := h d List.mem_cons_self
    refine ⟨?_, ?_, ?_, ?_, ?_, ?_⟩
    · show (PyData.canLay0 (py d) && PyData.canLayAll0 (pys ds)) = true
      rw [k.lay, h1]; rfl
    · show max (py d).depth (PyData.depthAll (pys ds)) ≤ a
      have := k.dp; omega
    · show ((py d).showable && PyData.showableAll (pys ds)) = true
      rw [k.sw, h3]; rfl
    · show (PyData.shown (py d) :: PyData.shownAll (pys ds)).length = _
      rw [List.length_cons, h4]; rfl
    · intro t ht
      have ht' : t ∈ PyData.shown (py d) :: PyData.shownAll (pys ds) := ht
      rcases List.mem_cons.mp ht' with e | ht'
      · rw [e]; exact k.ln
      · exact h5 t ht'
    · intro t ht
      have ht' : t ∈ PyData.shown (py d) :: PyData.shownAll (pys ds) := ht
      rcases List.mem_cons.mp ht' with e | ht'
      · rw [e]; exact k.st
      · exact h6 t ht'
theorem Sh.lst {ds : List D} {a b m : Nat} (h : ∀ d ∈ ds, Sh d a b) (hm : ds.length ≤ m) : Sh (.lst ds) (a + 1) (m * (b + 2) + 2) := by
  obtain ⟨h1, h2, h3, h4, h5, h6⟩ := shs_all h
  refine ⟨h1, ?_, h3, ?_, ?_⟩
  · show PyData.depthAll (pys ds) + 1 ≤ _; omega
  · show (listText (PyData.shownAll (pys ds))).length ≤ _
    have := list_le h5
    rw [h4] at this
    exact Nat.le_trans this (Nat.add_le_add_right (Nat.mul_le_mul_right _ hm) _)
  · show PyData.strOk (listText (PyData.shownAll (pys ds))) = true
    exact strOk_app (textFrom_ok _ _ _ (by decide +kernel) h6) (by decide +kernel)
theorem Sh.tup {ds : List D} {a b m : Nat} (h : ∀ d ∈ ds, Sh d a b) (hm : ds.length ≤ m) : Sh (.tup ds) (a + 1) (m * (b + 2) + 3) := by
  obtain ⟨h1, h2, h3, h4, h5, h6⟩ := shs_all h
  refine ⟨h1, ?_, h3, ?_, ?_⟩
  · show PyData.depthAll (pys ds) + 1 ≤ _; omega
  · show (tupleText (PyData.shownAll (pys ds))).length ≤ _
    have := tuple_le h5
    rw [h4] at this
    exact Nat.le_trans this (Nat.add_le_add_right (Nat.mul_le_mul_right _ hm) _)
  · show PyData.strOk (tupleText (PyData.shownAll (pys ds))) = true
    exact strOk_app (strOk_app (by decide +kernel) (join_ok _ h6)) (by split <;> decide +kernel)
/-- the reprs of equals are not unlike -/
theorem Sh.ne {d : D} {a b : Nat} (h : Sh d a b) : fNe [.str (py d).shown, .str (py d).shown] = some (.fz (.bl false)) := by
  show (if (okD (.str (py d).shown) && okD (.str (py d).shown)) = true then some (O.fz (.bl (!eqD (.str (py d).shown) (.str (py d).shown)))) else none) = _
  have e : okD (.str (py d).shown) = true := by
    show (PyData.strOk (py d).shown && decide (0 ≤ 64)) = true
    rw [h.st]; rfl
  rw [e, eqD_str]
  simp
end Pz
set_option Elab.async false
set_option linter.all false
set_option maxRecDepth 100000
set_option maxHeartbeats 4000000
namespace K16
open PySem PySem.Spec L2 Pz
def stm (i : Nat) : Stmt := PySem.Challenge.pw_allpartings_k16_arcs_by_walking.main.body.getD i (.Pass ⟨0, 0, 0, 0⟩)
def c_ALL : D := .tup [.bl true, .bl true, .bl true]
def c_ALONE : D := .tup [.tup [.bl true, .bl false, .bl false], .tup [.bl false, .bl true, .bl false], .tup [.bl false, .bl false, .bl true]]
structure Tx (K : PySem.W.Frag) (mg : Str → Option Value) : Prop where
  t_partings_told : Txt K mg "partings_told" (stm 4)
  t_side_told : Txt K mg "side_told" (stm 5)
  t_sides_told : Txt K mg "sides_told" (stm 6)
  t_is_across : Txt K mg "is_across" (stm 7)
  t_are_nested : Txt K mg "are_nested" (stm 8)
  t_is_barred : Txt K mg "is_barred" (stm 9)
  t_are_three : Txt K mg "are_three" (stm 10)
  t_are_together : Txt K mg "are_together" (stm 11)
  t_is_arcs : Txt K mg "is_arcs" (stm 12)
  t_cut_told : Txt K mg "cut_told" (stm 13)
  t__law_source : Txt K mg "_law_source" (stm 15)
  t__law_pick : Txt K mg "_law_pick" (stm 16)
  t__law_of : Txt K mg "_law_of" (stm 17)
  t__law_mixed : Txt K mg "_law_mixed" (stm 18)
  t__law_all : Txt K mg "_law_all" (stm 19)
  t__law_is_arcs : Txt K mg "_law_is_arcs" (stm 20)
  t__law_cut : Txt K mg "_law_cut" (stm 21)
  t_law : Txt K mg "law" (stm 22)
  b_abs : mg "abs" = none
  b_all : mg "all" = none
  b_enumerate : mg "enumerate" = none
  b_int : mg "int" = none
  b_len : mg "len" = none
  b_list : mg "list" = none
  b_max : mg "max" = none
  b_range : mg "range" = none
  b_repr : mg "repr" = none
  b_sorted : mg "sorted" = none
  b_tuple : mg "tuple" = none
  c_ALL : ∀ fa : Nat → Addr, ∃ v u, mg "ALL" = some u ∧ RelV v u ∧ ∀ F, RepD ⟨K, fa⟩ F c_ALL v
  c_ALONE : ∀ fa : Nat → Addr, ∃ v u, mg "ALONE" = some u ∧ RelV v u ∧ ∀ F, RepD ⟨K, fa⟩ F c_ALONE v
  i_combinations : mg "combinations" = some (.type "itertools.combinations")
def m_partings_told : SS := sSeq (sSet 1 (eLst (lNil))) (sSeq (sFor (.nm 2) (iRange2 (aCons (aTmp (eLit (.int 1))) (aCons (aTmp (eEls (eLenAt (.slot 0)) (eBi fLen (aCons (aVar 0) (aNil))))) (aNil)))) (sExp (eM1 1 mExtend (eBi fComb (aCons (aTmp (eSl (aVar 0) (some (eLit (.int 1))) none)) (aCons (aVar 2) (aNil))))))) (sRet (eBi fTuple (aCons (aVar 1) (aNil)))))
def io_partings_told : List Bool := [true]
def g_partings_told : Fn := run 3 io_partings_told m_partings_told
theorem d_partings_told {P : Program} {w : World} {K : PySem.W.Frag} {mg : Str → Option Value} {base : Heap} {fa : Nat → Addr} (T : Tx K mg) : Def P w K mg base fa "partings_told" g_partings_told 1 1 :=
  def_of (N := ["places", "found", "many"]) (ps := ["places"]) (k := 0) (g := m_partings_told) T.t_partings_told rfl (fun _ _ _ _ _ _ us hl => match us, hl with | [_], _ => rfl)
    (sb_cons (ss_set (i := 1) rfl rfl (se_lst (sl_nil) (by decide)) (fun env h => by cases env; cases h; rfl)) (sb_cons (ss_for (si_range2 (sa_cons (sa_tmp (se_int)) (sa_cons (sa_tmp (se_els (se_lenAt ⟨rfl, T.b_len⟩ (sp_slot (i := 0) rfl (.inl rfl) rfl rfl) (fun _ => rfl) (fun _ => rfl)) (se_len ⟨rfl, T.b_len⟩ (sa_cons (sa_var (i := 0) rfl (.inl rfl) rfl rfl) (sa_nil) (fun _ => rfl)) (fun _ => rfl) (fun _ => rfl)))) (sa_nil) (fun _ => rfl)) (fun _ => rfl)) rfl T.b_range (fun _ => rfl) (fun _ => rfl)) (sg_nm (i := 2) rfl rfl) (sb_one (ss_exp (se_m1 PySem.F.slot_list_extend PySem.F.type_list_extend (fun _ _ => mt_extend) mo_extend (sp_slot (i := 1) rfl (.inl rfl) rfl rfl) (se_cmb ⟨rfl, T.b_list⟩ rfl T.i_combinations (sa_cons (sa_tmp (se_slice (sa_var (i := 0) rfl (.inl rfl) rfl rfl) (sp_some (se_int)) sp_none)) (sa_cons (sa_var (i := 2) rfl (.inl rfl) rfl rfl) (sa_nil) (fun _ => rfl)) (fun _ => rfl)) (fun _ => rfl) (fun _ => rfl) (fun _ => rfl)) ⟨⟨fun _ => rfl, rfl⟩, fun _ => rfl, fun _ => rfl, fun _ => rfl⟩) (fun _ => rfl))) (fun _ _ => rfl)) (sb_one (ss_ret (se_tuple ⟨rfl, T.b_tuple⟩ (sa_cons (sa_var (i := 1) rfl (.inl rfl) rfl rfl) (sa_nil) (fun _ => rfl)) (fun _ => rfl) (fun _ => rfl)))))) rfl (by decide) rfl rfl
def m_side_told : SS := sSeq (sSet 2 (e2 fInA (aTmp (eEls (eAt (.sub (.slot 0) (qLit (.int 0)))) (e2 fIdx (aVar 0) (aTmp (eLit (.int 0)))))) (aVar 1))) (sRet (eBi fTuple (aCons (aTmp (eLc (.nm 3) (iVal (aVar 0)) (tE (e2 fNe (aTmp (e2 fInA (aVar 3) (aVar 1))) (aVar 2))) (eVar 3) [3])) (aNil))))
def io_side_told : List Bool := [true, true]
def g_side_told : Fn := run 4 io_side_told m_side_told
theorem d_side_told {P : Program} {w : World} {K : PySem.W.Frag} {mg : Str → Option Value} {base : Heap} {fa : Nat → Addr} (T : Tx K mg) : Def P w K mg base fa "side_told" g_side_told 2 1 :=
  def_of (N := ["places", "some", "is_other", "place"]) (ps := ["places", "some"]) (k := 0) (g := m_side_told) T.t_side_told rfl (fun _ _ _ _ _ _ us hl => match us, hl with | [_, _], _ => rfl)
    (sb_cons (ss_set (i := 2) rfl rfl (se_in (sa_tmp (se_els (se_at (sp_sub (sp_slot (i := 0) rfl (.inl rfl) rfl rfl) (sq_int) (fun _ _ => rfl) (fun _ _ => rfl))) (se_idx (sa_var (i := 0) rfl (.inl rfl) rfl rfl) (sa_tmp (se_int)) (fun _ _ => rfl) (fun _ _ => rfl)))) (sa_var (i := 1) rfl (.inr (.inl rfl)) rfl rfl) (by with_unfolding_all rfl)) (fun env h => by cases env; cases h; rfl)) (sb_one (ss_ret (se_tuple ⟨rfl, T.b_tuple⟩ (sa_cons (sa_tmp (se_lc (own := [("place", 3)]) (si_val (sa_var (i := 0) rfl (.inl rfl) rfl rfl)) (sg_nm (i := 3) rfl rfl) (sts_one (st_ne (sa_tmp (se_in (sa_var (i := 3) rfl (.inl rfl) rfl rfl) (sa_var (i := 1) rfl (.inr (.inl rfl)) rfl rfl) (by with_unfolding_all rfl))) (sa_var (i := 2) rfl (.inr (.inl rfl)) rfl rfl))) (se_var (i := 3) rfl (.inl rfl) rfl rfl) rfl (by decide) (by decide) (fun _ _ => rfl))) (sa_nil) (fun _ => rfl)) (fun _ => rfl) (fun _ => rfl))))) rfl (by decide) rfl rfl
def m_sides_told : SS := sRet (eTup (lCons (eVar 1) (lCons (eBi fTuple (aCons (aTmp (eLc (.nm 2) (iVal (aVar 0)) (tE (e2 fNotInA (aVar 2) (aVar 1))) (eVar 2) [2])) (aNil))) (lNil))))
def io_sides_told : List Bool := [true, true]
def g_sides_told : Fn := run 3 io_sides_told m_sides_told
theorem d_sides_told {P : Program} {w : World} {K : PySem.W.Frag} {mg : Str → Option Value} {base : Heap} {fa : Nat → Addr} (T : Tx K mg) : Def P w K mg base fa "sides_told" g_sides_told 2 1 :=
  def_of (N := ["places", "parting", "place"]) (ps := ["places", "parting"]) (k := 0) (g := m_sides_told) T.t_sides_told rfl (fun _ _ _ _ _ _ us hl => match us, hl with | [_, _], _ => rfl)
    (sb_one (ss_ret (se_tup (sl_cons (se_var (i := 1) rfl (.inr (.inl rfl)) rfl rfl) (sl_cons (se_tuple ⟨rfl, T.b_tuple⟩ (sa_cons (sa_tmp (se_lc (own := [("place", 2)]) (si_val (sa_var (i := 0) rfl (.inl rfl) rfl rfl)) (sg_nm (i := 2) rfl rfl) (sts_one (st_notIn (sa_var (i := 2) rfl (.inl rfl) rfl rfl) (sa_var (i := 1) rfl (.inr (.inl rfl)) rfl rfl) (by with_unfolding_all rfl))) (se_var (i := 2) rfl (.inl rfl) rfl rfl) rfl (by decide) (by decide) (fun _ _ => rfl))) (sa_nil) (fun _ => rfl)) (fun _ => rfl) (fun _ => rfl)) (sl_nil) (fun _ => rfl)) (fun _ => rfl)) (by decide)))) rfl (by decide) rfl rfl
def m_is_across : SS := sRet (e2 fNe (aTmp (e2 fInA (aVar 1) (aVar 0))) (aTmp (e2 fInA (aVar 2) (aVar 0))))
def io_is_across : List Bool := [true, true, true]
def g_is_across : Fn := run 3 io_is_across m_is_across
theorem d_is_across {P : Program} {w : World} {K : PySem.W.Frag} {mg : Str → Option Value} {base : Heap} {fa : Nat → Addr} (T : Tx K mg) : Def P w K mg base fa "is_across" g_is_across 3 1 :=
  def_of (N := ["parting", "one", "other"]) (ps := ["parting", "one", "other"]) (k := 0) (g := m_is_across) T.t_is_across rfl (fun _ _ _ _ _ _ us hl => match us, hl with | [_, _, _], _ => rfl)
    (sb_one (ss_ret (se_ne (sa_tmp (se_in (sa_var (i := 1) rfl (.inl rfl) rfl rfl) (sa_var (i := 0) rfl (.inl rfl) rfl rfl) (by with_unfolding_all rfl))) (sa_tmp (se_in (sa_var (i := 2) rfl (.inl rfl) rfl rfl) (sa_var (i := 0) rfl (.inl rfl) rfl rfl) (by with_unfolding_all rfl)))))) rfl (by decide) rfl rfl
def m_are_nested : SS := sSeq (sFor (.nm 3) (iVal (aTmp (eCall g_sides_told io_sides_told (aCons (aVar 0) (aCons (aVar 1) (aNil)))))) (sFor (.nm 4) (iVal (aTmp (eCall g_sides_told io_sides_told (aCons (aVar 0) (aCons (aVar 2) (aNil)))))) (sIf (tE (e2 fEq (aTmp (eLc (.nm 5) (iVal (aVar 3)) (tE (e2 fInA (aVar 5) (aVar 4))) (eVar 5) [5])) (aTmp (eLst (lNil))))) (sRet (eLit (.bl true))) (sNil)))) (sRet (eLit (.bl false)))
def io_are_nested : List Bool := [true, true, true]
def g_are_nested : Fn := run 6 io_are_nested m_are_nested
theorem d_are_nested {P : Program} {w : World} {K : PySem.W.Frag} {mg : Str → Option Value} {base : Heap} {fa : Nat → Addr} (T : Tx K mg) : Def P w K mg base fa "are_nested" g_are_nested 3 2 :=
  def_of (N := ["places", "one", "other", "side", "late", "place"]) (ps := ["places", "one", "other"]) (k := 1) (g := m_are_nested) T.t_are_nested rfl (fun _ _ _ _ _ _ us hl => match us, hl with | [_, _, _], _ => rfl)
    (sb_cons (ss_for (si_val (sa_tmp (se_call (io := io_sides_told) (Def.cal (d_sides_told T) (Nat.le_of_ble_eq_true rfl) rfl) rfl (sa_cons (sa_var (i := 0) rfl (.inl rfl) rfl rfl) (sa_cons (sa_var (i := 1) rfl (.inl rfl) rfl rfl) (sa_nil) (fun _ => rfl)) (fun _ => rfl)) rfl (fun _ => rfl) (fun _ => rfl) (al_cons (al_cons al_nil))))) (sg_nm (i := 3) rfl rfl) (sb_one (ss_for (si_val (sa_tmp (se_call (io := io_sides_told) (Def.cal (d_sides_told T) (Nat.le_of_ble_eq_true rfl) rfl) rfl (sa_cons (sa_var (i := 0) rfl (.inl rfl) rfl rfl) (sa_cons (sa_var (i := 2) rfl (.inl rfl) rfl rfl) (sa_nil) (fun _ => rfl)) (fun _ => rfl)) rfl (fun _ => rfl) (fun _ => rfl) (al_cons (al_cons al_nil))))) (sg_nm (i := 4) rfl rfl) (sb_one (ss_if (st_eq (sa_tmp (se_lc (own := [("place", 5)]) (si_val (sa_var (i := 3) rfl (.inl rfl) rfl rfl)) (sg_nm (i := 5) rfl rfl) (sts_one (st_in (sa_var (i := 5) rfl (.inl rfl) rfl rfl) (sa_var (i := 4) rfl (.inr (.inl rfl)) rfl rfl) (by with_unfolding_all rfl))) (se_var (i := 5) rfl (.inl rfl) rfl rfl) rfl (by decide) (by decide) (fun _ _ => rfl))) (sa_tmp (se_lst (sl_nil) (by decide)))) (sb_one (ss_ret (se_bl))) (sb_nil))) (fun _ _ => rfl))) (fun _ _ => rfl)) (sb_one (ss_ret (se_bl)))) rfl (by decide) rfl rfl
def m_is_barred : SS := sSeq (sSet 2 (eLc (.nm 3) (iVal (aVar 0)) (tYes) (eTup (lCons (e2 fInA (aVar 3) (aTmp (eEls (eAt (.sub (.slot 1) (qLit (.int 0)))) (e2 fIdx (aVar 1) (aTmp (eLit (.int 0))))))) (lCons (e2 fInA (aVar 3) (aTmp (eEls (eAt (.sub (.slot 1) (qLit (.int 1)))) (e2 fIdx (aVar 1) (aTmp (eLit (.int 1))))))) (lCons (e2 fInA (aVar 3) (aTmp (eEls (eAt (.sub (.slot 1) (qLit (.int 2)))) (e2 fIdx (aVar 1) (aTmp (eLit (.int 2))))))) (lNil))))) [3])) (sRet (eAnd (e2 fInA (aTmp (eLit c_ALL)) (aVar 2)) (eBi fAll (aCons (aTmp (eLc (.nm 4) (iVal (aTmp (eLit c_ALONE))) (tYes) (e2 fInA (aVar 4) (aVar 2)) [4])) (aNil)))))
def io_is_barred : List Bool := [true, true]
def g_is_barred : Fn := run 5 io_is_barred m_is_barred
theorem d_is_barred {P : Program} {w : World} {K : PySem.W.Frag} {mg : Str → Option Value} {base : Heap} {fa : Nat → Addr} (T : Tx K mg) : Def P w K mg base fa "is_barred" g_is_barred 2 1 :=
  def_of (N := ["places", "sides", "rows", "place", "row"]) (ps := ["places", "sides"]) (k := 0) (g := m_is_barred) T.t_is_barred rfl (fun _ _ _ _ _ _ us hl => match us, hl with | [_, _], _ => rfl)
    (sb_cons (ss_set (i := 2) rfl rfl (se_lc (own := [("place", 3)]) (si_val (sa_var (i := 0) rfl (.inl rfl) rfl rfl)) (sg_nm (i := 3) rfl rfl) sts_nil (se_tup (sl_cons (se_in (sa_var (i := 3) rfl (.inl rfl) rfl rfl) (sa_tmp (se_els (se_at (sp_sub (sp_slot (i := 1) rfl (.inr (.inl rfl)) rfl rfl) (sq_int) (fun _ _ => rfl) (fun _ _ => rfl))) (se_idx (sa_var (i := 1) rfl (.inr (.inl rfl)) rfl rfl) (sa_tmp (se_int)) (fun _ _ => rfl) (fun _ _ => rfl)))) (by with_unfolding_all rfl)) (sl_cons (se_in (sa_var (i := 3) rfl (.inl rfl) rfl rfl) (sa_tmp (se_els (se_at (sp_sub (sp_slot (i := 1) rfl (.inr (.inl rfl)) rfl rfl) (sq_int) (fun _ _ => rfl) (fun _ _ => rfl))) (se_idx (sa_var (i := 1) rfl (.inr (.inl rfl)) rfl rfl) (sa_tmp (se_int)) (fun _ _ => rfl) (fun _ _ => rfl)))) (by with_unfolding_all rfl)) (sl_cons (se_in (sa_var (i := 3) rfl (.inl rfl) rfl rfl) (sa_tmp (se_els (se_at (sp_sub (sp_slot (i := 1) rfl (.inr (.inl rfl)) rfl rfl) (sq_int) (fun _ _ => rfl) (fun _ _ => rfl))) (se_idx (sa_var (i := 1) rfl (.inr (.inl rfl)) rfl rfl) (sa_tmp (se_int)) (fun _ _ => rfl) (fun _ _ => rfl)))) (by with_unfolding_all rfl)) (sl_nil) (fun _ => rfl)) (fun _ => rfl)) (fun _ => rfl)) (by decide)) rfl (by decide) (by decide) (fun _ _ => rfl)) (fun env h => by cases env; cases h; rfl)) (sb_one (ss_ret (se_and (se_in (sa_tmp (se_glo ⟨rfl, T.c_ALL fa⟩ rfl)) (sa_var (i := 2) rfl (.inr (.inl rfl)) rfl rfl) (by with_unfolding_all rfl)) (se_one (se_all ⟨rfl, T.b_all⟩ (sa_cons (sa_tmp (se_lc (own := [("row", 4)]) (si_val (sa_tmp (se_glo ⟨rfl, T.c_ALONE fa⟩ rfl))) (sg_nm (i := 4) rfl rfl) sts_nil (se_in (sa_var (i := 4) rfl (.inl rfl) rfl rfl) (sa_var (i := 2) rfl (.inr (.inl rfl)) rfl rfl) (by with_unfolding_all rfl)) rfl (by decide) (by decide) (fun _ _ => rfl))) (sa_nil) (fun _ => rfl)) (fun _ => rfl) (fun _ => rfl))))))) rfl (by decide) rfl rfl
def m_are_three : SS := sSeq (sFor (.nm 4) (iVal (aTmp (eCall g_sides_told io_sides_told (aCons (aVar 0) (aCons (aVar 1) (aNil)))))) (sFor (.nm 5) (iVal (aTmp (eCall g_sides_told io_sides_told (aCons (aVar 0) (aCons (aVar 2) (aNil)))))) (sFor (.nm 6) (iVal (aTmp (eCall g_sides_told io_sides_told (aCons (aVar 0) (aCons (aVar 3) (aNil)))))) (sIf (tE (eCall g_is_barred io_is_barred (aCons (aVar 0) (aCons (aTmp (eTup (lCons (eVar 4) (lCons (eVar 5) (lCons (eVar 6) (lNil)))))) (aNil))))) (sRet (eLit (.bl false))) (sNil))))) (sRet (eLit (.bl true)))
def io_are_three : List Bool := [true, true, true, true]
def g_are_three : Fn := run 7 io_are_three m_are_three
theorem d_are_three {P : Program} {w : World} {K : PySem.W.Frag} {mg : Str → Option Value} {base : Heap} {fa : Nat → Addr} (T : Tx K mg) : Def P w K mg base fa "are_three" g_are_three 4 2 :=
  def_of (N := ["places", "one", "other", "third", "side", "late", "last"]) (ps := ["places", "one", "other", "third"]) (k := 1) (g := m_are_three) T.t_are_three rfl (fun _ _ _ _ _ _ us hl => match us, hl with | [_, _, _, _], _ => rfl)
    (sb_cons (ss_for (si_val (sa_tmp (se_call (io := io_sides_told) (Def.cal (d_sides_told T) (Nat.le_of_ble_eq_true rfl) rfl) rfl (sa_cons (sa_var (i := 0) rfl (.inl rfl) rfl rfl) (sa_cons (sa_var (i := 1) rfl (.inl rfl) rfl rfl) (sa_nil) (fun _ => rfl)) (fun _ => rfl)) rfl (fun _ => rfl) (fun _ => rfl) (al_cons (al_cons al_nil))))) (sg_nm (i := 4) rfl rfl) (sb_one (ss_for (si_val (sa_tmp (se_call (io := io_sides_told) (Def.cal (d_sides_told T) (Nat.le_of_ble_eq_true rfl) rfl) rfl (sa_cons (sa_var (i := 0) rfl (.inl rfl) rfl rfl) (sa_cons (sa_var (i := 2) rfl (.inl rfl) rfl rfl) (sa_nil) (fun _ => rfl)) (fun _ => rfl)) rfl (fun _ => rfl) (fun _ => rfl) (al_cons (al_cons al_nil))))) (sg_nm (i := 5) rfl rfl) (sb_one (ss_for (si_val (sa_tmp (se_call (io := io_sides_told) (Def.cal (d_sides_told T) (Nat.le_of_ble_eq_true rfl) rfl) rfl (sa_cons (sa_var (i := 0) rfl (.inl rfl) rfl rfl) (sa_cons (sa_var (i := 3) rfl (.inl rfl) rfl rfl) (sa_nil) (fun _ => rfl)) (fun _ => rfl)) rfl (fun _ => rfl) (fun _ => rfl) (al_cons (al_cons al_nil))))) (sg_nm (i := 6) rfl rfl) (sb_one (ss_if (st_val (se_call (io := io_is_barred) (Def.cal (d_is_barred T) (Nat.le_of_ble_eq_true rfl) rfl) rfl (sa_cons (sa_var (i := 0) rfl (.inl rfl) rfl rfl) (sa_cons (sa_tmp (se_tup (sl_cons (se_var (i := 4) rfl (.inl rfl) rfl rfl) (sl_cons (se_var (i := 5) rfl (.inl rfl) rfl rfl) (sl_cons (se_var (i := 6) rfl (.inl rfl) rfl rfl) (sl_nil) (fun _ => rfl)) (fun _ => rfl)) (fun _ => rfl)) (by decide))) (sa_nil) (fun _ => rfl)) (fun _ => rfl)) rfl (fun _ => rfl) (fun _ => rfl) (al_cons (al_cons al_nil))) (fun _ _ => rfl)) (sb_one (ss_ret (se_bl))) (sb_nil))) (fun _ _ => rfl))) (fun _ _ => rfl))) (fun _ _ => rfl)) (sb_one (ss_ret (se_bl)))) rfl (by decide) rfl rfl
def m_are_together : SS := sSeq (sIf (tE (e2 fGt (aTmp (e2 fMulI (aTmp (eLit (.int 2))) (aTmp (eEls (eLenAt (.slot 1)) (eBi fLen (aCons (aVar 1) (aNil))))))) (aTmp (e2 fMulI (aTmp (eEls (eLenAt (.slot 0)) (eBi fLen (aCons (aVar 0) (aNil))))) (aTmp (e2 fSub (aTmp (eEls (eLenAt (.slot 0)) (eBi fLen (aCons (aVar 0) (aNil))))) (aTmp (eLit (.int 1))))))))) (sRet (eLit (.bl false))) (sNil)) (sSeq (sFor (.tp [.nm 2, .nm 3, .nm 4]) (iVal (aTmp (eBi fComb (aCons (aVar 1) (aCons (aTmp (eLit (.int 3))) (aNil)))))) (sIf (tNot (tE (eCall g_are_three io_are_three (aCons (aVar 0) (aCons (aVar 2) (aCons (aVar 3) (aCons (aVar 4) (aNil)))))))) (sRet (eLit (.bl false))) (sNil))) (sRet (eLit (.bl true))))
def io_are_together : List Bool := [true, true]
def g_are_together : Fn := run 5 io_are_together m_are_together
theorem d_are_together {P : Program} {w : World} {K : PySem.W.Frag} {mg : Str → Option Value} {base : Heap} {fa : Nat → Addr} (T : Tx K mg) : Def P w K mg base fa "are_together" g_are_together 2 3 :=
  def_of (N := ["places", "partings", "one", "other", "third"]) (ps := ["places", "partings"]) (k := 2) (g := m_are_together) T.t_are_together rfl (fun _ _ _ _ _ _ us hl => match us, hl with | [_, _], _ => rfl)
    (sb_cons (ss_if (st_gt (sa_tmp (se_mul (sa_tmp (se_int)) (sa_tmp (se_els (se_lenAt ⟨rfl, T.b_len⟩ (sp_slot (i := 1) rfl (.inl rfl) rfl rfl) (fun _ => rfl) (fun _ => rfl)) (se_len ⟨rfl, T.b_len⟩ (sa_cons (sa_var (i := 1) rfl (.inl rfl) rfl rfl) (sa_nil) (fun _ => rfl)) (fun _ => rfl) (fun _ => rfl)))))) (sa_tmp (se_mul (sa_tmp (se_els (se_lenAt ⟨rfl, T.b_len⟩ (sp_slot (i := 0) rfl (.inl rfl) rfl rfl) (fun _ => rfl) (fun _ => rfl)) (se_len ⟨rfl, T.b_len⟩ (sa_cons (sa_var (i := 0) rfl (.inl rfl) rfl rfl) (sa_nil) (fun _ => rfl)) (fun _ => rfl) (fun _ => rfl)))) (sa_tmp (se_sub (sa_tmp (se_els (se_lenAt ⟨rfl, T.b_len⟩ (sp_slot (i := 0) rfl (.inl rfl) rfl rfl) (fun _ => rfl) (fun _ => rfl)) (se_len ⟨rfl, T.b_len⟩ (sa_cons (sa_var (i := 0) rfl (.inl rfl) rfl rfl) (sa_nil) (fun _ => rfl)) (fun _ => rfl) (fun _ => rfl)))) (sa_tmp (se_int))))))) (sb_one (ss_ret (se_bl))) (sb_nil)) (sb_cons (ss_for (si_val (sa_tmp (se_cmb ⟨rfl, T.b_list⟩ rfl T.i_combinations (sa_cons (sa_var (i := 1) rfl (.inl rfl) rfl rfl) (sa_cons (sa_tmp (se_int)) (sa_nil) (fun _ => rfl)) (fun _ => rfl)) (fun _ => rfl) (fun _ => rfl) (fun _ => rfl)))) (sg_tp (sgs_cons (sg_nm (i := 2) rfl rfl) (sgs_cons (sg_nm (i := 3) rfl rfl) (sgs_cons (sg_nm (i := 4) rfl rfl) (sgs_nil) (fun _ => rfl)) (fun _ => rfl)) (fun _ => rfl)) (fun _ => rfl) (fun _ => rfl)) (sb_one (ss_if (st_not (st_val (se_call (io := io_are_three) (Def.cal (d_are_three T) (Nat.le_of_ble_eq_true rfl) rfl) rfl (sa_cons (sa_var (i := 0) rfl (.inl rfl) rfl rfl) (sa_cons (sa_var (i := 2) rfl (.inl rfl) rfl rfl) (sa_cons (sa_var (i := 3) rfl (.inl rfl) rfl rfl) (sa_cons (sa_var (i := 4) rfl (.inl rfl) rfl rfl) (sa_nil) (fun _ => rfl)) (fun _ => rfl)) (fun _ => rfl)) (fun _ => rfl)) rfl (fun _ => rfl) (fun _ => rfl) (al_cons (al_cons (al_cons (al_cons al_nil))))) (fun _ _ => rfl))) (sb_one (ss_ret (se_bl))) (sb_nil))) (fun _ _ => rfl)) (sb_one (ss_ret (se_bl))))) rfl (by decide) rfl rfl
def m_is_arcs : SS := sSeq (sSet 2 (eLc (.nm 3) (iVal (aVar 0)) (tYes) (e2 fInA (aVar 3) (aVar 1)) [3])) (sRet (e2 fEq (aTmp (eBi fLen (aCons (aTmp (eLc (.tp [.nm 4, .nm 5]) (iEnL (aVar 2)) (tE (e2 fNe (aVar 5) (aTmp (eEls (eAt (.sub (.slot 2) (qI2 (fun i j => i - j) (qVar 4) (qLit (.int 1))))) (e2 fIdx (aVar 2) (aTmp (e2 fSub (aVar 4) (aTmp (eLit (.int 1)))))))))) (eVar 4) [4, 5])) (aNil)))) (aTmp (eLit (.int 2)))))
def io_is_arcs : List Bool := [true, true]
def g_is_arcs : Fn := run 6 io_is_arcs m_is_arcs
theorem d_is_arcs {P : Program} {w : World} {K : PySem.W.Frag} {mg : Str → Option Value} {base : Heap} {fa : Nat → Addr} (T : Tx K mg) : Def P w K mg base fa "is_arcs" g_is_arcs 2 1 :=
  def_of (N := ["order", "parting", "sides", "place", "k", "is_in"]) (ps := ["order", "parting"]) (k := 0) (g := m_is_arcs) T.t_is_arcs rfl (fun _ _ _ _ _ _ us hl => match us, hl with | [_, _], _ => rfl)
    (sb_cons (ss_set (i := 2) rfl rfl (se_lc (own := [("place", 3)]) (si_val (sa_var (i := 0) rfl (.inl rfl) rfl rfl)) (sg_nm (i := 3) rfl rfl) sts_nil (se_in (sa_var (i := 3) rfl (.inl rfl) rfl rfl) (sa_var (i := 1) rfl (.inr (.inl rfl)) rfl rfl) (by with_unfolding_all rfl)) rfl (by decide) (by decide) (fun _ _ => rfl)) (fun env h => by cases env; cases h; rfl)) (sb_one (ss_ret (se_eq (sa_tmp (se_len ⟨rfl, T.b_len⟩ (sa_cons (sa_tmp (se_lc (own := [("k", 4), ("is_in", 5)]) (si_enL (sa_var (i := 2) rfl (.inr (.inl rfl)) rfl rfl) rfl T.b_enumerate (fun _ => rfl)) (sg_tp (sgs_cons (sg_nm (i := 4) rfl rfl) (sgs_cons (sg_nm (i := 5) rfl rfl) (sgs_nil) (fun _ => rfl)) (fun _ => rfl)) (fun _ => rfl) (fun _ => rfl)) (sts_one (st_ne (sa_var (i := 5) rfl (.inl rfl) rfl rfl) (sa_tmp (se_els (se_at (sp_sub (sp_slot (i := 2) rfl (.inr (.inl rfl)) rfl rfl) (sq_sub (sq_var (i := 4) rfl (.inl rfl) rfl rfl) (sq_int)) (fun _ _ => rfl) (fun _ _ => rfl))) (se_idx (sa_var (i := 2) rfl (.inr (.inl rfl)) rfl rfl) (sa_tmp (se_sub (sa_var (i := 4) rfl (.inl rfl) rfl rfl) (sa_tmp (se_int)))) (fun _ _ => rfl) (fun _ _ => rfl)))))) (se_var (i := 4) rfl (.inl rfl) rfl rfl) rfl (by decide) (by decide) (fun _ _ => rfl))) (sa_nil) (fun _ => rfl)) (fun _ => rfl) (fun _ => rfl))) (sa_tmp (se_int)))))) rfl (by decide) rfl rfl
def m_cut_told : SS := sSeq (sSet 2 (eLc (.nm 3) (iVal (aVar 1)) (tE (e2 fInA (aVar 3) (aVar 0))) (eVar 3) [3])) (sRet (eIf (tChn (fun i j => decide (i < j)) (fun i j => decide (i < j)) (eLit (.int 0)) (eEls (eLenAt (.slot 2)) (eBi fLen (aCons (aVar 2) (aNil)))) (eEls (eLenAt (.slot 1)) (eBi fLen (aCons (aVar 1) (aNil))))) (eCall g_side_told io_side_told (aCons (aVar 1) (aCons (aVar 2) (aNil)))) (eLit .non)))
def io_cut_told : List Bool := [true, true]
def g_cut_told : Fn := run 4 io_cut_told m_cut_told
theorem d_cut_told {P : Program} {w : World} {K : PySem.W.Frag} {mg : Str → Option Value} {base : Heap} {fa : Nat → Addr} (T : Tx K mg) : Def P w K mg base fa "cut_told" g_cut_told 2 2 :=
  def_of (N := ["parting", "places", "inside", "place"]) (ps := ["parting", "places"]) (k := 1) (g := m_cut_told) T.t_cut_told rfl (fun _ _ _ _ _ _ us hl => match us, hl with | [_, _], _ => rfl)
    (sb_cons (ss_setLc (i := 2) rfl rfl rfl rfl rfl (own := [("place", 3)]) (si_val (sa_var (i := 1) rfl (.inl rfl) rfl rfl)) (sg_nm (i := 3) rfl rfl) (sts_one (st_in (sa_var (i := 3) rfl (.inl rfl) rfl rfl) (sa_var (i := 0) rfl (.inr (.inl rfl)) rfl rfl) (by with_unfolding_all rfl))) (se_var (i := 3) rfl (.inl rfl) rfl rfl) rfl (by decide) (by decide) (fun _ _ => rfl)) (sb_one (ss_ret (se_if (st_chn ic_lt ic_lt (se_int) (se_els (se_lenAt ⟨rfl, T.b_len⟩ (sp_slot (i := 2) rfl (.inl rfl) rfl rfl) (fun _ => rfl) (fun _ => rfl)) (se_len ⟨rfl, T.b_len⟩ (sa_cons (sa_var (i := 2) rfl (.inl rfl) rfl rfl) (sa_nil) (fun _ => rfl)) (fun _ => rfl) (fun _ => rfl))) (se_els (se_lenAt ⟨rfl, T.b_len⟩ (sp_slot (i := 1) rfl (.inl rfl) rfl rfl) (fun _ => rfl) (fun _ => rfl)) (se_len ⟨rfl, T.b_len⟩ (sa_cons (sa_var (i := 1) rfl (.inl rfl) rfl rfl) (sa_nil) (fun _ => rfl)) (fun _ => rfl) (fun _ => rfl))) (by with_unfolding_all rfl)) (se_call (io := io_side_told) (Def.cal (d_side_told T) (Nat.le_of_ble_eq_true rfl) rfl) rfl (sa_cons (sa_var (i := 1) rfl (.inl rfl) rfl rfl) (sa_cons (sa_var (i := 2) rfl (.inl rfl) rfl rfl) (sa_nil) (fun _ => rfl)) (fun _ => rfl)) rfl (fun _ => rfl) (fun _ => rfl) (al_cons (al_cons al_nil))) (se_non))))) rfl (by decide) rfl rfl
def m__law_source : SS := sSeq (sSet 1 (eLit (.int 11))) (sSeq (sFor (.nm 2) (iVal (aVar 0)) (sSet 1 (e2 fMod (aTmp (eBi fInt (aCons (aTmp (e2 fAdd (aTmp (e2 fAdd (aTmp (e2 fMulI (aVar 1) (aTmp (eLit (.int 69069))))) (aTmp (e2 fMulI (aVar 2) (aTmp (eLit (.int 31))))))) (aTmp (eLit (.int 5))))) (aNil)))) (aTmp (eLit (.int 2147483629)))))) (sRet (eDct ["cells", "left", "mixed", "turn"] (lCons (e1 fRev (aTmp (eLc (.nm 2) (iVal (aVar 0)) (tYes) (eBi fAbs (aCons (aVar 2) (aNil))) [2]))) (lCons (eLit (.int 1)) (lCons (eVar 1) (lCons (eLit (.int 0)) (lNil))))))))
def io__law_source : List Bool := [true]
def g__law_source : Fn := run 3 io__law_source m__law_source
theorem d__law_source {P : Program} {w : World} {K : PySem.W.Frag} {mg : Str → Option Value} {base : Heap} {fa : Nat → Addr} (T : Tx K mg) : Def P w K mg base fa "_law_source" g__law_source 1 1 :=
  def_of (N := ["script", "mixed", "cell"]) (ps := ["script"]) (k := 0) (g := m__law_source) T.t__law_source rfl (fun _ _ _ _ _ _ us hl => match us, hl with | [_], _ => rfl)
    (sb_cons (ss_set (i := 1) rfl rfl (se_int) (fun env h => by cases env; cases h; rfl)) (sb_cons (ss_for (si_val (sa_var (i := 0) rfl (.inl rfl) rfl rfl)) (sg_nm (i := 2) rfl rfl) (sb_one (ss_set (i := 1) rfl rfl (se_mod (sa_tmp (se_int1 ⟨rfl, T.b_int⟩ (sa_cons (sa_tmp (se_add (sa_tmp (se_add (sa_tmp (se_mul (sa_var (i := 1) rfl (.inl rfl) rfl rfl) (sa_tmp (se_int)))) (sa_tmp (se_mul (sa_var (i := 2) rfl (.inl rfl) rfl rfl) (sa_tmp (se_int)))))) (sa_tmp (se_int)))) (sa_nil) (fun _ => rfl)) (fun _ => rfl) (fun _ => rfl))) (sa_tmp (se_int))) (fun env h => by cases env; cases h; rfl))) (fun _ _ => rfl)) (sb_one (ss_ret (se_dct (kv_cons (se_rev (sa_tmp (se_lc (own := [("cell", 2)]) (si_val (sa_var (i := 0) rfl (.inl rfl) rfl rfl)) (sg_nm (i := 2) rfl rfl) sts_nil (se_abs ⟨rfl, T.b_abs⟩ (sa_cons (sa_var (i := 2) rfl (.inl rfl) rfl rfl) (sa_nil) (fun _ => rfl)) (fun _ => rfl) (fun _ => rfl)) rfl (by decide) (by decide) (fun _ _ => rfl)))) (kv_cons (se_int) (kv_cons (se_var (i := 1) rfl (.inl rfl) rfl rfl) (kv_cons (se_int) (kv_nil))))) rfl rfl (by simp) (by decide) (by decide) (by decide)))))) rfl (by decide) rfl rfl
def m__law_pick : SS := sSeq (sWhile (tAnd (tE (e2 fGt (aVar 1) (aTmp (eLit (.int 1))))) (tAnd (tE (e2 fLt (aTmp (eEls (eAt (.sub (.slot 0) (qLit (.str "left")))) (e2 fIdx (aVar 0) (aTmp (eLit (.str "left")))))) (aTmp (eLit (.int 2))))) (tE (e2 fGt (aTmp (eEls (eLenAt (.sub (.slot 0) (qLit (.str "cells")))) (eBi fLen (aCons (aTmp (eEls (eAt (.sub (.slot 0) (qLit (.str "cells")))) (e2 fIdx (aVar 0) (aTmp (eLit (.str "cells")))))) (aNil))))) (aTmp (eLit (.int 0))))))) (sSetIt (.slot 0) (qLit (.str "left")) (eM0 (.sub (.slot 0) (qLit (.str "cells"))) mPop))) (sSeq (sSet 2 (eEls (eAt (.sub (.slot 0) (qLit (.str "left")))) (e2 fIdx (aVar 0) (aTmp (eLit (.str "left")))))) (sSeq (sIf (tOr (tE (e2 fLt (aVar 1) (aTmp (eLit (.int 2))))) (tE (e2 fGt (aVar 2) (aTmp (eLit (.int 1)))))) (sSeq (sSetIt (.slot 0) (qLit (.str "left")) (e2 fDiv (aVar 2) (aTmp (eBi fMax2 (aCons (aTmp (eLit (.int 1))) (aCons (aVar 1) (aNil))))))) (sRet (e2 fMod (aTmp (eBi fInt (aCons (aVar 2) (aNil)))) (aTmp (eBi fMax2 (aCons (aTmp (eLit (.int 1))) (aCons (aVar 1) (aNil)))))))) (sNil)) (sSeq (sSetIt (.slot 0) (qLit (.str "turn")) (e2 fAdd (aTmp (eEls (eAt (.sub (.slot 0) (qLit (.str "turn")))) (e2 fIdx (aVar 0) (aTmp (eLit (.str "turn")))))) (aTmp (eLit (.int 1))))) (sSeq (sSet 3 (e2 fMod (aTmp (eBi fInt (aCons (aTmp (e2 fAdd (aTmp (eEls (eAt (.sub (.slot 0) (qLit (.str "mixed")))) (e2 fIdx (aVar 0) (aTmp (eLit (.str "mixed")))))) (aTmp (e2 fMulI (aTmp (eEls (eAt (.sub (.slot 0) (qLit (.str "turn")))) (e2 fIdx (aVar 0) (aTmp (eLit (.str "turn")))))) (aTmp (eLit (.int 104729))))))) (aNil)))) (aTmp (eLit (.int 998244353))))) (sSeq (sSet 3 (e2 fMod (aTmp (eBi fInt (aCons (aTmp (e2 fAdd (aTmp (e2 fMulI (aVar 3) (aVar 3))) (aTmp (e2 fMulI (aTmp (eEls (eAt (.sub (.slot 0) (qLit (.str "turn")))) (e2 fIdx (aVar 0) (aTmp (eLit (.str "turn")))))) (aTmp (eLit (.int 17))))))) (aNil)))) (aTmp (eLit (.int 2147483647))))) (sSeq (sSetIt (.slot 0) (qLit (.str "mixed")) (eVar 3)) (sRet (e2 fMod (aTmp (eBi fInt (aCons (aTmp (e2 fDiv (aVar 3) (aTmp (eLit (.int 16))))) (aNil)))) (aVar 1)))))))))
def io__law_pick : List Bool := [true, true]
def g__law_pick : Fn := run 4 io__law_pick m__law_pick
theorem d__law_pick {P : Program} {w : World} {K : PySem.W.Frag} {mg : Str → Option Value} {base : Heap} {fa : Nat → Addr} (T : Tx K mg) : Def P w K mg base fa "_law_pick" g__law_pick 2 1 :=
  def_of (N := ["source", "many", "left", "mixed"]) (ps := ["source", "many"]) (k := 0) (g := m__law_pick) T.t__law_pick rfl (fun _ _ _ _ _ _ us hl => match us, hl with | [_, _], _ => rfl)
    (sb_cons (ss_while (sw_t (sw_and (st_gt (sa_var (i := 1) rfl (.inl rfl) rfl rfl) (sa_tmp (se_int))) (sw_and (st_lt (sa_tmp (se_els (se_at (sp_sub (sp_slot (i := 0) rfl (.inl rfl) rfl rfl) (sq_str) (fun _ _ => rfl) (fun _ _ => rfl))) (se_idx (sa_var (i := 0) rfl (.inl rfl) rfl rfl) (sa_tmp (se_str)) (fun _ _ => rfl) (fun _ _ => rfl)))) (sa_tmp (se_int))) (sw_and1 (st_gt (sa_tmp (se_els (se_lenAt ⟨rfl, T.b_len⟩ (sp_sub (sp_slot (i := 0) rfl (.inl rfl) rfl rfl) (sq_str) (fun _ _ => rfl) (fun _ _ => rfl)) (fun _ => rfl) (fun _ => rfl)) (se_len ⟨rfl, T.b_len⟩ (sa_cons (sa_tmp (se_els (se_at (sp_sub (sp_slot (i := 0) rfl (.inl rfl) rfl rfl) (sq_str) (fun _ _ => rfl) (fun _ _ => rfl))) (se_idx (sa_var (i := 0) rfl (.inl rfl) rfl rfl) (sa_tmp (se_str)) (fun _ _ => rfl) (fun _ _ => rfl)))) (sa_nil) (fun _ => rfl)) (fun _ => rfl) (fun _ => rfl)))) (sa_tmp (se_int))))))) (sb_one (ss_setIt (sp_slot (i := 0) rfl (.inl rfl) rfl rfl) (sq_str) (se_m0 PySem.F.slot_list_pop PySem.F.type_list_pop (fun _ _ => mt_pop) mo_pop (sp_sub (sp_slot (i := 0) rfl (.inl rfl) rfl rfl) (sq_str) (fun _ _ => rfl) (fun _ _ => rfl)) ⟨fun _ => rfl, rfl⟩) (fun _ _ => rfl) (fun _ => rfl) (fun _ => rfl) (fun _ => rfl)))) (sb_cons (ss_set (i := 2) rfl rfl (se_els (se_at (sp_sub (sp_slot (i := 0) rfl (.inl rfl) rfl rfl) (sq_str) (fun _ _ => rfl) (fun _ _ => rfl))) (se_idx (sa_var (i := 0) rfl (.inl rfl) rfl rfl) (sa_tmp (se_str)) (fun _ _ => rfl) (fun _ _ => rfl))) (fun env h => by cases env; cases h; rfl)) (sb_cons (ss_if (sw_t (sw_or (st_lt (sa_var (i := 1) rfl (.inl rfl) rfl rfl) (sa_tmp (se_int))) (sw_or1 (st_gt (sa_var (i := 2) rfl (.inl rfl) rfl rfl) (sa_tmp (se_int)))))) (sb_cons (ss_setIt (sp_slot (i := 0) rfl (.inl rfl) rfl rfl) (sq_str) (se_div (sa_var (i := 2) rfl (.inl rfl) rfl rfl) (sa_tmp (se_max2 ⟨rfl, T.b_max⟩ (sa_cons (sa_tmp (se_int)) (sa_cons (sa_var (i := 1) rfl (.inl rfl) rfl rfl) (sa_nil) (fun _ => rfl)) (fun _ => rfl)) (fun _ => rfl) (fun _ => rfl)))) (fun _ _ => rfl) (fun _ => rfl) (fun _ => rfl) (fun _ => rfl)) (sb_one (ss_ret (se_mod (sa_tmp (se_int1 ⟨rfl, T.b_int⟩ (sa_cons (sa_var (i := 2) rfl (.inl rfl) rfl rfl) (sa_nil) (fun _ => rfl)) (fun _ => rfl) (fun _ => rfl))) (sa_tmp (se_max2 ⟨rfl, T.b_max⟩ (sa_cons (sa_tmp (se_int)) (sa_cons (sa_var (i := 1) rfl (.inl rfl) rfl rfl) (sa_nil) (fun _ => rfl)) (fun _ => rfl)) (fun _ => rfl) (fun _ => rfl))))))) (sb_nil)) (sb_cons (ss_setIt (sp_slot (i := 0) rfl (.inl rfl) rfl rfl) (sq_str) (se_add (sa_tmp (se_els (se_at (sp_sub (sp_slot (i := 0) rfl (.inl rfl) rfl rfl) (sq_str) (fun _ _ => rfl) (fun _ _ => rfl))) (se_idx (sa_var (i := 0) rfl (.inl rfl) rfl rfl) (sa_tmp (se_str)) (fun _ _ => rfl) (fun _ _ => rfl)))) (sa_tmp (se_int))) (fun _ _ => rfl) (fun _ => rfl) (fun _ => rfl) (fun _ => rfl)) (sb_cons (ss_set (i := 3) rfl rfl (se_mod (sa_tmp (se_int1 ⟨rfl, T.b_int⟩ (sa_cons (sa_tmp (se_add (sa_tmp (se_els (se_at (sp_sub (sp_slot (i := 0) rfl (.inl rfl) rfl rfl) (sq_str) (fun _ _ => rfl) (fun _ _ => rfl))) (se_idx (sa_var (i := 0) rfl (.inl rfl) rfl rfl) (sa_tmp (se_str)) (fun _ _ => rfl) (fun _ _ => rfl)))) (sa_tmp (se_mul (sa_tmp (se_els (se_at (sp_sub (sp_slot (i := 0) rfl (.inl rfl) rfl rfl) (sq_str) (fun _ _ => rfl) (fun _ _ => rfl))) (se_idx (sa_var (i := 0) rfl (.inl rfl) rfl rfl) (sa_tmp (se_str)) (fun _ _ => rfl) (fun _ _ => rfl)))) (sa_tmp (se_int)))))) (sa_nil) (fun _ => rfl)) (fun _ => rfl) (fun _ => rfl))) (sa_tmp (se_int))) (fun env h => by cases env; cases h; rfl)) (sb_cons (ss_set (i := 3) rfl rfl (se_mod (sa_tmp (se_int1 ⟨rfl, T.b_int⟩ (sa_cons (sa_tmp (se_add (sa_tmp (se_mul (sa_var (i := 3) rfl (.inl rfl) rfl rfl) (sa_var (i := 3) rfl (.inl rfl) rfl rfl))) (sa_tmp (se_mul (sa_tmp (se_els (se_at (sp_sub (sp_slot (i := 0) rfl (.inl rfl) rfl rfl) (sq_str) (fun _ _ => rfl) (fun _ _ => rfl))) (se_idx (sa_var (i := 0) rfl (.inl rfl) rfl rfl) (sa_tmp (se_str)) (fun _ _ => rfl) (fun _ _ => rfl)))) (sa_tmp (se_int)))))) (sa_nil) (fun _ => rfl)) (fun _ => rfl) (fun _ => rfl))) (sa_tmp (se_int))) (fun env h => by cases env; cases h; rfl)) (sb_cons (ss_setIt (sp_slot (i := 0) rfl (.inl rfl) rfl rfl) (sq_str) (se_var (i := 3) rfl (.inl rfl) rfl rfl) (fun _ _ => rfl) (fun _ => rfl) (fun _ => rfl) (fun _ => rfl)) (sb_one (ss_ret (se_mod (sa_tmp (se_int1 ⟨rfl, T.b_int⟩ (sa_cons (sa_tmp (se_div (sa_var (i := 3) rfl (.inl rfl) rfl rfl) (sa_tmp (se_int)))) (sa_nil) (fun _ => rfl)) (fun _ => rfl) (fun _ => rfl))) (sa_var (i := 1) rfl (.inl rfl) rfl rfl))))))))))) rfl (by decide) rfl rfl
def m__law_of : SS := sRet (e2 fIdx (aVar 1) (aTmp (eCall g__law_pick io__law_pick (aCons (aVar 0) (aCons (aTmp (eEls (eLenAt (.slot 1)) (eBi fLen (aCons (aVar 1) (aNil))))) (aNil))))))
def io__law_of : List Bool := [true, true]
def g__law_of : Fn := run 2 io__law_of m__law_of
theorem d__law_of {P : Program} {w : World} {K : PySem.W.Frag} {mg : Str → Option Value} {base : Heap} {fa : Nat → Addr} (T : Tx K mg) : Def P w K mg base fa "_law_of" g__law_of 2 2 :=
  def_of (N := ["source", "some"]) (ps := ["source", "some"]) (k := 1) (g := m__law_of) T.t__law_of rfl (fun _ _ _ _ _ _ us hl => match us, hl with | [_, _], _ => rfl)
    (sb_one (ss_ret (se_idx (sa_var (i := 1) rfl (.inl rfl) rfl rfl) (sa_tmp (se_call (io := io__law_pick) (Def.cal (d__law_pick T) (Nat.le_of_ble_eq_true rfl) rfl) rfl (sa_cons (sa_var (i := 0) rfl (.inl rfl) rfl rfl) (sa_cons (sa_tmp (se_els (se_lenAt ⟨rfl, T.b_len⟩ (sp_slot (i := 1) rfl (.inl rfl) rfl rfl) (fun _ => rfl) (fun _ => rfl)) (se_len ⟨rfl, T.b_len⟩ (sa_cons (sa_var (i := 1) rfl (.inl rfl) rfl rfl) (sa_nil) (fun _ => rfl)) (fun _ => rfl) (fun _ => rfl)))) (sa_nil) (fun _ => rfl)) (fun _ => rfl)) rfl (fun _ => rfl) (fun _ => rfl) (al_cons (al_cons al_nil)))) (fun _ _ => rfl) (fun _ _ => rfl)))) rfl (by decide) rfl rfl
def m__law_mixed : SS := sSeq (sSet 2 (eBi fList (aCons (aVar 1) (aNil)))) (sRet (eLc (.nm 3) (iRange1 (aCons (aTmp (eEls (eLenAt (.slot 2)) (eBi fLen (aCons (aVar 2) (aNil))))) (aNil))) (tYes) (eM1 2 mPopAt (eCall g__law_pick io__law_pick (aCons (aVar 0) (aCons (aTmp (eEls (eLenAt (.slot 2)) (eBi fLen (aCons (aVar 2) (aNil))))) (aNil))))) [3]))
def io__law_mixed : List Bool := [true, true]
def g__law_mixed : Fn := run 4 io__law_mixed m__law_mixed
theorem d__law_mixed {P : Program} {w : World} {K : PySem.W.Frag} {mg : Str → Option Value} {base : Heap} {fa : Nat → Addr} (T : Tx K mg) : Def P w K mg base fa "_law_mixed" g__law_mixed 2 2 :=
  def_of (N := ["source", "things", "rest", "lap"]) (ps := ["source", "things"]) (k := 1) (g := m__law_mixed) T.t__law_mixed rfl (fun _ _ _ _ _ _ us hl => match us, hl with | [_, _], _ => rfl)
    (sb_cons (ss_set (i := 2) rfl rfl (se_list ⟨rfl, T.b_list⟩ (sa_cons (sa_var (i := 1) rfl (.inl rfl) rfl rfl) (sa_nil) (fun _ => rfl)) (fun _ => rfl) (fun _ => rfl)) (fun env h => by cases env; cases h; rfl)) (sb_one (ss_ret (se_lc (own := [("lap", 3)]) (si_range1 (sa_cons (sa_tmp (se_els (se_lenAt ⟨rfl, T.b_len⟩ (sp_slot (i := 2) rfl (.inr (.inl rfl)) rfl rfl) (fun _ => rfl) (fun _ => rfl)) (se_len ⟨rfl, T.b_len⟩ (sa_cons (sa_var (i := 2) rfl (.inr (.inl rfl)) rfl rfl) (sa_nil) (fun _ => rfl)) (fun _ => rfl) (fun _ => rfl)))) (sa_nil) (fun _ => rfl)) rfl T.b_range (fun _ => rfl)) (sg_nm (i := 3) rfl rfl) sts_nil (se_m1 PySem.F.slot_list_pop PySem.F.type_list_pop (fun _ _ => mt_popAt) mo_popAt (sp_slot (i := 2) rfl (.inr (.inl rfl)) rfl rfl) (se_call (io := io__law_pick) (Def.cal (d__law_pick T) (Nat.le_of_ble_eq_true rfl) rfl) rfl (sa_cons (sa_var (i := 0) rfl (.inr (.inl rfl)) rfl rfl) (sa_cons (sa_tmp (se_els (se_lenAt ⟨rfl, T.b_len⟩ (sp_slot (i := 2) rfl (.inr (.inl rfl)) rfl rfl) (fun _ => rfl) (fun _ => rfl)) (se_len ⟨rfl, T.b_len⟩ (sa_cons (sa_var (i := 2) rfl (.inr (.inl rfl)) rfl rfl) (sa_nil) (fun _ => rfl)) (fun _ => rfl) (fun _ => rfl)))) (sa_nil) (fun _ => rfl)) (fun _ => rfl)) rfl (fun _ => rfl) (fun _ => rfl) (al_cons (al_cons al_nil))) ⟨⟨fun _ => rfl, rfl⟩, fun _ => rfl, fun _ => rfl, fun _ => rfl⟩) rfl (by decide) (by decide) (fun _ _ => rfl))))) rfl (by decide) rfl rfl
def m__law_all : SS := sSeq (sSet 1 (eLst (lCons (eTup (lNil)) (lNil)))) (sSeq (sFor (.nm 2) (iVal (aTmp (eSl (aVar 0) (some (eLit (.int 1))) none))) (sSet 1 (e2 fAdd (aVar 1) (aTmp (eLc (.nm 3) (iVal (aVar 1)) (tYes) (e2 fAdd (aVar 3) (aTmp (eTup (lCons (eVar 2) (lNil))))) [3]))))) (sRet (eLc (.tp [.nm 4, .nm 3]) (iVal (aTmp (eBi fSorted (aCons (aTmp (eLc (.nm 3) (iVal (aVar 1)) (tYes) (eTup (lCons (eEls (eLenAt (.slot 3)) (eBi fLen (aCons (aVar 3) (aNil)))) (lCons (eVar 3) (lNil)))) [3])) (aNil))))) (tE (e2 fGt (aVar 4) (aTmp (eLit (.int 0))))) (eVar 3) [4, 3])))
def io__law_all : List Bool := [true]
def g__law_all : Fn := run 5 io__law_all m__law_all
theorem d__law_all {P : Program} {w : World} {K : PySem.W.Frag} {mg : Str → Option Value} {base : Heap} {fa : Nat → Addr} (T : Tx K mg) : Def P w K mg base fa "_law_all" g__law_all 1 1 :=
  def_of (N := ["places", "found", "place", "side", "many"]) (ps := ["places"]) (k := 0) (g := m__law_all) T.t__law_all rfl (fun _ _ _ _ _ _ us hl => match us, hl with | [_], _ => rfl)
    (sb_cons (ss_set (i := 1) rfl rfl (se_lst (sl_cons (se_tup (sl_nil) (by decide)) (sl_nil) (fun _ => rfl)) (by decide)) (fun env h => by cases env; cases h; rfl)) (sb_cons (ss_for (si_val (sa_tmp (se_slice (sa_var (i := 0) rfl (.inl rfl) rfl rfl) (sp_some (se_int)) sp_none))) (sg_nm (i := 2) rfl rfl) (sb_one (ss_set (i := 1) rfl rfl (se_add (sa_var (i := 1) rfl (.inl rfl) rfl rfl) (sa_tmp (se_lc (own := [("side", 3)]) (si_val (sa_var (i := 1) rfl (.inl rfl) rfl rfl)) (sg_nm (i := 3) rfl rfl) sts_nil (se_add (sa_var (i := 3) rfl (.inl rfl) rfl rfl) (sa_tmp (se_tup (sl_cons (se_var (i := 2) rfl (.inr (.inl rfl)) rfl rfl) (sl_nil) (fun _ => rfl)) (by decide)))) rfl (by decide) (by decide) (fun _ _ => rfl)))) (fun env h => by cases env; cases h; rfl))) (fun _ _ => rfl)) (sb_one (ss_ret (se_lc (own := [("many", 4), ("side", 3)]) (si_val (sa_tmp (se_sorted ⟨rfl, T.b_sorted⟩ (sa_cons (sa_tmp (se_lc (own := [("side", 3)]) (si_val (sa_var (i := 1) rfl (.inl rfl) rfl rfl)) (sg_nm (i := 3) rfl rfl) sts_nil (se_tup (sl_cons (se_els (se_lenAt ⟨rfl, T.b_len⟩ (sp_slot (i := 3) rfl (.inl rfl) rfl rfl) (fun _ => rfl) (fun _ => rfl)) (se_len ⟨rfl, T.b_len⟩ (sa_cons (sa_var (i := 3) rfl (.inl rfl) rfl rfl) (sa_nil) (fun _ => rfl)) (fun _ => rfl) (fun _ => rfl))) (sl_cons (se_var (i := 3) rfl (.inl rfl) rfl rfl) (sl_nil) (fun _ => rfl)) (fun _ => rfl)) (by decide)) rfl (by decide) (by decide) (fun _ _ => rfl))) (sa_nil) (fun _ => rfl)) (fun _ => rfl) (fun _ => rfl)))) (sg_tp (sgs_cons (sg_nm (i := 4) rfl rfl) (sgs_cons (sg_nm (i := 3) rfl rfl) (sgs_nil) (fun _ => rfl)) (fun _ => rfl)) (fun _ => rfl) (fun _ => rfl)) (sts_one (st_gt (sa_var (i := 4) rfl (.inl rfl) rfl rfl) (sa_tmp (se_int)))) (se_var (i := 3) rfl (.inl rfl) rfl rfl) rfl (by decide) (by decide) (fun _ _ => rfl)))))) rfl (by decide) rfl rfl
def m__law_is_arcs : SS := sSeq (sFor (.nm 2) (iRange1 (aCons (aTmp (eEls (eLenAt (.slot 0)) (eBi fLen (aCons (aVar 0) (aNil))))) (aNil))) (sSeq (sSet 3 (e2 fAdd (aTmp (eSl (aVar 0) (some (eVar 2)) none)) (aTmp (eSl (aVar 0) none (some (eVar 2)))))) (sIf (tE (e2 fEq (aTmp (eBi fSorted (aCons (aTmp (eSl (aVar 3) none (some (eEls (eLenAt (.slot 1)) (eBi fLen (aCons (aVar 1) (aNil))))))) (aNil)))) (aTmp (eBi fSorted (aCons (aVar 1) (aNil)))))) (sRet (eLit (.bl true))) (sNil)))) (sRet (eLit (.bl false)))
def io__law_is_arcs : List Bool := [true, true]
def g__law_is_arcs : Fn := run 4 io__law_is_arcs m__law_is_arcs
theorem d__law_is_arcs {P : Program} {w : World} {K : PySem.W.Frag} {mg : Str → Option Value} {base : Heap} {fa : Nat → Addr} (T : Tx K mg) : Def P w K mg base fa "_law_is_arcs" g__law_is_arcs 2 1 :=
  def_of (N := ["order", "side", "k", "turned"]) (ps := ["order", "side"]) (k := 0) (g := m__law_is_arcs) T.t__law_is_arcs rfl (fun _ _ _ _ _ _ us hl => match us, hl with | [_, _], _ => rfl)
    (sb_cons (ss_for (si_range1 (sa_cons (sa_tmp (se_els (se_lenAt ⟨rfl, T.b_len⟩ (sp_slot (i := 0) rfl (.inl rfl) rfl rfl) (fun _ => rfl) (fun _ => rfl)) (se_len ⟨rfl, T.b_len⟩ (sa_cons (sa_var (i := 0) rfl (.inl rfl) rfl rfl) (sa_nil) (fun _ => rfl)) (fun _ => rfl) (fun _ => rfl)))) (sa_nil) (fun _ => rfl)) rfl T.b_range (fun _ => rfl)) (sg_nm (i := 2) rfl rfl) (sb_cons (ss_set (i := 3) rfl rfl (se_add (sa_tmp (se_slice (sa_var (i := 0) rfl (.inl rfl) rfl rfl) (sp_some (se_var (i := 2) rfl (.inl rfl) rfl rfl)) sp_none)) (sa_tmp (se_slice (sa_var (i := 0) rfl (.inl rfl) rfl rfl) sp_none (sp_some (se_var (i := 2) rfl (.inl rfl) rfl rfl))))) (fun env h => by cases env; cases h; rfl)) (sb_one (ss_if (st_eq (sa_tmp (se_sorted ⟨rfl, T.b_sorted⟩ (sa_cons (sa_tmp (se_slice (sa_var (i := 3) rfl (.inl rfl) rfl rfl) sp_none (sp_some (se_els (se_lenAt ⟨rfl, T.b_len⟩ (sp_slot (i := 1) rfl (.inl rfl) rfl rfl) (fun _ => rfl) (fun _ => rfl)) (se_len ⟨rfl, T.b_len⟩ (sa_cons (sa_var (i := 1) rfl (.inl rfl) rfl rfl) (sa_nil) (fun _ => rfl)) (fun _ => rfl) (fun _ => rfl)))))) (sa_nil) (fun _ => rfl)) (fun _ => rfl) (fun _ => rfl))) (sa_tmp (se_sorted ⟨rfl, T.b_sorted⟩ (sa_cons (sa_var (i := 1) rfl (.inl rfl) rfl rfl) (sa_nil) (fun _ => rfl)) (fun _ => rfl) (fun _ => rfl)))) (sb_one (ss_ret (se_bl))) (sb_nil)))) (fun _ _ => rfl)) (sb_one (ss_ret (se_bl)))) rfl (by decide) rfl rfl
def m__law_cut : SS := sSeq (sSet 3 (eLc (.nm 4) (iVal (aVar 2)) (tE (e2 fInA (aVar 4) (aVar 1))) (eVar 4) [4])) (sSeq (sIf (tOr (tE (e2 fEq (aVar 3) (aTmp (eLst (lNil))))) (tE (e2 fEq (aTmp (eEls (eLenAt (.slot 3)) (eBi fLen (aCons (aVar 3) (aNil))))) (aTmp (eEls (eLenAt (.slot 2)) (eBi fLen (aCons (aVar 2) (aNil)))))))) (sRet (eLit .non)) (sNil)) (sRet (eBi fTuple (aCons (aTmp (eLc (.nm 4) (iVal (aVar 2)) (tE (e2 fNe (aTmp (e2 fInA (aVar 4) (aVar 1))) (aTmp (e2 fInA (aTmp (eEls (eAt (.sub (.slot 2) (qLit (.int 0)))) (e2 fIdx (aVar 2) (aTmp (eLit (.int 0)))))) (aVar 1))))) (eVar 4) [4])) (aNil)))))
def io__law_cut : List Bool := [true, true, true]
def g__law_cut : Fn := run 5 io__law_cut m__law_cut
theorem d__law_cut {P : Program} {w : World} {K : PySem.W.Frag} {mg : Str → Option Value} {base : Heap} {fa : Nat → Addr} (T : Tx K mg) : Def P w K mg base fa "_law_cut" g__law_cut 3 1 :=
  def_of (N := ["places", "side", "some", "inside", "place"]) (ps := ["places", "side", "some"]) (k := 0) (g := m__law_cut) T.t__law_cut rfl (fun _ _ _ _ _ _ us hl => match us, hl with | [_, _, _], _ => rfl)
    (sb_cons (ss_setLc (i := 3) rfl rfl rfl rfl rfl (own := [("place", 4)]) (si_val (sa_var (i := 2) rfl (.inr (.inl rfl)) rfl rfl)) (sg_nm (i := 4) rfl rfl) (sts_one (st_in (sa_var (i := 4) rfl (.inl rfl) rfl rfl) (sa_var (i := 1) rfl (.inr (.inl rfl)) rfl rfl) (by with_unfolding_all rfl))) (se_var (i := 4) rfl (.inl rfl) rfl rfl) rfl (by decide) (by decide) (fun _ _ => rfl)) (sb_cons (ss_if (sw_t (sw_or (st_eq (sa_var (i := 3) rfl (.inl rfl) rfl rfl) (sa_tmp (se_lst (sl_nil) (by decide)))) (sw_or1 (st_eq (sa_tmp (se_els (se_lenAt ⟨rfl, T.b_len⟩ (sp_slot (i := 3) rfl (.inl rfl) rfl rfl) (fun _ => rfl) (fun _ => rfl)) (se_len ⟨rfl, T.b_len⟩ (sa_cons (sa_var (i := 3) rfl (.inl rfl) rfl rfl) (sa_nil) (fun _ => rfl)) (fun _ => rfl) (fun _ => rfl)))) (sa_tmp (se_els (se_lenAt ⟨rfl, T.b_len⟩ (sp_slot (i := 2) rfl (.inr (.inl rfl)) rfl rfl) (fun _ => rfl) (fun _ => rfl)) (se_len ⟨rfl, T.b_len⟩ (sa_cons (sa_var (i := 2) rfl (.inr (.inl rfl)) rfl rfl) (sa_nil) (fun _ => rfl)) (fun _ => rfl) (fun _ => rfl)))))))) (sb_one (ss_ret (se_non))) (sb_nil)) (sb_one (ss_ret (se_tuple ⟨rfl, T.b_tuple⟩ (sa_cons (sa_tmp (se_lc (own := [("place", 4)]) (si_val (sa_var (i := 2) rfl (.inr (.inl rfl)) rfl rfl)) (sg_nm (i := 4) rfl rfl) (sts_one (st_ne (sa_tmp (se_in (sa_var (i := 4) rfl (.inl rfl) rfl rfl) (sa_var (i := 1) rfl (.inr (.inl rfl)) rfl rfl) (by with_unfolding_all rfl))) (sa_tmp (se_in (sa_tmp (se_els (se_at (sp_sub (sp_slot (i := 2) rfl (.inr (.inl rfl)) rfl rfl) (sq_int) (fun _ _ => rfl) (fun _ _ => rfl))) (se_idx (sa_var (i := 2) rfl (.inr (.inl rfl)) rfl rfl) (sa_tmp (se_int)) (fun _ _ => rfl) (fun _ _ => rfl)))) (sa_var (i := 1) rfl (.inr (.inl rfl)) rfl rfl) (by with_unfolding_all rfl))))) (se_var (i := 4) rfl (.inl rfl) rfl rfl) rfl (by decide) (by decide) (fun _ _ => rfl))) (sa_nil) (fun _ => rfl)) (fun _ => rfl) (fun _ => rfl)))))) rfl (by decide) rfl rfl
def m_law : SS := sSeq (sSet 1 (eCall g__law_source io__law_source (aCons (aVar 0) (aNil)))) (sSeq (sSet 2 (eCall g__law_of io__law_of (aCons (aVar 1) (aCons (aTmp (eLst (lCons (eTup (lCons (eLit (.str "a")) (lCons (eLit (.str "b")) (lCons (eLit (.str "c")) (lCons (eLit (.str "d")) (lCons (eLit (.str "e")) (lCons (eLit (.str "f")) (lCons (eLit (.str "g")) (lNil))))))))) (lCons (eTup (lCons (eLit (.str "a")) (lCons (eLit (.str "a1")) (lCons (eLit (.str "b10")) (lCons (eLit (.str "b9")) (lCons (eLit (.str "c")) (lCons (eLit (.str "d2")) (lCons (eLit (.str "zz")) (lNil))))))))) (lNil))))) (aNil))))) (sSeq (sSet 3 (eSl (aVar 2) none (some (e2 fAdd (aTmp (eLit (.int 2))) (aTmp (eCall g__law_pick io__law_pick (aCons (aVar 1) (aCons (aTmp (eLit (.int 6))) (aNil))))))))) (sSeq (sSet 4 (eCall g__law_all io__law_all (aCons (aVar 3) (aNil)))) (sSeq (sIf (tE (e2 fNe (aTmp (eBi fRepr (aCons (aTmp (eCall g_partings_told io_partings_told (aCons (aVar 3) (aNil)))) (aNil)))) (aTmp (eBi fRepr (aCons (aTmp (eBi fTuple (aCons (aVar 4) (aNil)))) (aNil)))))) (sRet (eLit (.bl false))) (sNil)) (sSeq (sSet 5 (eBi fTuple (aCons (aTmp (eCall g__law_mixed io__law_mixed (aCons (aVar 1) (aCons (aVar 3) (aNil))))) (aNil)))) (sSeq (sSet 6 (eLc (.nm 9) (iVal (aVar 4)) (tE (eCall g__law_is_arcs io__law_is_arcs (aCons (aVar 5) (aCons (aVar 9) (aNil))))) (eVar 9) [9])) (sSeq (sSet 7 (eCall g__law_pick io__law_pick (aCons (aVar 1) (aCons (aTmp (eEls (eLenAt (.slot 5)) (eBi fLen (aCons (aVar 5) (aNil))))) (aNil))))) (sSeq (sSet 8 (eLst (lCons (e2 fAdd (aTmp (eSl (aVar 5) (some (eVar 7)) none)) (aTmp (eSl (aVar 5) none (some (eVar 7))))) (lCons (e1 fRev (aVar 5)) (lNil))))) (sSeq (sFor (.nm 9) (iVal (aVar 4)) (sSeq (sSet 10 (eBi fTuple (aCons (aTmp (eLc (.nm 21) (iVal (aVar 3)) (tE (e2 fNotInA (aVar 21) (aVar 9))) (eVar 21) [21])) (aNil)))) (sSeq (sIf (tE (e2 fNe (aTmp (eBi fRepr (aCons (aTmp (eLst (lCons (eCall g_side_told io_side_told (aCons (aVar 3) (aCons (aVar 9) (aNil)))) (lCons (eCall g_side_told io_side_told (aCons (aVar 3) (aCons (aVar 10) (aNil)))) (lNil))))) (aNil)))) (aTmp (eBi fRepr (aCons (aTmp (eLst (lCons (eVar 9) (lCons (eVar 9) (lNil))))) (aNil)))))) (sRet (eLit (.bl false))) (sNil)) (sSeq (sIf (tE (e2 fNe (aTmp (eBi fRepr (aCons (aTmp (eLc (.nm 11) (iVal (aTmp (e2 fAdd (aTmp (eLst (lCons (eVar 5) (lNil)))) (aVar 8)))) (tYes) (eCall g_is_arcs io_is_arcs (aCons (aVar 11) (aCons (aVar 9) (aNil)))) [11])) (aNil)))) (aTmp (eBi fRepr (aCons (aTmp (eRep (eLst (lCons (e2 fInA (aVar 9) (aVar 6)) (lNil))) (eLit (.int 3)))) (aNil)))))) (sRet (eLit (.bl false))) (sNil)) (sSeq (sPar [11, 12] (lCons (eCall g__law_of io__law_of (aCons (aVar 1) (aCons (aVar 3) (aNil)))) (lCons (eCall g__law_of io__law_of (aCons (aVar 1) (aCons (aVar 3) (aNil)))) (lNil)))) (sIf (tE (e2 fNe (aTmp (eBi fRepr (aCons (aTmp (eCall g_is_across io_is_across (aCons (aVar 9) (aCons (aVar 11) (aCons (aVar 12) (aNil)))))) (aNil)))) (aTmp (eBi fRepr (aCons (aTmp (e2 fNe (aTmp (e2 fInA (aVar 11) (aVar 9))) (aTmp (e2 fInA (aVar 12) (aVar 9))))) (aNil)))))) (sRet (eLit (.bl false))) (sNil))))))) (sSeq (sIf (tOr (tE (e2 fNe (aTmp (eEls (eLenAt (.slot 6)) (eBi fLen (aCons (aVar 6) (aNil))))) (aTmp (e2 fDiv (aTmp (e2 fMulI (aTmp (eEls (eLenAt (.slot 3)) (eBi fLen (aCons (aVar 3) (aNil))))) (aTmp (e2 fSub (aTmp (eEls (eLenAt (.slot 3)) (eBi fLen (aCons (aVar 3) (aNil))))) (aTmp (eLit (.int 1))))))) (aTmp (eLit (.int 2))))))) (tE (e2 fNotB (aTmp (eCall g_are_together io_are_together (aCons (aVar 3) (aCons (aTmp (eBi fTuple (aCons (aVar 6) (aNil)))) (aNil))))) (aTmp (eLit (.bl true)))))) (sRet (eLit (.bl false))) (sNil)) (sSeq (sSet 13 (eBi fTuple (aCons (aTmp (eSl (aTmp (eCall g__law_mixed io__law_mixed (aCons (aVar 1) (aCons (aVar 6) (aNil))))) none (some (eCall g__law_pick io__law_pick (aCons (aVar 1) (aCons (aTmp (e2 fAdd (aTmp (eEls (eLenAt (.slot 6)) (eBi fLen (aCons (aVar 6) (aNil))))) (aTmp (eLit (.int 1))))) (aNil))))))) (aNil)))) (sSeq (sIf (tE (e2 fNotB (aTmp (eCall g_are_together io_are_together (aCons (aVar 3) (aCons (aVar 13) (aNil))))) (aTmp (eLit (.bl true))))) (sRet (eLit (.bl false))) (sNil)) (sSeq (sSet 14 (eBi fTuple (aCons (aTmp (eBi fSorted (aCons (aTmp (eSl (aTmp (eCall g__law_mixed io__law_mixed (aCons (aVar 1) (aCons (aVar 3) (aNil))))) none (some (e2 fAdd (aTmp (eLit (.int 2))) (aTmp (eCall g__law_pick io__law_pick (aCons (aVar 1) (aCons (aTmp (e2 fSub (aTmp (eEls (eLenAt (.slot 3)) (eBi fLen (aCons (aVar 3) (aNil))))) (aTmp (eLit (.int 1))))) (aNil))))))))) (aNil)))) (aNil)))) (sSeq (sSet 15 (eBi fTuple (aCons (aTmp (eLc (.nm 21) (iVal (aVar 5)) (tE (e2 fInA (aVar 21) (aVar 14))) (eVar 21) [21])) (aNil)))) (sSeq (sFor (.nm 9) (iVal (aVar 4)) (sSeq (sSet 16 (eCall g_cut_told io_cut_told (aCons (aVar 9) (aCons (aVar 14) (aNil))))) (sSeq (sIf (tE (e2 fNe (aTmp (eBi fRepr (aCons (aVar 16) (aNil)))) (aTmp (eBi fRepr (aCons (aTmp (eCall g__law_cut io__law_cut (aCons (aVar 3) (aCons (aVar 9) (aCons (aVar 14) (aNil)))))) (aNil)))))) (sRet (eLit (.bl false))) (sNil)) (sIf (tAnd (tE (e1 fNotN (aVar 16))) (tAnd (tE (e2 fInA (aVar 9) (aVar 6))) (tE (e2 fNotB (aTmp (eCall g_is_arcs io_is_arcs (aCons (aVar 15) (aCons (aVar 16) (aNil))))) (aTmp (eLit (.bl true))))))) (sRet (eLit (.bl false))) (sNil))))) (sSeq (sFor (.nm 17) (iRange1 (aCons (aTmp (eLit (.int 8))) (aNil))) (sSeq (sPar [11, 12] (lCons (eCall g__law_of io__law_of (aCons (aVar 1) (aCons (aVar 4) (aNil)))) (lCons (eCall g__law_of io__law_of (aCons (aVar 1) (aCons (aVar 4) (aNil)))) (lNil)))) (sSeq (sSet 10 (eLc (.nm 9) (iVal (aTmp (eTup (lCons (eVar 11) (lCons (eVar 12) (lNil)))))) (tYes) (eLc (.nm 21) (iVal (aVar 3)) (tE (e2 fNotInA (aVar 21) (aVar 9))) (eVar 21) [21]) [9])) (sSeq (sSet 18 (eLst (lCons (eTup (lCons (eVar 11) (lCons (eVar 12) (lNil)))) (lCons (eTup (lCons (eVar 11) (lCons (eEls (eAt (.sub (.slot 10) (qLit (.int 1)))) (e2 fIdx (aVar 10) (aTmp (eLit (.int 1))))) (lNil)))) (lCons (eTup (lCons (eEls (eAt (.sub (.slot 10) (qLit (.int 0)))) (e2 fIdx (aVar 10) (aTmp (eLit (.int 0))))) (lCons (eVar 12) (lNil)))) (lCons (eTup (lCons (eEls (eAt (.sub (.slot 10) (qLit (.int 0)))) (e2 fIdx (aVar 10) (aTmp (eLit (.int 0))))) (lCons (eEls (eAt (.sub (.slot 10) (qLit (.int 1)))) (e2 fIdx (aVar 10) (aTmp (eLit (.int 1))))) (lNil)))) (lNil))))))) (sSeq (sSet 19 (e2 fNe (aTmp (eLc (.tp [.nm 22, .nm 23]) (iVal (aVar 18)) (tE (e2 fEq (aTmp (eLc (.nm 21) (iVal (aVar 22)) (tE (e2 fInA (aVar 21) (aVar 23))) (eVar 21) [21])) (aTmp (eLst (lNil))))) (eLit (.int 1)) [22, 23])) (aTmp (eLst (lNil))))) (sSeq (sIf (tE (e2 fNe (aTmp (eBi fRepr (aCons (aTmp (eCall g_are_nested io_are_nested (aCons (aVar 3) (aCons (aVar 11) (aCons (aVar 12) (aNil)))))) (aNil)))) (aTmp (eBi fRepr (aCons (aVar 19) (aNil)))))) (sRet (eLit (.bl false))) (sNil)) (sSeq (sSet 20 (eLc (.nm 9) (iVal (aTmp (eTup (lCons (eVar 11) (lCons (eVar 12) (lNil)))))) (tYes) (eCall g_cut_told io_cut_told (aCons (aVar 9) (aCons (aVar 14) (aNil)))) [9])) (sIf (tAnd (tE (eVar 19)) (tAnd (tE (e2 fNotInA (aTmp (eLit .non)) (aVar 20))) (tE (e2 fNotB (aTmp (eCall g_are_nested io_are_nested (aCons (aVar 14) (aCons (aTmp (eEls (eAt (.sub (.slot 20) (qLit (.int 0)))) (e2 fIdx (aVar 20) (aTmp (eLit (.int 0)))))) (aCons (aTmp (eEls (eAt (.sub (.slot 20) (qLit (.int 1)))) (e2 fIdx (aVar 20) (aTmp (eLit (.int 1)))))) (aNil)))))) (aTmp (eLit (.bl true))))))) (sRet (eLit (.bl false))) (sNil))))))))) (sRet (eLit (.bl true)))))))))))))))))))
def io_law : List Bool := [true]
def g_law : Fn := run 24 io_law m_law
theorem d_law {P : Program} {w : World} {K : PySem.W.Frag} {mg : Str → Option Value} {base : Heap} {fa : Nat → Addr} (T : Tx K mg) : Def P w K mg base fa "law" g_law 1 4 :=
  def_of (N := ["script", "source", "pool", "places", "every", "order", "arcs", "k", "others", "side", "rest", "one", "other", "some", "fewer", "late", "cut", "lap", "sides", "nested", "cuts", "place", "a", "b"]) (ps := ["script"]) (k := 3) (g := m_law) T.t_law rfl (fun _ _ _ _ _ _ us hl => match us, hl with | [_], _ => rfl)
    (sb_cons (ss_set (i := 1) rfl rfl (se_call (io := io__law_source) (Def.cal (d__law_source T) (Nat.le_of_ble_eq_true rfl) rfl) rfl (sa_cons (sa_var (i := 0) rfl (.inl rfl) rfl rfl) (sa_nil) (fun _ => rfl)) rfl (fun _ => rfl) (fun _ => rfl) (al_cons al_nil)) (fun env h => by cases env; cases h; rfl)) (sb_cons (ss_set (i := 2) rfl rfl (se_call (io := io__law_of) (Def.cal (d__law_of T) (Nat.le_of_ble_eq_true rfl) rfl) rfl (sa_cons (sa_var (i := 1) rfl (.inl rfl) rfl rfl) (sa_cons (sa_tmp (se_lst (sl_cons (se_tup (sl_cons (se_str) (sl_cons (se_str) (sl_cons (se_str) (sl_cons (se_str) (sl_cons (se_str) (sl_cons (se_str) (sl_cons (se_str) (sl_nil) (fun _ => rfl)) (fun _ => rfl)) (fun _ => rfl)) (fun _ => rfl)) (fun _ => rfl)) (fun _ => rfl)) (fun _ => rfl)) (by decide)) (sl_cons (se_tup (sl_cons (se_str) (sl_cons (se_str) (sl_cons (se_str) (sl_cons (se_str) (sl_cons (se_str) (sl_cons (se_str) (sl_cons (se_str) (sl_nil) (fun _ => rfl)) (fun _ => rfl)) (fun _ => rfl)) (fun _ => rfl)) (fun _ => rfl)) (fun _ => rfl)) (fun _ => rfl)) (by decide)) (sl_nil) (fun _ => rfl)) (fun _ => rfl)) (by decide))) (sa_nil) (fun _ => rfl)) (fun _ => rfl)) rfl (fun _ => rfl) (fun _ => rfl) (al_cons (al_cons al_nil))) (fun env h => by cases env; cases h; rfl)) (sb_cons (ss_set (i := 3) rfl rfl (se_slice (sa_var (i := 2) rfl (.inl rfl) rfl rfl) sp_none (sp_some (se_add (sa_tmp (se_int)) (sa_tmp (se_call (io := io__law_pick) (Def.cal (d__law_pick T) (Nat.le_of_ble_eq_true rfl) rfl) rfl (sa_cons (sa_var (i := 1) rfl (.inl rfl) rfl rfl) (sa_cons (sa_tmp (se_int)) (sa_nil) (fun _ => rfl)) (fun _ => rfl)) rfl (fun _ => rfl) (fun _ => rfl) (al_cons (al_cons al_nil))))))) (fun env h => by cases env; cases h; rfl)) (sb_cons (ss_set (i := 4) rfl rfl (se_call (io := io__law_all) (Def.cal (d__law_all T) (Nat.le_of_ble_eq_true rfl) rfl) rfl (sa_cons (sa_var (i := 3) rfl (.inr (.inl rfl)) rfl rfl) (sa_nil) (fun _ => rfl)) rfl (fun _ => rfl) (fun _ => rfl) (al_cons al_nil)) (fun env h => by cases env; cases h; rfl)) (sb_cons (ss_if (st_ne (sa_tmp (se_repr ⟨rfl, T.b_repr⟩ (sa_cons (sa_tmp (se_call (io := io_partings_told) (Def.cal (d_partings_told T) (Nat.le_of_ble_eq_true rfl) rfl) rfl (sa_cons (sa_var (i := 3) rfl (.inr (.inl rfl)) rfl rfl) (sa_nil) (fun _ => rfl)) rfl (fun _ => rfl) (fun _ => rfl) (al_cons al_nil))) (sa_nil) (fun _ => rfl)) (fun _ => rfl) (fun _ => rfl))) (sa_tmp (se_repr ⟨rfl, T.b_repr⟩ (sa_cons (sa_tmp (se_tuple ⟨rfl, T.b_tuple⟩ (sa_cons (sa_var (i := 4) rfl (.inl rfl) rfl rfl) (sa_nil) (fun _ => rfl)) (fun _ => rfl) (fun _ => rfl))) (sa_nil) (fun _ => rfl)) (fun _ => rfl) (fun _ => rfl)))) (sb_one (ss_ret (se_bl))) (sb_nil)) (sb_cons (ss_set (i := 5) rfl rfl (se_tuple ⟨rfl, T.b_tuple⟩ (sa_cons (sa_tmp (se_call (io := io__law_mixed) (Def.cal (d__law_mixed T) (Nat.le_of_ble_eq_true rfl) rfl) rfl (sa_cons (sa_var (i := 1) rfl (.inl rfl) rfl rfl) (sa_cons (sa_var (i := 3) rfl (.inr (.inl rfl)) rfl rfl) (sa_nil) (fun _ => rfl)) (fun _ => rfl)) rfl (fun _ => rfl) (fun _ => rfl) (al_cons (al_cons al_nil)))) (sa_nil) (fun _ => rfl)) (fun _ => rfl) (fun _ => rfl)) (fun env h => by cases env; cases h; rfl)) (sb_cons (ss_setLc (i := 6) rfl rfl rfl rfl rfl (own := [("side", 9)]) (si_val (sa_var (i := 4) rfl (.inl rfl) rfl rfl)) (sg_nm (i := 9) rfl rfl) (sts_one (st_val (se_call (io := io__law_is_arcs) (Def.cal (d__law_is_arcs T) (Nat.le_of_ble_eq_true rfl) rfl) rfl (sa_cons (sa_var (i := 5) rfl (.inr (.inl rfl)) rfl rfl) (sa_cons (sa_var (i := 9) rfl (.inl rfl) rfl rfl) (sa_nil) (fun _ => rfl)) (fun _ => rfl)) rfl (fun _ => rfl) (fun _ => rfl) (al_cons (al_cons al_nil))) (fun _ _ => rfl))) (se_var (i := 9) rfl (.inl rfl) rfl rfl) rfl (by decide) (by decide) (fun _ _ => rfl)) (sb_cons (ss_set (i := 7) rfl rfl (se_call (io := io__law_pick) (Def.cal (d__law_pick T) (Nat.le_of_ble_eq_true rfl) rfl) rfl (sa_cons (sa_var (i := 1) rfl (.inl rfl) rfl rfl) (sa_cons (sa_tmp (se_els (se_lenAt ⟨rfl, T.b_len⟩ (sp_slot (i := 5) rfl (.inr (.inl rfl)) rfl rfl) (fun _ => rfl) (fun _ => rfl)) (se_len ⟨rfl, T.b_len⟩ (sa_cons (sa_var (i := 5) rfl (.inr (.inl rfl)) rfl rfl) (sa_nil) (fun _ => rfl)) (fun _ => rfl) (fun _ => rfl)))) (sa_nil) (fun _ => rfl)) (fun _ => rfl)) rfl (fun _ => rfl) (fun _ => rfl) (al_cons (al_cons al_nil))) (fun env h => by cases env; cases h; rfl)) (sb_cons (ss_set (i := 8) rfl rfl (se_lst (sl_cons (se_add (sa_tmp (se_slice (sa_var (i := 5) rfl (.inr (.inl rfl)) rfl rfl) (sp_some (se_var (i := 7) rfl (.inl rfl) rfl rfl)) sp_none)) (sa_tmp (se_slice (sa_var (i := 5) rfl (.inr (.inl rfl)) rfl rfl) sp_none (sp_some (se_var (i := 7) rfl (.inl rfl) rfl rfl))))) (sl_cons (se_rev (sa_var (i := 5) rfl (.inr (.inl rfl)) rfl rfl)) (sl_nil) (fun _ => rfl)) (fun _ => rfl)) (by decide)) (fun env h => by cases env; cases h; rfl)) (sb_cons (ss_for (si_val (sa_var (i := 4) rfl (.inl rfl) rfl rfl)) (sg_nm (i := 9) rfl rfl) (sb_cons (ss_set (i := 10) rfl rfl (se_tuple ⟨rfl, T.b_tuple⟩ (sa_cons (sa_tmp (se_lc (own := [("place", 21)]) (si_val (sa_var (i := 3) rfl (.inr (.inl rfl)) rfl rfl)) (sg_nm (i := 21) rfl rfl) (sts_one (st_notIn (sa_var (i := 21) rfl (.inl rfl) rfl rfl) (sa_var (i := 9) rfl (.inr (.inl rfl)) rfl rfl) (by with_unfolding_all rfl))) (se_var (i := 21) rfl (.inl rfl) rfl rfl) rfl (by decide) (by decide) (fun _ _ => rfl))) (sa_nil) (fun _ => rfl)) (fun _ => rfl) (fun _ => rfl)) (fun env h => by cases env; cases h; rfl)) (sb_cons (ss_if (st_ne (sa_tmp (se_repr ⟨rfl, T.b_repr⟩ (sa_cons (sa_tmp (se_lst (sl_cons (se_call (io := io_side_told) (Def.cal (d_side_told T) (Nat.le_of_ble_eq_true rfl) rfl) rfl (sa_cons (sa_var (i := 3) rfl (.inr (.inl rfl)) rfl rfl) (sa_cons (sa_var (i := 9) rfl (.inr (.inl rfl)) rfl rfl) (sa_nil) (fun _ => rfl)) (fun _ => rfl)) rfl (fun _ => rfl) (fun _ => rfl) (al_cons (al_cons al_nil))) (sl_cons (se_call (io := io_side_told) (Def.cal (d_side_told T) (Nat.le_of_ble_eq_true rfl) rfl) rfl (sa_cons (sa_var (i := 3) rfl (.inr (.inl rfl)) rfl rfl) (sa_cons (sa_var (i := 10) rfl (.inl rfl) rfl rfl) (sa_nil) (fun _ => rfl)) (fun _ => rfl)) rfl (fun _ => rfl) (fun _ => rfl) (al_cons (al_cons al_nil))) (sl_nil) (fun _ => rfl)) (fun _ => rfl)) (by decide))) (sa_nil) (fun _ => rfl)) (fun _ => rfl) (fun _ => rfl))) (sa_tmp (se_repr ⟨rfl, T.b_repr⟩ (sa_cons (sa_tmp (se_lst (sl_cons (se_var (i := 9) rfl (.inr (.inl rfl)) rfl rfl) (sl_cons (se_var (i := 9) rfl (.inr (.inl rfl)) rfl rfl) (sl_nil) (fun _ => rfl)) (fun _ => rfl)) (by decide))) (sa_nil) (fun _ => rfl)) (fun _ => rfl) (fun _ => rfl)))) (sb_one (ss_ret (se_bl))) (sb_nil)) (sb_cons (ss_if (st_ne (sa_tmp (se_repr ⟨rfl, T.b_repr⟩ (sa_cons (sa_tmp (se_lc (own := [("one", 11)]) (si_val (sa_tmp (se_add (sa_tmp (se_lst (sl_cons (se_var (i := 5) rfl (.inr (.inl rfl)) rfl rfl) (sl_nil) (fun _ => rfl)) (by decide))) (sa_var (i := 8) rfl (.inl rfl) rfl rfl)))) (sg_nm (i := 11) rfl rfl) sts_nil (se_call (io := io_is_arcs) (Def.cal (d_is_arcs T) (Nat.le_of_ble_eq_true rfl) rfl) rfl (sa_cons (sa_var (i := 11) rfl (.inl rfl) rfl rfl) (sa_cons (sa_var (i := 9) rfl (.inr (.inl rfl)) rfl rfl) (sa_nil) (fun _ => rfl)) (fun _ => rfl)) rfl (fun _ => rfl) (fun _ => rfl) (al_cons (al_cons al_nil))) rfl (by decide) (by decide) (fun _ _ => rfl))) (sa_nil) (fun _ => rfl)) (fun _ => rfl) (fun _ => rfl))) (sa_tmp (se_repr ⟨rfl, T.b_repr⟩ (sa_cons (sa_tmp (se_rep (se_lst (sl_cons (se_in (sa_var (i := 9) rfl (.inr (.inl rfl)) rfl rfl) (sa_var (i := 6) rfl (.inl rfl) rfl rfl) (by with_unfolding_all rfl)) (sl_nil) (fun _ => rfl)) (by decide)) (se_int))) (sa_nil) (fun _ => rfl)) (fun _ => rfl) (fun _ => rfl)))) (sb_one (ss_ret (se_bl))) (sb_nil)) (sb_cons (ss_par2 rfl rfl (by decide) rfl rfl (sl_cons (se_call (io := io__law_of) (Def.cal (d__law_of T) (Nat.le_of_ble_eq_true rfl) rfl) rfl (sa_cons (sa_var (i := 1) rfl (.inl rfl) rfl rfl) (sa_cons (sa_var (i := 3) rfl (.inr (.inl rfl)) rfl rfl) (sa_nil) (fun _ => rfl)) (fun _ => rfl)) rfl (fun _ => rfl) (fun _ => rfl) (al_cons (al_cons al_nil))) (sl_cons (se_call (io := io__law_of) (Def.cal (d__law_of T) (Nat.le_of_ble_eq_true rfl) rfl) rfl (sa_cons (sa_var (i := 1) rfl (.inl rfl) rfl rfl) (sa_cons (sa_var (i := 3) rfl (.inr (.inl rfl)) rfl rfl) (sa_nil) (fun _ => rfl)) (fun _ => rfl)) rfl (fun _ => rfl) (fun _ => rfl) (al_cons (al_cons al_nil))) (sl_nil) (fun _ => rfl)) (fun _ => rfl)) (fun env h => by cases env; cases h; rfl) (fun _ => rfl)) (sb_one (ss_if (st_ne (sa_tmp (se_repr ⟨rfl, T.b_repr⟩ (sa_cons (sa_tmp (se_call (io := io_is_across) (Def.cal (d_is_across T) (Nat.le_of_ble_eq_true rfl) rfl) rfl (sa_cons (sa_var (i := 9) rfl (.inr (.inl rfl)) rfl rfl) (sa_cons (sa_var (i := 11) rfl (.inl rfl) rfl rfl) (sa_cons (sa_var (i := 12) rfl (.inl rfl) rfl rfl) (sa_nil) (fun _ => rfl)) (fun _ => rfl)) (fun _ => rfl)) rfl (fun _ => rfl) (fun _ => rfl) (al_cons (al_cons (al_cons al_nil))))) (sa_nil) (fun _ => rfl)) (fun _ => rfl) (fun _ => rfl))) (sa_tmp (se_repr ⟨rfl, T.b_repr⟩ (sa_cons (sa_tmp (se_ne (sa_tmp (se_in (sa_var (i := 11) rfl (.inl rfl) rfl rfl) (sa_var (i := 9) rfl (.inr (.inl rfl)) rfl rfl) (by with_unfolding_all rfl))) (sa_tmp (se_in (sa_var (i := 12) rfl (.inl rfl) rfl rfl) (sa_var (i := 9) rfl (.inr (.inl rfl)) rfl rfl) (by with_unfolding_all rfl))))) (sa_nil) (fun _ => rfl)) (fun _ => rfl) (fun _ => rfl)))) (sb_one (ss_ret (se_bl))) (sb_nil))))))) (fun _ _ => rfl)) (sb_cons (ss_if (sw_t (sw_or (st_ne (sa_tmp (se_els (se_lenAt ⟨rfl, T.b_len⟩ (sp_slot (i := 6) rfl (.inl rfl) rfl rfl) (fun _ => rfl) (fun _ => rfl)) (se_len ⟨rfl, T.b_len⟩ (sa_cons (sa_var (i := 6) rfl (.inl rfl) rfl rfl) (sa_nil) (fun _ => rfl)) (fun _ => rfl) (fun _ => rfl)))) (sa_tmp (se_div (sa_tmp (se_mul (sa_tmp (se_els (se_lenAt ⟨rfl, T.b_len⟩ (sp_slot (i := 3) rfl (.inr (.inl rfl)) rfl rfl) (fun _ => rfl) (fun _ => rfl)) (se_len ⟨rfl, T.b_len⟩ (sa_cons (sa_var (i := 3) rfl (.inr (.inl rfl)) rfl rfl) (sa_nil) (fun _ => rfl)) (fun _ => rfl) (fun _ => rfl)))) (sa_tmp (se_sub (sa_tmp (se_els (se_lenAt ⟨rfl, T.b_len⟩ (sp_slot (i := 3) rfl (.inr (.inl rfl)) rfl rfl) (fun _ => rfl) (fun _ => rfl)) (se_len ⟨rfl, T.b_len⟩ (sa_cons (sa_var (i := 3) rfl (.inr (.inl rfl)) rfl rfl) (sa_nil) (fun _ => rfl)) (fun _ => rfl) (fun _ => rfl)))) (sa_tmp (se_int)))))) (sa_tmp (se_int))))) (sw_or1 (st_isntB (sa_tmp (se_call (io := io_are_together) (Def.cal (d_are_together T) (Nat.le_of_ble_eq_true rfl) rfl) rfl (sa_cons (sa_var (i := 3) rfl (.inr (.inl rfl)) rfl rfl) (sa_cons (sa_tmp (se_tuple ⟨rfl, T.b_tuple⟩ (sa_cons (sa_var (i := 6) rfl (.inl rfl) rfl rfl) (sa_nil) (fun _ => rfl)) (fun _ => rfl) (fun _ => rfl))) (sa_nil) (fun _ => rfl)) (fun _ => rfl)) rfl (fun _ => rfl) (fun _ => rfl) (al_cons (al_cons al_nil)))) (sa_tmp (se_bl)))))) (sb_one (ss_ret (se_bl))) (sb_nil)) (sb_cons (ss_set (i := 13) rfl rfl (se_tuple ⟨rfl, T.b_tuple⟩ (sa_cons (sa_tmp (se_slice (sa_tmp (se_call (io := io__law_mixed) (Def.cal (d__law_mixed T) (Nat.le_of_ble_eq_true rfl) rfl) rfl (sa_cons (sa_var (i := 1) rfl (.inl rfl) rfl rfl) (sa_cons (sa_var (i := 6) rfl (.inl rfl) rfl rfl) (sa_nil) (fun _ => rfl)) (fun _ => rfl)) rfl (fun _ => rfl) (fun _ => rfl) (al_cons (al_cons al_nil)))) sp_none (sp_some (se_call (io := io__law_pick) (Def.cal (d__law_pick T) (Nat.le_of_ble_eq_true rfl) rfl) rfl (sa_cons (sa_var (i := 1) rfl (.inl rfl) rfl rfl) (sa_cons (sa_tmp (se_add (sa_tmp (se_els (se_lenAt ⟨rfl, T.b_len⟩ (sp_slot (i := 6) rfl (.inl rfl) rfl rfl) (fun _ => rfl) (fun _ => rfl)) (se_len ⟨rfl, T.b_len⟩ (sa_cons (sa_var (i := 6) rfl (.inl rfl) rfl rfl) (sa_nil) (fun _ => rfl)) (fun _ => rfl) (fun _ => rfl)))) (sa_tmp (se_int)))) (sa_nil) (fun _ => rfl)) (fun _ => rfl)) rfl (fun _ => rfl) (fun _ => rfl) (al_cons (al_cons al_nil)))))) (sa_nil) (fun _ => rfl)) (fun _ => rfl) (fun _ => rfl)) (fun env h => by cases env; cases h; rfl)) (sb_cons (ss_if (st_isntB (sa_tmp (se_call (io := io_are_together) (Def.cal (d_are_together T) (Nat.le_of_ble_eq_true rfl) rfl) rfl (sa_cons (sa_var (i := 3) rfl (.inr (.inl rfl)) rfl rfl) (sa_cons (sa_var (i := 13) rfl (.inl rfl) rfl rfl) (sa_nil) (fun _ => rfl)) (fun _ => rfl)) rfl (fun _ => rfl) (fun _ => rfl) (al_cons (al_cons al_nil)))) (sa_tmp (se_bl))) (sb_one (ss_ret (se_bl))) (sb_nil)) (sb_cons (ss_set (i := 14) rfl rfl (se_tuple ⟨rfl, T.b_tuple⟩ (sa_cons (sa_tmp (se_sorted ⟨rfl, T.b_sorted⟩ (sa_cons (sa_tmp (se_slice (sa_tmp (se_call (io := io__law_mixed) (Def.cal (d__law_mixed T) (Nat.le_of_ble_eq_true rfl) rfl) rfl (sa_cons (sa_var (i := 1) rfl (.inl rfl) rfl rfl) (sa_cons (sa_var (i := 3) rfl (.inr (.inl rfl)) rfl rfl) (sa_nil) (fun _ => rfl)) (fun _ => rfl)) rfl (fun _ => rfl) (fun _ => rfl) (al_cons (al_cons al_nil)))) sp_none (sp_some (se_add (sa_tmp (se_int)) (sa_tmp (se_call (io := io__law_pick) (Def.cal (d__law_pick T) (Nat.le_of_ble_eq_true rfl) rfl) rfl (sa_cons (sa_var (i := 1) rfl (.inl rfl) rfl rfl) (sa_cons (sa_tmp (se_sub (sa_tmp (se_els (se_lenAt ⟨rfl, T.b_len⟩ (sp_slot (i := 3) rfl (.inr (.inl rfl)) rfl rfl) (fun _ => rfl) (fun _ => rfl)) (se_len ⟨rfl, T.b_len⟩ (sa_cons (sa_var (i := 3) rfl (.inr (.inl rfl)) rfl rfl) (sa_nil) (fun _ => rfl)) (fun _ => rfl) (fun _ => rfl)))) (sa_tmp (se_int)))) (sa_nil) (fun _ => rfl)) (fun _ => rfl)) rfl (fun _ => rfl) (fun _ => rfl) (al_cons (al_cons al_nil)))))))) (sa_nil) (fun _ => rfl)) (fun _ => rfl) (fun _ => rfl))) (sa_nil) (fun _ => rfl)) (fun _ => rfl) (fun _ => rfl)) (fun env h => by cases env; cases h; rfl)) (sb_cons (ss_set (i := 15) rfl rfl (se_tuple ⟨rfl, T.b_tuple⟩ (sa_cons (sa_tmp (se_lc (own := [("place", 21)]) (si_val (sa_var (i := 5) rfl (.inr (.inl rfl)) rfl rfl)) (sg_nm (i := 21) rfl rfl) (sts_one (st_in (sa_var (i := 21) rfl (.inl rfl) rfl rfl) (sa_var (i := 14) rfl (.inr (.inl rfl)) rfl rfl) (by with_unfolding_all rfl))) (se_var (i := 21) rfl (.inl rfl) rfl rfl) rfl (by decide) (by decide) (fun _ _ => rfl))) (sa_nil) (fun _ => rfl)) (fun _ => rfl) (fun _ => rfl)) (fun env h => by cases env; cases h; rfl)) (sb_cons (ss_for (si_val (sa_var (i := 4) rfl (.inl rfl) rfl rfl)) (sg_nm (i := 9) rfl rfl) (sb_cons (ss_set (i := 16) rfl rfl (se_call (io := io_cut_told) (Def.cal (d_cut_told T) (Nat.le_of_ble_eq_true rfl) rfl) rfl (sa_cons (sa_var (i := 9) rfl (.inr (.inl rfl)) rfl rfl) (sa_cons (sa_var (i := 14) rfl (.inr (.inl rfl)) rfl rfl) (sa_nil) (fun _ => rfl)) (fun _ => rfl)) rfl (fun _ => rfl) (fun _ => rfl) (al_cons (al_cons al_nil))) (fun env h => by cases env; cases h; rfl)) (sb_cons (ss_if (st_ne (sa_tmp (se_repr ⟨rfl, T.b_repr⟩ (sa_cons (sa_var (i := 16) rfl (.inl rfl) rfl rfl) (sa_nil) (fun _ => rfl)) (fun _ => rfl) (fun _ => rfl))) (sa_tmp (se_repr ⟨rfl, T.b_repr⟩ (sa_cons (sa_tmp (se_call (io := io__law_cut) (Def.cal (d__law_cut T) (Nat.le_of_ble_eq_true rfl) rfl) rfl (sa_cons (sa_var (i := 3) rfl (.inr (.inl rfl)) rfl rfl) (sa_cons (sa_var (i := 9) rfl (.inr (.inl rfl)) rfl rfl) (sa_cons (sa_var (i := 14) rfl (.inr (.inl rfl)) rfl rfl) (sa_nil) (fun _ => rfl)) (fun _ => rfl)) (fun _ => rfl)) rfl (fun _ => rfl) (fun _ => rfl) (al_cons (al_cons (al_cons al_nil))))) (sa_nil) (fun _ => rfl)) (fun _ => rfl) (fun _ => rfl)))) (sb_one (ss_ret (se_bl))) (sb_nil)) (sb_one (ss_if (sw_t (sw_and (st_notN (sa_var (i := 16) rfl (.inl rfl) rfl rfl)) (sw_and (st_in (sa_var (i := 9) rfl (.inr (.inl rfl)) rfl rfl) (sa_var (i := 6) rfl (.inl rfl) rfl rfl) (by with_unfolding_all rfl)) (sw_and1 (st_isntB (sa_tmp (se_call (io := io_is_arcs) (Def.cal (d_is_arcs T) (Nat.le_of_ble_eq_true rfl) rfl) rfl (sa_cons (sa_var (i := 15) rfl (.inl rfl) rfl rfl) (sa_cons (sa_var (i := 16) rfl (.inl rfl) rfl rfl) (sa_nil) (fun _ => rfl)) (fun _ => rfl)) rfl (fun _ => rfl) (fun _ => rfl) (al_cons (al_cons al_nil)))) (sa_tmp (se_bl))))))) (sb_one (ss_ret (se_bl))) (sb_nil))))) (fun _ _ => rfl)) (sb_cons (ss_for (si_range1 (sa_cons (sa_tmp (se_int)) (sa_nil) (fun _ => rfl)) rfl T.b_range (fun _ => rfl)) (sg_nm (i := 17) rfl rfl) (sb_cons (ss_par2 rfl rfl (by decide) rfl rfl (sl_cons (se_call (io := io__law_of) (Def.cal (d__law_of T) (Nat.le_of_ble_eq_true rfl) rfl) rfl (sa_cons (sa_var (i := 1) rfl (.inl rfl) rfl rfl) (sa_cons (sa_var (i := 4) rfl (.inl rfl) rfl rfl) (sa_nil) (fun _ => rfl)) (fun _ => rfl)) rfl (fun _ => rfl) (fun _ => rfl) (al_cons (al_cons al_nil))) (sl_cons (se_call (io := io__law_of) (Def.cal (d__law_of T) (Nat.le_of_ble_eq_true rfl) rfl) rfl (sa_cons (sa_var (i := 1) rfl (.inl rfl) rfl rfl) (sa_cons (sa_var (i := 4) rfl (.inl rfl) rfl rfl) (sa_nil) (fun _ => rfl)) (fun _ => rfl)) rfl (fun _ => rfl) (fun _ => rfl) (al_cons (al_cons al_nil))) (sl_nil) (fun _ => rfl)) (fun _ => rfl)) (fun env h => by cases env; cases h; rfl) (fun _ => rfl)) (sb_cons (ss_setLc (i := 10) rfl rfl rfl rfl rfl (own := [("side", 9)]) (si_val (sa_tmp (se_tup (sl_cons (se_var (i := 11) rfl (.inl rfl) rfl rfl) (sl_cons (se_var (i := 12) rfl (.inl rfl) rfl rfl) (sl_nil) (fun _ => rfl)) (fun _ => rfl)) (by decide)))) (sg_nm (i := 9) rfl rfl) sts_nil (se_lc (own := [("place", 21)]) (si_val (sa_var (i := 3) rfl (.inr (.inl rfl)) rfl rfl)) (sg_nm (i := 21) rfl rfl) (sts_one (st_notIn (sa_var (i := 21) rfl (.inl rfl) rfl rfl) (sa_var (i := 9) rfl (by first | exact .inr (.inr rfl) | exact .inr (.inl rfl)) rfl rfl) (by with_unfolding_all rfl))) (se_var (i := 21) rfl (.inl rfl) rfl rfl) rfl (by decide) (by decide) (fun _ _ => rfl)) rfl (by decide) (by decide) (fun _ _ => rfl)) (sb_cons (ss_set (i := 18) rfl rfl (se_lst (sl_cons (se_tup (sl_cons (se_var (i := 11) rfl (.inl rfl) rfl rfl) (sl_cons (se_var (i := 12) rfl (.inl rfl) rfl rfl) (sl_nil) (fun _ => rfl)) (fun _ => rfl)) (by decide)) (sl_cons (se_tup (sl_cons (se_var (i := 11) rfl (.inl rfl) rfl rfl) (sl_cons (se_els (se_at (sp_sub (sp_slot (i := 10) rfl (.inl rfl) rfl rfl) (sq_int) (fun _ _ => rfl) (fun _ _ => rfl))) (se_idx (sa_var (i := 10) rfl (.inl rfl) rfl rfl) (sa_tmp (se_int)) (fun _ _ => rfl) (fun _ _ => rfl))) (sl_nil) (fun _ => rfl)) (fun _ => rfl)) (by decide)) (sl_cons (se_tup (sl_cons (se_els (se_at (sp_sub (sp_slot (i := 10) rfl (.inl rfl) rfl rfl) (sq_int) (fun _ _ => rfl) (fun _ _ => rfl))) (se_idx (sa_var (i := 10) rfl (.inl rfl) rfl rfl) (sa_tmp (se_int)) (fun _ _ => rfl) (fun _ _ => rfl))) (sl_cons (se_var (i := 12) rfl (.inl rfl) rfl rfl) (sl_nil) (fun _ => rfl)) (fun _ => rfl)) (by decide)) (sl_cons (se_tup (sl_cons (se_els (se_at (sp_sub (sp_slot (i := 10) rfl (.inl rfl) rfl rfl) (sq_int) (fun _ _ => rfl) (fun _ _ => rfl))) (se_idx (sa_var (i := 10) rfl (.inl rfl) rfl rfl) (sa_tmp (se_int)) (fun _ _ => rfl) (fun _ _ => rfl))) (sl_cons (se_els (se_at (sp_sub (sp_slot (i := 10) rfl (.inl rfl) rfl rfl) (sq_int) (fun _ _ => rfl) (fun _ _ => rfl))) (se_idx (sa_var (i := 10) rfl (.inl rfl) rfl rfl) (sa_tmp (se_int)) (fun _ _ => rfl) (fun _ _ => rfl))) (sl_nil) (fun _ => rfl)) (fun _ => rfl)) (by decide)) (sl_nil) (fun _ => rfl)) (fun _ => rfl)) (fun _ => rfl)) (fun _ => rfl)) (by decide)) (fun env h => by cases env; cases h; rfl)) (sb_cons (ss_set (i := 19) rfl rfl (se_ne (sa_tmp (se_lc (own := [("a", 22), ("b", 23)]) (si_val (sa_var (i := 18) rfl (.inl rfl) rfl rfl)) (sg_tp (sgs_cons (sg_nm (i := 22) rfl rfl) (sgs_cons (sg_nm (i := 23) rfl rfl) (sgs_nil) (fun _ => rfl)) (fun _ => rfl)) (fun _ => rfl) (fun _ => rfl)) (sts_one (st_eq (sa_tmp (se_lc (own := [("place", 21)]) (si_val (sa_var (i := 22) rfl (.inl rfl) rfl rfl)) (sg_nm (i := 21) rfl rfl) (sts_one (st_in (sa_var (i := 21) rfl (.inl rfl) rfl rfl) (sa_var (i := 23) rfl (by first | exact .inr (.inr rfl) | exact .inr (.inl rfl)) rfl rfl) (by with_unfolding_all rfl))) (se_var (i := 21) rfl (.inl rfl) rfl rfl) rfl (by decide) (by decide) (fun _ _ => rfl))) (sa_tmp (se_lst (sl_nil) (by decide))))) (se_int) rfl (by decide) (by decide) (fun _ _ => rfl))) (sa_tmp (se_lst (sl_nil) (by decide)))) (fun env h => by cases env; cases h; rfl)) (sb_cons (ss_if (st_ne (sa_tmp (se_repr ⟨rfl, T.b_repr⟩ (sa_cons (sa_tmp (se_call (io := io_are_nested) (Def.cal (d_are_nested T) (Nat.le_of_ble_eq_true rfl) rfl) rfl (sa_cons (sa_var (i := 3) rfl (.inr (.inl rfl)) rfl rfl) (sa_cons (sa_var (i := 11) rfl (.inl rfl) rfl rfl) (sa_cons (sa_var (i := 12) rfl (.inl rfl) rfl rfl) (sa_nil) (fun _ => rfl)) (fun _ => rfl)) (fun _ => rfl)) rfl (fun _ => rfl) (fun _ => rfl) (al_cons (al_cons (al_cons al_nil))))) (sa_nil) (fun _ => rfl)) (fun _ => rfl) (fun _ => rfl))) (sa_tmp (se_repr ⟨rfl, T.b_repr⟩ (sa_cons (sa_var (i := 19) rfl (.inl rfl) rfl rfl) (sa_nil) (fun _ => rfl)) (fun _ => rfl) (fun _ => rfl)))) (sb_one (ss_ret (se_bl))) (sb_nil)) (sb_cons (ss_setLc (i := 20) rfl rfl rfl rfl rfl (own := [("side", 9)]) (si_val (sa_tmp (se_tup (sl_cons (se_var (i := 11) rfl (.inl rfl) rfl rfl) (sl_cons (se_var (i := 12) rfl (.inl rfl) rfl rfl) (sl_nil) (fun _ => rfl)) (fun _ => rfl)) (by decide)))) (sg_nm (i := 9) rfl rfl) sts_nil (se_call (io := io_cut_told) (Def.cal (d_cut_told T) (Nat.le_of_ble_eq_true rfl) rfl) rfl (sa_cons (sa_var (i := 9) rfl (.inl rfl) rfl rfl) (sa_cons (sa_var (i := 14) rfl (.inr (.inl rfl)) rfl rfl) (sa_nil) (fun _ => rfl)) (fun _ => rfl)) rfl (fun _ => rfl) (fun _ => rfl) (al_cons (al_cons al_nil))) rfl (by decide) (by decide) (fun _ _ => rfl)) (sb_one (ss_if (sw_t (sw_and (st_val (se_var (i := 19) rfl (.inl rfl) rfl rfl) (fun _ _ => rfl)) (sw_and (st_notIn (sa_tmp (se_non)) (sa_var (i := 20) rfl (.inl rfl) rfl rfl) (by with_unfolding_all rfl)) (sw_and1 (st_isntB (sa_tmp (se_call (io := io_are_nested) (Def.cal (d_are_nested T) (Nat.le_of_ble_eq_true rfl) rfl) rfl (sa_cons (sa_var (i := 14) rfl (.inr (.inl rfl)) rfl rfl) (sa_cons (sa_tmp (se_els (se_at (sp_sub (sp_slot (i := 20) rfl (.inl rfl) rfl rfl) (sq_int) (fun _ _ => rfl) (fun _ _ => rfl))) (se_idx (sa_var (i := 20) rfl (.inl rfl) rfl rfl) (sa_tmp (se_int)) (fun _ _ => rfl) (fun _ _ => rfl)))) (sa_cons (sa_tmp (se_els (se_at (sp_sub (sp_slot (i := 20) rfl (.inl rfl) rfl rfl) (sq_int) (fun _ _ => rfl) (fun _ _ => rfl))) (se_idx (sa_var (i := 20) rfl (.inl rfl) rfl rfl) (sa_tmp (se_int)) (fun _ _ => rfl) (fun _ _ => rfl)))) (sa_nil) (fun _ => rfl)) (fun _ => rfl)) (fun _ => rfl)) rfl (fun _ => rfl) (fun _ => rfl) (al_cons (al_cons (al_cons al_nil))))) (sa_tmp (se_bl))))))) (sb_one (ss_ret (se_bl))) (sb_nil))))))))) (fun _ _ => rfl)) (sb_one (ss_ret (se_bl)))))))))))))))))))) rfl (by decide) rfl rfl
theorem fin {l : PySem.W.OpenLaw} {w : World} {K : PySem.W.Frag} {mg : Str → Option Value} {lf : Addr} (hlf : mg "law" = some (.ref lf)) (T : Tx K mg) : ∃ fa : Nat → Addr, ∀ base : Heap, K.In base → base.Ns mainGlobals mg → FnG l.prog w K mg base 4 lf (spF ⟨K, fa⟩ g_law 1) := by
  refine ⟨fun _ => 0, fun base _ _ => ?_⟩
  obtain ⟨f, e, _, F⟩ := d_law (P := l.prog) (w := w) (base := base) (fa := fun _ => 0) T
  rw [hlf] at e; cases e
  exact F
end K16
set_option Elab.async false
set_option linter.all false
set_option maxRecDepth 100000
set_option maxHeartbeats 4000000
namespace Bits
def allB : Nat → List (List Bool)
  | 0 => [[]]
  | n + 1 => (allB n).flatMap fun l => [false :: l, true :: l]
theorem mem_allB : ∀ {b : List Bool}, b ∈ allB b.length
  | [] => by simp [allB]
  | false :: b => by
    show _ ∈ (allB b.length).flatMap _
    exact List.mem_flatMap.mpr ⟨b, mem_allB, by simp⟩
  | true :: b => by
    show _ ∈ (allB b.length).flatMap _
    exact List.mem_flatMap.mpr ⟨b, mem_allB, by simp⟩
/-- changes around -/
def chg (b : List Bool) : Nat := ((b.zip (b.getLast?.toList ++ b.dropLast)).filter fun p => p.1 != p.2).length
def turn (k : Nat) (b : List Bool) : List Bool := b.drop k ++ b.take k
def cnt (b : List Bool) : Nat := (b.filter id).length
def arcB (b : List Bool) : Bool := (List.range b.length).any fun k => ((turn k b).take (cnt b)).all id
def lens : List Nat := [0, 1, 2, 3, 4, 5, 6, 7]
theorem a_all : (lens.all fun n => (allB n).all fun b => (cnt b == 0 || cnt b == n) || ((chg b == 2) == arcB b)) = true := by decide +kernel
theorem turn_all : (lens.all fun n => (allB n).all fun b => (List.range n).all fun k => chg (turn k b) == chg b) = true := by decide +kernel
theorem rev_all : (lens.all fun n => (allB n).all fun b => chg b.reverse == chg b) = true := by decide +kernel
theorem not_all : (lens.all fun n => (allB n).all fun b => chg (b.map not) == chg b) = true := by decide +kernel
def circ (n : Nat) : List (List Bool) := (allB n).filter fun b => chg b == 2
/-- the rows of three sides -/
def barB (a b c : List Bool) : Bool := let r := a.zip (b.zip c); r.contains (true, true, true) && r.contains (true, false, false) && r.contains (false, true, false) && r.contains (false, false, true)
theorem bar_all : (lens.all fun n => (circ n).all fun a => (circ n).all fun b => (circ n).all fun c => !barB a b c) = true := by decide +kernel
/-- a part of the places -/
def sub (k b : List Bool) : List Bool := (k.zip b).filterMap fun p => if p.1 then some p.2 else none
theorem sub_all : (lens.all fun n => (circ n).all fun b => (allB n).all fun k => let s := sub k b; (cnt s == 0 || cnt s == s.length) || chg s == 2) = true := by decide +kernel
/-- as many arcs as pairs: those that leave out the place f -/
theorem cnt_all : (lens.all fun n => (List.range n).all fun f => ((allB n).filter fun b => !(b.getD f false) && cnt b != 0 && chg b == 2).length == n * (n - 1) / 2) = true := by decide +kernel
end Bits
set_option Elab.async false
set_option linter.all false
set_option maxRecDepth 100000
set_option maxHeartbeats 4000000
namespace K16
open PySem PySem.Spec L2 Pz
theorem atI_hd {α : Type} {a : α} {l : List α} : L2.atI (a :: l) 0 = some a := by
  unfold L2.atI L2.ixN
  rw [if_pos (by decide), if_pos (by simp)]
  rfl
theorem fIdx_hd {h : Str} {tl : List Str} : fIdx [ts (h :: tl), .int 0] = some (.fz (.str h)) := by
  have e : fIdxS [ts (h :: tl), .int 0] = some (.fz (.str h)) := by
    show (L2.atI (D.str h :: tl.map D.str) 0).map O.fz = _
    rw [atI_hd]; rfl
  unfold fIdx; rw [e]
/-- it looks like the texts l -/
def Like (w : O) (l : List Str) : Prop := shal w = some (ts l) ∨ shal w = some (lst l)
theorem like_in {w : O} {l : List Str} (h : Like w l) : ∃ d, shal w = some d ∧ ∀ x, fInA [.str x, d] = some (.fz (.bl (decide (x ∈ l)))) := by
  rcases h with h | h
  · exact ⟨_, h, fun x => fIn_ts⟩
  · exact ⟨_, h, fun x => fIn_ls⟩
def other (h : Str) (ps l : List Str) : List Str := ps.filter fun p => decide (p ∈ l) != decide (h ∈ l)
theorem s_side {h : Str} {tl l : List Str} {w : O} (hw : Like w l) (hc : (h :: tl).length ≤ cap) : g_side_told [.fz (ts (h :: tl)), w] = some (.fz (ts (other h (h :: tl) l)), [some (.fz (ts (h :: tl))), some w]) := by
  obtain ⟨d, hd, hin⟩ := like_in hw
  let S0 : Pz.Env := [some (.fz (ts (h :: tl))), some w, none, none]
  let S1 : Pz.Env := [some (.fz (ts (h :: tl))), some w, some (.fz (.bl (decide (h ∈ l)))), none]
  have a1 : e2 fIdx (aVar 0) (aTmp (eLit (.int 0))) S0 = some (.fz (.str h), S0) := e2_vt rfl rfl rfl rfl fIdx_hd
  have a2 : sSet 2 (e2 fInA (aTmp (eEls (eAt (.sub (.slot 0) (qLit (.int 0)))) (e2 fIdx (aVar 0) (aTmp (eLit (.int 0)))))) (aVar 1)) S0 = some (.nx S1) :=
    set_val (e2_tv ((els_2 rfl).trans a1) rfl hd (hin h))
  have a3 : eLc (.nm 3) (iVal (aVar 0)) (tE (e2 fNe (aTmp (e2 fInA (aVar 3) (aVar 1))) (aVar 2))) (eVar 3) [3] S1 = some (.ol ((((h :: tl).map D.str).filter fun x => match x with | .str p => decide (p ∈ l) != decide (h ∈ l) | _ => false).map O.fz), S1) := by
    refine lc_pure (S1 := S1) _ _ rfl (by rw [List.length_map]; exact hc) fun x hx => ?_
    obtain ⟨p, _, rfl⟩ := List.mem_map.mp hx
    refine ⟨_, [some (.fz (ts (h :: tl))), some w, some (.fz (.bl (decide (h ∈ l)))), some (.fz (.str p))], rfl, tE_val (e2_tv (e2_vv rfl rfl rfl hd (hin p)) rfl rfl fNe_bl), fun _ => ⟨_, rfl, rfl⟩, fun _ => rfl⟩
  have a4 : (((h :: tl).map D.str).filter fun x => match x with | .str p => decide (p ∈ l) != decide (h ∈ l) | _ => false) = (other h (h :: tl) l).map D.str := by
    rw [List.filter_map]; rfl
  rw [a4] at a3
  have a5 : eBi fTuple (aCons (aTmp (eLc (.nm 3) (iVal (aVar 0)) (tE (e2 fNe (aTmp (e2 fInA (aVar 3) (aVar 1))) (aVar 2))) (eVar 3) [3])) aNil) S1 = some (.fz (ts (other h (h :: tl) l)), S1) := by
    refine e1_val a3 ?_
    show fTuple [.lst (frs _)] = _
    rw [frs_fz]; rfl
  exact run_rt (S0 := S0) rfl ((seq_nx a2).trans (ret_val a5))
def rest (ps l : List Str) : List Str := ps.filter fun p => !decide (p ∈ l)
theorem s_sides {ps l : List Str} (hc : ps.length ≤ cap) : g_sides_told [.fz (ts ps), .fz (ts l)] = some (.fz (.tup [ts l, ts (rest ps l)]), [some (.fz (ts ps)), some (.fz (ts l))]) := by
  let S0 : Pz.Env := [some (.fz (ts ps)), some (.fz (ts l)), none]
  have a3 : eLc (.nm 2) (iVal (aVar 0)) (tE (e2 fNotInA (aVar 2) (aVar 1))) (eVar 2) [2] S0 = some (.ol (((ps.map D.str).filter fun x => match x with | .str p => !decide (p ∈ l) | _ => false).map O.fz), S0) := by
    refine lc_pure (S1 := S0) _ _ rfl (by rw [List.length_map]; exact hc) fun x hx => ?_
    obtain ⟨p, _, rfl⟩ := List.mem_map.mp hx
    exact ⟨_, [some (.fz (ts ps)), some (.fz (ts l)), some (.fz (.str p))], rfl, tE_val (e2_vv rfl rfl rfl rfl fNotIn_ts), fun _ => ⟨_, rfl, rfl⟩, fun _ => rfl⟩
  have a4 : ((ps.map D.str).filter fun x => match x with | .str p => !decide (p ∈ l) | _ => false) = (rest ps l).map D.str := by
    rw [List.filter_map]; rfl
  rw [a4] at a3
  have a5 : eBi fTuple (aCons (aTmp (eLc (.nm 2) (iVal (aVar 0)) (tE (e2 fNotInA (aVar 2) (aVar 1))) (eVar 2) [2])) aNil) S0 = some (.fz (ts (rest ps l)), S0) := by
    refine e1_val a3 ?_
    show fTuple [.lst (frs _)] = _
    rw [frs_fz]; rfl
  have a6 : eTup (lCons (eVar 1) (lCons (eBi fTuple (aCons (aTmp (eLc (.nm 2) (iVal (aVar 0)) (tE (e2 fNotInA (aVar 2) (aVar 1))) (eVar 2) [2])) aNil)) lNil)) S0 = some (.fz (.tup [ts l, ts (rest ps l)]), S0) := by
    have b1 : eVar 1 S0 = some (.fz (ts l), S0) := rfl
    unfold eTup lCons
    simp only [b1, a5, lNil]
    rfl
  exact run_rt (S0 := S0) rfl (ret_val a6)
/-- nothing of a is in b -/
def emp (a b : List Str) : Bool := (a.filter fun p => decide (p ∈ b)).isEmpty
def two (ps l : List Str) : List (List Str) := [l, rest ps l]
def nestB (ps a b : List Str) : Bool := (two ps a).any fun x => (two ps b).any fun y => emp x y
theorem sides_it {ps l : List Str} {i : Nat} {S : Pz.Env} (hc : ps.length ≤ cap) (h0 : S[0]? = some (some (.fz (ts ps)))) (hi : S[i]? = some (some (.fz (ts l)))) :
    iVal (aTmp (eCall g_sides_told io_sides_told (aCons (aVar 0) (aCons (aVar i) aNil)))) S = some ((two ps l).map ts, S) := by
  have e0 : S.set 0 (some (.fz (ts ps))) = S := set_self h0
  have ei : S.set i (some (.fz (ts l))) = S := set_self hi
  have l1 : lend io_sides_told [.ref 0, .ref i] S = some ([.fz (ts ps), .fz (ts l)], S) := by
    simp [lend, io_sides_told, h0, hi, isOwn, fr, e0, ei]
  have c := call_val (g := g_sides_told) (cons_val (var_val h0) (cons_val (var_val hi) (rfl : aNil S = some ([], S)))) l1 (s_sides hc)
  have gb : giveBack io_sides_told [.ref 0, .ref i] [some (.fz (ts ps)), some (.fz (ts l))] S = S := by
    simp [giveBack, io_sides_told, e0, ei]
  rw [gb] at c
  exact ival_t c rfl
theorem any_ts {L : List (List Str)} {f : List Str → Bool} : ((L.map ts).any fun d => f (unts d)) = L.any f := by
  rw [List.any_map]
  congr 1
  funext l
  show f (unts (ts l)) = f l
  rw [unts_ts]
theorem s_nested {ps a b : List Str} (hc : ps.length ≤ cap) (hok : ∀ x ∈ ps, PyData.strOk x = true) (ha : ∀ x ∈ a, x ∈ ps) (hal : a.length ≤ cap) : g_are_nested [.fz (ts ps), .fz (ts a), .fz (ts b)] = some (.fz (.bl (nestB ps a b)), [some (.fz (ts ps)), some (.fz (ts a)), some (.fz (ts b))]) := by
  let Inv : Pz.Env → Prop := fun S => ∃ x y z, S = [some (.fz (ts ps)), some (.fz (ts a)), some (.fz (ts b)), x, y, z]
  have inner : ∀ (x : List Str), (∀ p ∈ x, p ∈ ps) → x.length ≤ cap → ∀ y z, ∃ S2, (∃ y z, S2 = [some (.fz (ts ps)), some (.fz (ts a)), some (.fz (ts b)), some (.fz (ts x)), y, z]) ∧
      sFor (.nm 4) (iVal (aTmp (eCall g_sides_told io_sides_told (aCons (aVar 0) (aCons (aVar 2) (aNil)))))) (sIf (tE (e2 fEq (aTmp (eLc (.nm 5) (iVal (aVar 3)) (tE (e2 fInA (aVar 5) (aVar 4))) (eVar 5) [5])) (aTmp (eLst (lNil))))) (sRet (eLit (.bl true))) (sNil)) [some (.fz (ts ps)), some (.fz (ts a)), some (.fz (ts b)), some (.fz (ts x)), y, z] = some (if ((two ps b).map ts).any (fun d => emp x (unts d)) = true then .rt (.fz (.bl true)) S2 else .nx S2) := by
    intro x hx hxl y z
    refine sFor_search (o := .fz (.bl true)) (Inv := fun S => ∃ y z, S = [some (.fz (ts ps)), some (.fz (ts a)), some (.fz (ts b)), some (.fz (ts x)), y, z]) (sides_it hc rfl rfl) (fun d hd S hS => ?_) ⟨y, z, rfl⟩
    obtain ⟨y, z, rfl⟩ := hS
    obtain ⟨l, _, rfl⟩ := List.mem_map.mp hd
    let S1 : Pz.Env := [some (.fz (ts ps)), some (.fz (ts a)), some (.fz (ts b)), some (.fz (ts x)), some (.fz (ts l)), z]
    have c1 : eLc (.nm 5) (iVal (aVar 3)) (tE (e2 fInA (aVar 5) (aVar 4))) (eVar 5) [5] S1 = some (.ol (((x.map D.str).filter fun d => match d with | .str p => decide (p ∈ l) | _ => false).map O.fz), S1) := by
      refine lc_pure (S1 := S1) _ _ rfl (by rw [List.length_map]; exact hxl) fun d hd => ?_
      obtain ⟨p, _, rfl⟩ := List.mem_map.mp hd
      exact ⟨_, [some (.fz (ts ps)), some (.fz (ts a)), some (.fz (ts b)), some (.fz (ts x)), some (.fz (ts l)), some (.fz (.str p))], rfl, tE_val (e2_vv rfl rfl rfl rfl fIn_ts), fun _ => ⟨_, rfl, rfl⟩, fun _ => rfl⟩
    have c2 : ((x.map D.str).filter fun d => match d with | .str p => decide (p ∈ l) | _ => false) = (x.filter fun p => decide (p ∈ l)).map D.str := by
      rw [List.filter_map]; rfl
    rw [c2] at c1
    have c3 : e2 fEq (aTmp (eLc (.nm 5) (iVal (aVar 3)) (tE (e2 fInA (aVar 5) (aVar 4))) (eVar 5) [5])) (aTmp (eLst lNil)) S1 = some (.fz (.bl (emp x l)), S1) := by
      refine e2_val c1 rfl ?_
      show fEq [.lst (frs _), .lst []] = _
      rw [frs_fz, fEq_nil (okD_lst fun p hp => hok p (hx p (List.mem_filter.mp hp).1))]
      unfold emp
      cases x.filter fun p => decide (p ∈ l) <;> rfl
    refine ⟨S1, S1, rfl, ⟨_, _, rfl⟩, ?_⟩
    rw [unts_ts]
    cases he : emp x l with
    | true => rw [if_pos rfl]; exact (if_t (tE_val (by rw [c3, he]))).trans rfl
    | false => rw [if_neg Bool.false_ne_true]; exact (if_f (tE_val (by rw [c3, he]))).trans rfl
  obtain ⟨S2, hS2, e⟩ := sFor_search (tg := .nm 3) (o := .fz (.bl true)) (Inv := Inv) (hit := fun d => ((two ps b).map ts).any fun d' => emp (unts d) (unts d')) (sides_it (S := [some (.fz (ts ps)), some (.fz (ts a)), some (.fz (ts b)), none, none, none]) (l := a) (i := 1) hc rfl rfl) (fun d hd S hS => by
    obtain ⟨x, y, z, rfl⟩ := hS
    obtain ⟨l, hl, rfl⟩ := List.mem_map.mp hd
    have hll : l.length ≤ cap := by
      unfold two at hl
      rcases List.mem_cons.mp hl with e | hl
      · subst e; exact hal
      · rw [List.mem_singleton.mp hl]; exact Nat.le_trans (List.length_filter_le _ _) hc
    have hlp : ∀ p ∈ l, p ∈ ps := by
      unfold two at hl
      rcases List.mem_cons.mp hl with e | hl
      · subst e; exact ha
      · rw [List.mem_singleton.mp hl]; exact fun p hp => (List.mem_filter.mp hp).1
    obtain ⟨S3, ⟨y', z', e3⟩, e4⟩ := inner l hlp hll y z
    refine ⟨_, S3, rfl, ⟨_, _, _, e3⟩, ?_⟩
    rw [unts_ts]
    exact e4) ⟨_, _, _, rfl⟩
  have en : (((two ps a).map ts).any fun d => ((two ps b).map ts).any fun d' => emp (unts d) (unts d')) = nestB ps a b := by
    have q := any_ts (L := two ps a) (f := fun x => ((two ps b).map ts).any fun d' => emp x (unts d'))
    rw [q]
    unfold nestB
    congr 1
    funext x
    exact any_ts (L := two ps b) (f := fun y => emp x y)
  rw [en] at e
  obtain ⟨x, y, z, rfl⟩ := hS2
  cases hb : nestB ps a b with
  | true =>
    rw [hb, if_pos rfl] at e
    exact z_run rfl (seq_rt e) rfl
  | false =>
    rw [hb, if_neg Bool.false_ne_true] at e
    exact z_run rfl ((seq_nx e).trans rfl) rfl
/-! ### rows of three -/
def tb (p : Bool × Bool × Bool) : D := .tup [.bl p.1, .bl p.2.1, .bl p.2.2]
theorem eqD_tb {p q : Bool × Bool × Bool} : eqD (tb p) (tb q) = decide (p = q) := by
  obtain ⟨a, b, c⟩ := p
  obtain ⟨x, y, z⟩ := q
  cases a <;> cases b <;> cases c <;> cases x <;> cases y <;> cases z <;> rfl
theorem can_tb {r : List (Bool × Bool × Bool)} : PyData.canLayAll0 (pys (r.map tb)) = true := by
  induction r with
  | nil => rfl
  | cons a l ih => exact ih
theorem dep_tb {r : List (Bool × Bool × Bool)} : PyData.depthAll (pys (r.map tb)) ≤ 1 := by
  induction r with
  | nil => decide
  | cons a l ih =>
    show max 1 (PyData.depthAll (pys (l.map tb))) ≤ 1
    omega
theorem okD_tbs {r : List (Bool × Bool × Bool)} : okD (.lst (r.map tb)) = true := by
  show (PyData.canLayAll0 (pys (r.map tb)) && decide (PyData.depthAll (pys (r.map tb)) + 1 ≤ 64)) = true
  have := dep_tb (r := r)
  rw [can_tb, decide_eq_true (by omega)]; rfl
theorem anyEq_tb {r : List (Bool × Bool × Bool)} {p : Bool × Bool × Bool} : anyEq (r.map tb) (tb p) = r.contains p := by
  unfold anyEq
  induction r with
  | nil => rfl
  | cons a l ih =>
    rw [List.map_cons, List.any_cons, ih, eqD_tb, List.contains_cons]
    by_cases h : a = p
    · subst h; simp
    · simp [h, Ne.symm h]
theorem fIn_tb {r : List (Bool × Bool × Bool)} {p : Bool × Bool × Bool} : fInA [tb p, .lst (r.map tb)] = some (.fz (.bl (r.contains p))) := by
  have e : memD (tb p) (.lst (r.map tb)) = some (r.contains p) := by
    show (if (flatD (tb p) && (r.map tb).all flatD) = true then some (anyEq (r.map tb) (tb p)) else if (okD (tb p) && okD (.lst (r.map tb))) = true then some (anyEq (r.map tb) (tb p)) else none) = _
    rw [if_neg (by show ¬ (false && _) = true; simp), if_pos (by rw [okD_tbs]; rfl), anyEq_tb]
  unfold fInA
  show (match (memD (tb p) (.lst (r.map tb))).map fun b => O.fz (.bl b) with
    | some o => some o
    | none => fInD [tb p, .lst (r.map tb)]) = _
  rw [e]; rfl
def rows (ps a b c : List Str) : List (Bool × Bool × Bool) := ps.map fun p => (decide (p ∈ a), decide (p ∈ b), decide (p ∈ c))
def barS (ps a b c : List Str) : Bool := (rows ps a b c).contains (true, true, true) && ((rows ps a b c).contains (true, false, false) && ((rows ps a b c).contains (false, true, false) && (rows ps a b c).contains (false, false, true)))
theorem shal_ol (ds : List D) : shal (.ol (ds.map O.fz)) = some (.lst ds) := by
  show (allFz (ds.map O.fz)).map D.lst = _
  rw [allFz_fz]; rfl
theorem s_barred {ps a b c : List Str} (hc : ps.length ≤ cap) : g_is_barred [.fz (ts ps), .fz (.tup [ts a, ts b, ts c])] = some (.fz (.bl (barS ps a b c)), [some (.fz (ts ps)), some (.fz (.tup [ts a, ts b, ts c]))]) := by
  let S0 : Pz.Env := [some (.fz (ts ps)), some (.fz (.tup [ts a, ts b, ts c])), none, none, none]
  let S1 : Pz.Env := [some (.fz (ts ps)), some (.fz (.tup [ts a, ts b, ts c])), some (.ol (((rows ps a b c).map tb).map O.fz)), none, none]
  have a1 : eLc (.nm 3) (iVal (aVar 0)) tYes (eTup (lCons (e2 fInA (aVar 3) (aTmp (eEls (eAt (.sub (.slot 1) (qLit (.int 0)))) (e2 fIdx (aVar 1) (aTmp (eLit (.int 0))))))) (lCons (e2 fInA (aVar 3) (aTmp (eEls (eAt (.sub (.slot 1) (qLit (.int 1)))) (e2 fIdx (aVar 1) (aTmp (eLit (.int 1))))))) (lCons (e2 fInA (aVar 3) (aTmp (eEls (eAt (.sub (.slot 1) (qLit (.int 2)))) (e2 fIdx (aVar 1) (aTmp (eLit (.int 2))))))) (lNil))))) [3] S0 = some (.ol (((rows ps a b c).map tb).map O.fz), S0) := by
    have := lc_map (tg := .nm 3) (it := iVal (aVar 0)) (own := [3]) (S := S0) (S1 := S0) (ds := ps.map D.str) (e := eTup (lCons (e2 fInA (aVar 3) (aTmp (eEls (eAt (.sub (.slot 1) (qLit (.int 0)))) (e2 fIdx (aVar 1) (aTmp (eLit (.int 0))))))) (lCons (e2 fInA (aVar 3) (aTmp (eEls (eAt (.sub (.slot 1) (qLit (.int 1)))) (e2 fIdx (aVar 1) (aTmp (eLit (.int 1))))))) (lCons (e2 fInA (aVar 3) (aTmp (eEls (eAt (.sub (.slot 1) (qLit (.int 2)))) (e2 fIdx (aVar 1) (aTmp (eLit (.int 2))))))) (lNil)))))
      (fun d => match d with | .str p => .fz (tb (decide (p ∈ a), decide (p ∈ b), decide (p ∈ c))) | _ => .fz .non) rfl (by rw [List.length_map]; exact hc) (fun d hd => by
        obtain ⟨p, _, rfl⟩ := List.mem_map.mp hd
        let S2 : Pz.Env := [some (.fz (ts ps)), some (.fz (.tup [ts a, ts b, ts c])), none, some (.fz (.str p)), none]
        have i0 : e2 fInA (aVar 3) (aTmp (eEls (eAt (.sub (.slot 1) (qLit (.int 0)))) (e2 fIdx (aVar 1) (aTmp (eLit (.int 0)))))) S2 = some (.fz (.bl (decide (p ∈ a))), S2) := e2_vt rfl ((els_2 rfl).trans (e2_vt (o' := .fz (.int 0)) (r := .fz (ts a)) rfl rfl rfl rfl rfl)) rfl rfl fIn_ts
        have i1 : e2 fInA (aVar 3) (aTmp (eEls (eAt (.sub (.slot 1) (qLit (.int 1)))) (e2 fIdx (aVar 1) (aTmp (eLit (.int 1)))))) S2 = some (.fz (.bl (decide (p ∈ b))), S2) := e2_vt rfl ((els_2 rfl).trans (e2_vt (o' := .fz (.int 1)) (r := .fz (ts b)) rfl rfl rfl rfl rfl)) rfl rfl fIn_ts
        have i2 : e2 fInA (aVar 3) (aTmp (eEls (eAt (.sub (.slot 1) (qLit (.int 2)))) (e2 fIdx (aVar 1) (aTmp (eLit (.int 2)))))) S2 = some (.fz (.bl (decide (p ∈ c))), S2) := e2_vt rfl ((els_2 rfl).trans (e2_vt (o' := .fz (.int 2)) (r := .fz (ts c)) rfl rfl rfl rfl rfl)) rfl rfl fIn_ts
        refine ⟨S2, S2, rfl, ?_, rfl⟩
        unfold eTup lCons
        simp only [i0, i1, i2, lNil]
        rfl)
    rw [this]
    unfold rows
    rw [List.map_map, List.map_map, List.map_map]
    rfl
  have hsh : shal (.ol (((rows ps a b c).map tb).map O.fz)) = some (.lst ((rows ps a b c).map tb)) := shal_ol _
  have b1 : e2 fInA (aTmp (eLit c_ALL)) (aVar 2) S1 = some (.fz (.bl ((rows ps a b c).contains (true, true, true))), S1) := e2_tv rfl rfl hsh (fIn_tb (p := (true, true, true)))
  let al : List (Bool × Bool × Bool) := [(true, false, false), (false, true, false), (false, false, true)]
  have b2 : eLc (.nm 4) (iVal (aTmp (eLit c_ALONE))) tYes (e2 fInA (aVar 4) (aVar 2)) [4] S1 = some (.ol ((al.map fun p => D.bl ((rows ps a b c).contains p)).map O.fz), S1) := by
    have := lc_map (tg := .nm 4) (it := iVal (aTmp (eLit c_ALONE))) (own := [4]) (S := S1) (S1 := S1) (ds := al.map tb) (e := e2 fInA (aVar 4) (aVar 2)) (fun d => match d with | .tup [.bl x, .bl y, .bl z] => .fz (.bl ((rows ps a b c).contains (x, y, z))) | _ => .fz .non) rfl (by decide) (fun d hd => by
      obtain ⟨p, _, rfl⟩ := List.mem_map.mp hd
      exact ⟨[some (.fz (ts ps)), some (.fz (.tup [ts a, ts b, ts c])), some (.ol (((rows ps a b c).map tb).map O.fz)), none, some (.fz (tb p))], _, rfl, e2_vv rfl rfl rfl hsh fIn_tb, rfl⟩)
    rw [this]
    rfl
  have b3 : eBi fAll (aCons (aTmp (eLc (.nm 4) (iVal (aTmp (eLit c_ALONE))) tYes (e2 fInA (aVar 4) (aVar 2)) [4])) aNil) S1 = some (.fz (.bl ((rows ps a b c).contains (true, false, false) && ((rows ps a b c).contains (false, true, false) && (rows ps a b c).contains (false, false, true)))), S1) := by
    refine e1_val b2 ?_
    show fAll [.lst (frs _)] = _
    rw [frs_fz]
    show some (O.fz (.bl (List.all [_, _, _] id))) = _
    simp [List.all]
  have b4 : eAnd (e2 fInA (aTmp (eLit c_ALL)) (aVar 2)) (eBi fAll (aCons (aTmp (eLc (.nm 4) (iVal (aTmp (eLit c_ALONE))) tYes (e2 fInA (aVar 4) (aVar 2)) [4])) aNil)) S1 = some (.fz (.bl (barS ps a b c)), S1) := by
    unfold eAnd
    rw [b1]
    unfold barS
    cases (rows ps a b c).contains (true, true, true) with
    | true => exact b3
    | false => rfl
  have a2 : m_is_barred S0 = some (.rt (.fz (.bl (barS ps a b c))) S1) := (seq_nx (set_val a1)).trans (ret_val b4)
  exact run_rt (S0 := S0) rfl a2
end K16
set_option Elab.async false
set_option linter.all false
set_option maxRecDepth 100000
set_option maxHeartbeats 4000000
namespace K16
open PySem PySem.Spec L2 Pz
def threeB (ps a b c : List Str) : Bool := !((two ps a).any fun x => (two ps b).any fun y => (two ps c).any fun z => barS ps x y z)
theorem s_three {ps a b c : List Str} (hc : ps.length ≤ cap) : g_are_three [.fz (ts ps), .fz (ts a), .fz (ts b), .fz (ts c)] = some (.fz (.bl (threeB ps a b c)), [some (.fz (ts ps)), some (.fz (ts a)), some (.fz (ts b)), some (.fz (ts c))]) := by
  let E (x y z : Option O) : Pz.Env := [some (.fz (ts ps)), some (.fz (ts a)), some (.fz (ts b)), some (.fz (ts c)), x, y, z]
  have in3 : ∀ (x y : List Str) z, ∃ S2, (∃ z, S2 = E (some (.fz (ts x))) (some (.fz (ts y))) z) ∧
      sFor (.nm 6) (iVal (aTmp (eCall g_sides_told io_sides_told (aCons (aVar 0) (aCons (aVar 3) (aNil)))))) (sIf (tE (eCall g_is_barred io_is_barred (aCons (aVar 0) (aCons (aTmp (eTup (lCons (eVar 4) (lCons (eVar 5) (lCons (eVar 6) (lNil)))))) (aNil))))) (sRet (eLit (.bl false))) (sNil)) (E (some (.fz (ts x))) (some (.fz (ts y))) z) = some (if ((two ps c).map ts).any (fun d => barS ps x y (unts d)) = true then .rt (.fz (.bl false)) S2 else .nx S2) := by
    intro x y z
    refine sFor_search (o := .fz (.bl false)) (Inv := fun S => ∃ z, S = E (some (.fz (ts x))) (some (.fz (ts y))) z) (sides_it hc rfl rfl) (fun d hd S hS => ?_) ⟨z, rfl⟩
    obtain ⟨z, rfl⟩ := hS
    obtain ⟨l, _, rfl⟩ := List.mem_map.mp hd
    have hb := s_barred (ps := ps) (a := x) (b := y) (c := l) hc
    let S1 := E (some (.fz (ts x))) (some (.fz (ts y))) (some (.fz (ts l)))
    have t1 : eTup (lCons (eVar 4) (lCons (eVar 5) (lCons (eVar 6) lNil))) S1 = some (.fz (.tup [ts x, ts y, ts l]), S1) := rfl
    have c1 : eCall g_is_barred io_is_barred (aCons (aVar 0) (aCons (aTmp (eTup (lCons (eVar 4) (lCons (eVar 5) (lCons (eVar 6) lNil))))) aNil)) S1 = some (.fz (.bl (barS ps x y l)), S1) :=
      (call_val (io := io_is_barred) (S1 := S1) (S2 := S1) (xs := [.ref 0, .tmp (.fz (.tup [ts x, ts y, ts l]))]) (cons_val (S1 := S1) rfl (cons_val (tmp_val t1) rfl)) rfl hb).trans rfl
    refine ⟨S1, S1, rfl, ⟨_, rfl⟩, ?_⟩
    rw [unts_ts]
    cases he : barS ps x y l with
    | true => rw [if_pos rfl]; exact (if_t (tE_val (by rw [c1, he]))).trans rfl
    | false => rw [if_neg Bool.false_ne_true]; exact (if_f (tE_val (by rw [c1, he]))).trans rfl
  have in2 : ∀ (x : List Str) y z, ∃ S2, (∃ y z, S2 = E (some (.fz (ts x))) y z) ∧
      sFor (.nm 5) (iVal (aTmp (eCall g_sides_told io_sides_told (aCons (aVar 0) (aCons (aVar 2) (aNil)))))) (sFor (.nm 6) (iVal (aTmp (eCall g_sides_told io_sides_told (aCons (aVar 0) (aCons (aVar 3) (aNil)))))) (sIf (tE (eCall g_is_barred io_is_barred (aCons (aVar 0) (aCons (aTmp (eTup (lCons (eVar 4) (lCons (eVar 5) (lCons (eVar 6) (lNil)))))) (aNil))))) (sRet (eLit (.bl false))) (sNil))) (E (some (.fz (ts x))) y z) = some (if ((two ps b).map ts).any (fun d' => ((two ps c).map ts).any (fun d => barS ps x (unts d') (unts d))) = true then .rt (.fz (.bl false)) S2 else .nx S2) := by
    intro x y z
    refine sFor_search (o := .fz (.bl false)) (Inv := fun S => ∃ y z, S = E (some (.fz (ts x))) y z) (hit := fun d' => ((two ps c).map ts).any (fun d => barS ps x (unts d') (unts d))) (sides_it hc rfl rfl) (fun d hd S hS => ?_) ⟨y, z, rfl⟩
    obtain ⟨y, z, rfl⟩ := hS
    obtain ⟨l, _, rfl⟩ := List.mem_map.mp hd
    obtain ⟨S3, ⟨z', e3⟩, e4⟩ := in3 x l z
    refine ⟨_, S3, rfl, ⟨_, _, e3⟩, ?_⟩
    rw [unts_ts]
    exact e4
  obtain ⟨S2, ⟨x, y, z, hS2⟩, e⟩ := sFor_search (tg := .nm 4) (o := .fz (.bl false)) (Inv := fun S => ∃ x y z, S = E x y z) (hit := fun d'' => ((two ps b).map ts).any (fun d' => ((two ps c).map ts).any (fun d => barS ps (unts d'') (unts d') (unts d)))) (sides_it (S := E none none none) (l := a) (i := 1) hc rfl rfl) (fun d hd S hS => by
    obtain ⟨x, y, z, rfl⟩ := hS
    obtain ⟨l, _, rfl⟩ := List.mem_map.mp hd
    obtain ⟨S3, ⟨y', z', e3⟩, e4⟩ := in2 l y z
    refine ⟨_, S3, rfl, ⟨_, _, _, e3⟩, ?_⟩
    rw [unts_ts]
    exact e4) ⟨_, _, _, rfl⟩
  have en : (((two ps a).map ts).any fun d'' => ((two ps b).map ts).any fun d' => ((two ps c).map ts).any fun d => barS ps (unts d'') (unts d') (unts d)) = !threeB ps a b c := by
    unfold threeB
    rw [Bool.not_not, any_ts (L := two ps a) (f := fun x => ((two ps b).map ts).any fun d' => ((two ps c).map ts).any fun d => barS ps x (unts d') (unts d))]
    congr 1
    funext x
    rw [any_ts (L := two ps b) (f := fun y => ((two ps c).map ts).any fun d => barS ps x y (unts d))]
    congr 1
    funext y
    exact any_ts (L := two ps c) (f := fun z => barS ps x y z)
  rw [en] at e
  subst hS2
  cases hb : threeB ps a b c with
  | true =>
    rw [hb, if_neg (show ¬ (!true) = true by decide)] at e
    exact z_run rfl ((seq_nx e).trans rfl) rfl
  | false =>
    rw [hb, if_pos (show (!false) = true from rfl)] at e
    exact z_run rfl (seq_rt e) rfl
end K16
set_option Elab.async false
set_option linter.all false
set_option maxRecDepth 100000
set_option maxHeartbeats 4000000
namespace K16
open PySem PySem.Spec L2 Pz
theorem comb3_all : ((List.range 22).all fun n => match combI n 3 with
  | some ys => decide (ys.length ≤ cap) && ys.all fun y => match y with
    | [i, j, k] => decide (i < n) && decide (j < n) && decide (k < n)
    | _ => false
  | none => false) = true := by decide +kernel
theorem comb3 {n : Nat} (h : n < 22) : ∃ ys, combI n 3 = some ys ∧ ys.length ≤ cap ∧ ∀ y ∈ ys, ∃ i j k, y = [i, j, k] ∧ i < n ∧ j < n ∧ k < n := by
  have a := List.all_eq_true.mp comb3_all n (List.mem_range.mpr h)
  cases hc : combI n 3 with
  | none => rw [hc] at a; cases a
  | some ys =>
    rw [hc] at a
    simp only [Bool.and_eq_true, decide_eq_true_eq, List.all_eq_true] at a
    refine ⟨ys, rfl, a.1, fun y hy => ?_⟩
    have b := a.2 y hy
    match y, b with
    | [i, j, k], b => 
      simp only [Bool.and_eq_true, decide_eq_true_eq] at b
      exact ⟨i, j, k, rfl, b.1.1, b.1.2, b.2⟩
def at3 (L : List (List Str)) (y : List Nat) : List (List Str) := y.map fun i => L.getD i []
def three3 (ps : List Str) : List (List Str) → Bool
  | [a, b, c] => threeB ps a b c
  | _ => false
def togB (ps : List Str) (L : List (List Str)) (ys : List (List Nat)) : Bool := !decide (ps.length * (ps.length - 1 : Int) < 2 * L.length) && ys.all fun y => three3 ps (at3 L y)
end K16
set_option Elab.async false
set_option linter.all false
set_option maxRecDepth 100000
set_option maxHeartbeats 4000000
namespace K16
open PySem PySem.Spec L2 Pz
local macro_rules
  | `(tactic| infer_instance) => `(tactic| first
    | (with_reducible exact Pz.fIn_ts) | (with_reducible exact Pz.fEq_int) | (with_reducible exact Pz.fNe_int) | (with_reducible exact Pz.fSl_loT) | (with_reducible exact Pz.fSl_hiT) | (with_reducible exact Pz.fSl_loL) | (with_reducible exact Pz.fSl_hiL) | (with_reducible exact Pz.upTo0 _)
    | (with_reducible exact Pz.fIn_ls)
    | (with_reducible exact Pz.fNotIn_ts)
    | (with_reducible exact Pz.fNe_bl)
    | ((with_reducible apply Pz.z_fLen); first | (with_reducible exact List.length_map ..) | exact rfl)
    | ((with_reducible apply Pz.z_fLenT); first | (with_reducible exact List.length_map ..) | exact rfl)
    | ((with_reducible apply Pz.small_nat); assumption)
    | exact rfl)
local macro_rules
  | `(tactic| nofun) => `(tactic| first
    | (with_reducible exact Pz.z_g0)
    | (with_reducible apply Pz.z_gS)
    | (with_reducible assumption)
    | (with_reducible exact Pz.z_s0)
    | (with_reducible apply Pz.z_sS)
    | (with_reducible exact Pz.z_lit)
    | (with_reducible apply Pz.z_var)
    | (with_reducible apply Pz.eBi_val)
    | (with_reducible apply Pz.cons_val)
    | (with_reducible exact Pz.z_anil)
    | (with_reducible apply Pz.var_val)
    | (with_reducible apply Pz.tmp_val)
    | (with_reducible exact Pz.z_r0)
    | (with_reducible apply Pz.z_rS)
    | (with_reducible apply Pz.z_rT)
    | ((with_reducible apply Pz.rsv_ref); (exact rfl); first | (with_reducible exact Pz.z_shfz) | (with_reducible exact Pz.shal_map _ _) | (with_reducible assumption) | exact rfl)
    | ((with_reducible apply Pz.z_rF); (exact rfl); (exact rfl))
    | (with_reducible exact Pz.z_shfz)
    | (with_reducible exact Pz.shal_map _ _)
    | (with_reducible exact Pz.z_frfz)
    | (with_reducible exact Pz.fr_map _ _)
    | (with_reducible apply Pz.z_frol)
    | (with_reducible exact Pz.z_frs0)
    | (with_reducible apply Pz.z_frsS)
    | (with_reducible exact Pz.frs_map _ _)
    | (with_reducible apply Pz.z_tup)
    | (with_reducible apply Pz.z_lst)
    | (with_reducible exact Pz.z_lnil)
    | (with_reducible apply Pz.z_lcons)
    | ((with_reducible apply Pz.z_els2); (exact rfl))
    | (with_reducible apply Pz.els_1)
    | (with_reducible apply Pz.z_lenAt)
    | (with_reducible apply Pz.z_getS)
    | (with_reducible apply Pz.z_atF)
    | (with_reducible exact List.length_map ..)
    | (with_reducible apply Pz.z_sl)
    | (with_reducible exact Pz.z_ev0)
    | (with_reducible apply Pz.z_ev1)
    | (with_reducible apply Pz.z_call)
    | (with_reducible exact Pz.z_l0)
    | ((with_reducible show Pz.lend _ _ _ = _); (apply Pz.z_lT))
    | ((with_reducible show Pz.lend _ _ _ = _); (apply Pz.z_lZ); exact rfl)
    | ((with_reducible show Pz.lend _ _ _ = _); (apply Pz.z_lO); exact rfl; (first | exact rfl | exact Pz.Src.own ‹_›))
    | ((with_reducible show Pz.lend _ _ _ = _); (apply Pz.z_lF); exact rfl)
    | (with_reducible exact Pz.z_b0)
    | ((with_reducible show Pz.giveBack _ _ _ _ = _); (apply Pz.z_bT))
    | ((with_reducible show Pz.giveBack _ _ _ _ = _); (apply Pz.z_bR))
    | ((with_reducible show Pz.giveBack _ _ _ _ = _); (apply Pz.z_bF))
    | (with_reducible apply Pz.tE_val)
    | (with_reducible apply Pz.z_not)
    | (with_reducible apply Pz.z_eT)
    | (with_reducible apply Pz.z_eNot)
    | (with_reducible apply Pz.z_chn)
    | (with_reducible apply Pz.and_val)
    | (with_reducible apply Pz.or_val)
    | (with_reducible apply Pz.z_set)
    | (with_reducible apply Pz.ret_val)
    | (with_reducible apply Pz.z_exp)
    | (with_reducible exact Pz.z_nil)
    | (with_reducible apply Pz.z_par)
    | (with_reducible exact Pz.z_a0)
    | (with_reducible apply Pz.z_aS)
    | (with_reducible apply Pz.z_bnm)
    | (with_reducible apply Pz.z_btp)
    | (with_reducible exact Pz.z_bs0)
    | (with_reducible apply Pz.z_bsS)
    | (with_reducible exact Pz.z_cl0)
    | (with_reducible apply Pz.z_clS)
    | (with_reducible exact Pz.z_pb0)
    | (with_reducible apply Pz.z_pbS)
    | (with_reducible apply Pz.z_rng1)
    | (with_reducible apply Pz.z_ivr)
    | (with_reducible apply Pz.z_ivt)
    | (with_reducible exact Pz.z_itl)
    | (with_reducible exact Pz.z_itt)
    | (with_reducible exact Pz.z_its)
    | (with_reducible apply Pz.z_lcm)
    | (with_reducible apply Pz.z_lcf)
    | intro _
    | infer_instance)
local macro_rules
  | `(tactic| and_intros) => `(tactic| first | (nofun <;> and_intros))
local macro_rules
  | `(tactic| infer_instance) => `(tactic| assumption)
def cutO (f l : List Str) : Option (List Str) := if decide ((0 : Int) < (l.filter fun p => decide (p ∈ f)).length) && decide (((l.filter fun p => decide (p ∈ f)).length : Int) < l.length) then some (other (l.headD "") l (l.filter fun p => decide (p ∈ f))) else none
def oO : Option (List Str) → D
  | some l => ts l
  | none => .non
theorem s_cut {h : Str} {f l : List Str} (hc : (h :: l).length ≤ cap) : g_cut_told [.fz (ts f), .fz (ts (h :: l))] = some (.fz (oO (cutO f (h :: l))), [some (.fz (ts f)), some (.fz (ts (h :: l)))]) := by
  have c1 : g_side_told [.fz (ts (h :: l)), .ol (((h :: l).filter fun p => decide (p ∈ f)).map fun p => .fz (.str p))] = _ := s_side (l := (h :: l).filter fun p => decide (p ∈ f)) (.inr (shal_map _ _)) hc
  unfold cutO
  cases hb : decide ((0 : Int) < ((h :: l).filter fun p => decide (p ∈ f)).length) && decide ((((h :: l).filter fun p => decide (p ∈ f)).length : Int) < (h :: l).length) with
  | true =>
    apply z_run (S0 := [some (.fz (ts f)), some (.fz (ts (h :: l))), none, none]) rfl
    · apply z_seq
      · and_intros
      · apply ret_val
        apply z_ift
        · rw [← hb]
          and_intros
        · and_intros
    · rfl
  | false =>
    apply z_run (S0 := [some (.fz (ts f)), some (.fz (ts (h :: l))), none, none]) rfl
    · apply z_seq
      · and_intros
      · apply ret_val
        apply z_iff
        · rw [← hb]
          and_intros
        · and_intros
    · rfl
theorem fIdx_hdT {h : Str} {tl : List Str} : fIdx [.tup ((h :: tl).map D.str), .int 0] = some (.fz (.str h)) := fIdx_hd
theorem fEq_nil2 {l : List Str} (h : ∀ x ∈ l, PyData.strOk x = true) : fEq [.lst (l.map D.str), .lst []] = some (.fz (.bl l.isEmpty)) := by
  rw [fEq_nil (okD_lst h)]; cases l <;> rfl
theorem fEq_int {i j : Int} : fEq [.int i, .int j] = some (.fz (.bl (decide (i = j)))) := by
  show some (O.fz (.bl (eqD (.int i) (.int j)))) = _
  congr 3
local macro_rules
  | `(tactic| infer_instance) => `(tactic| first
    | (with_reducible exact fIdx_hdT) | (with_reducible exact fEq_int) | (with_reducible exact fEq_nil2 ‹_›))
def lcutO (side some : List Str) : Option (List Str) :=
  if (some.filter fun p => decide (p ∈ side)).isEmpty || decide (((some.filter fun p => decide (p ∈ side)).length : Int) = some.length) then none
  else Option.some (some.filter fun p => decide (p ∈ side) != decide (some.headD "" ∈ side))
theorem s_lcut {h : Str} {ps sd tl : List Str} (hc : (h :: tl).length ≤ cap) (hok : ∀ x ∈ h :: tl, PyData.strOk x = true) : g__law_cut [.fz (ts ps), .fz (ts sd), .fz (ts (h :: tl))] = some (.fz (oO (lcutO sd (h :: tl))), [some (.fz (ts ps)), some (.fz (ts sd)), some (.fz (ts (h :: tl)))]) := by
  have hok2 : ∀ x ∈ (h :: tl).filter fun p => decide (p ∈ sd), PyData.strOk x = true := fun x hx => hok x (List.mem_filter.mp hx).1
  unfold lcutO
  cases hb : ((h :: tl).filter fun p => decide (p ∈ sd)).isEmpty || decide ((((h :: tl).filter fun p => decide (p ∈ sd)).length : Int) = (h :: tl).length) with
  | true =>
    apply z_run (S0 := [some (.fz (ts ps)), some (.fz (ts sd)), some (.fz (ts (h :: tl))), none, none]) rfl
    · apply z_seq
      · and_intros
      · apply seq_rt
        apply z_sif_t
        · rw [← hb]
          and_intros
        · and_intros
    · rfl
  | false =>
    apply z_run (S0 := [some (.fz (ts ps)), some (.fz (ts sd)), some (.fz (ts (h :: tl))), none, none]) rfl
    · apply z_seq
      · and_intros
      · apply z_seq
        · apply z_sif_f
          · rw [← hb]
            and_intros
          · and_intros
        · and_intros
    · rfl
end K16
set_option Elab.async false
set_option linter.all false
set_option maxRecDepth 100000
set_option maxHeartbeats 4000000
namespace K16
open PySem PySem.Spec L2 Pz
local macro_rules
  | `(tactic| infer_instance) => `(tactic| first
    | (with_reducible exact Pz.fIn_ts) | (with_reducible exact Pz.fEq_int) | (with_reducible exact Pz.fNe_int) | (with_reducible exact Pz.fSl_loT) | (with_reducible exact Pz.fSl_hiT) | (with_reducible exact Pz.fSl_loL) | (with_reducible exact Pz.fSl_hiL) | (with_reducible exact Pz.upTo0 _)
    | (with_reducible exact Pz.fIn_ls)
    | (with_reducible exact Pz.fNotIn_ts)
    | (with_reducible exact Pz.fNe_bl)
    | ((with_reducible apply Pz.z_fLen); first | (with_reducible exact List.length_map ..) | exact rfl)
    | ((with_reducible apply Pz.z_fLenT); first | (with_reducible exact List.length_map ..) | exact rfl)
    | ((with_reducible apply Pz.small_nat); assumption)
    | exact rfl)
local macro_rules
  | `(tactic| nofun) => `(tactic| first
    | (with_reducible exact Pz.z_g0)
    | (with_reducible apply Pz.z_gS)
    | (with_reducible assumption)
    | (with_reducible exact Pz.z_s0)
    | (with_reducible apply Pz.z_sS)
    | (with_reducible exact Pz.z_lit)
    | (with_reducible apply Pz.z_var)
    | (with_reducible apply Pz.eBi_val)
    | (with_reducible apply Pz.cons_val)
    | (with_reducible exact Pz.z_anil)
    | (with_reducible apply Pz.var_val)
    | (with_reducible apply Pz.tmp_val)
    | (with_reducible exact Pz.z_r0)
    | (with_reducible apply Pz.z_rS)
    | (with_reducible apply Pz.z_rT)
    | ((with_reducible apply Pz.rsv_ref); (exact rfl); first | (with_reducible exact Pz.z_shfz) | (with_reducible exact Pz.shal_map _ _) | (with_reducible assumption) | exact rfl)
    | ((with_reducible apply Pz.z_rF); (exact rfl); (exact rfl))
    | (with_reducible exact Pz.z_shfz)
    | (with_reducible exact Pz.shal_map _ _)
    | (with_reducible exact Pz.z_frfz)
    | (with_reducible exact Pz.fr_map _ _)
    | (with_reducible apply Pz.z_frol)
    | (with_reducible exact Pz.z_frs0)
    | (with_reducible apply Pz.z_frsS)
    | (with_reducible exact Pz.frs_map _ _)
    | (with_reducible apply Pz.z_tup)
    | (with_reducible apply Pz.z_lst)
    | (with_reducible exact Pz.z_lnil)
    | (with_reducible apply Pz.z_lcons)
    | ((with_reducible apply Pz.z_els2); (exact rfl))
    | (with_reducible apply Pz.els_1)
    | (with_reducible apply Pz.z_lenAt)
    | (with_reducible apply Pz.z_getS)
    | (with_reducible apply Pz.z_atF)
    | (with_reducible exact List.length_map ..)
    | (with_reducible apply Pz.z_sl)
    | (with_reducible exact Pz.z_ev0)
    | (with_reducible apply Pz.z_ev1)
    | (with_reducible apply Pz.z_call)
    | (with_reducible exact Pz.z_l0)
    | ((with_reducible show Pz.lend _ _ _ = _); (apply Pz.z_lT))
    | ((with_reducible show Pz.lend _ _ _ = _); (apply Pz.z_lZ); exact rfl)
    | ((with_reducible show Pz.lend _ _ _ = _); (apply Pz.z_lO); exact rfl; (first | exact rfl | exact Pz.Src.own ‹_›))
    | ((with_reducible show Pz.lend _ _ _ = _); (apply Pz.z_lF); exact rfl)
    | (with_reducible exact Pz.z_b0)
    | ((with_reducible show Pz.giveBack _ _ _ _ = _); (apply Pz.z_bT))
    | ((with_reducible show Pz.giveBack _ _ _ _ = _); (apply Pz.z_bR))
    | ((with_reducible show Pz.giveBack _ _ _ _ = _); (apply Pz.z_bF))
    | (with_reducible apply Pz.tE_val)
    | (with_reducible apply Pz.z_not)
    | (with_reducible apply Pz.z_eT)
    | (with_reducible apply Pz.z_eNot)
    | (with_reducible apply Pz.z_chn)
    | (with_reducible apply Pz.and_val)
    | (with_reducible apply Pz.or_val)
    | (with_reducible apply Pz.z_set)
    | (with_reducible apply Pz.ret_val)
    | (with_reducible apply Pz.z_exp)
    | (with_reducible exact Pz.z_nil)
    | (with_reducible apply Pz.z_par)
    | (with_reducible exact Pz.z_a0)
    | (with_reducible apply Pz.z_aS)
    | (with_reducible apply Pz.z_bnm)
    | (with_reducible apply Pz.z_btp)
    | (with_reducible exact Pz.z_bs0)
    | (with_reducible apply Pz.z_bsS)
    | (with_reducible exact Pz.z_cl0)
    | (with_reducible apply Pz.z_clS)
    | (with_reducible exact Pz.z_pb0)
    | (with_reducible apply Pz.z_pbS)
    | (with_reducible apply Pz.z_rng1)
    | (with_reducible apply Pz.z_ivr)
    | (with_reducible apply Pz.z_ivt)
    | (with_reducible exact Pz.z_itl)
    | (with_reducible exact Pz.z_itt)
    | (with_reducible exact Pz.z_its)
    | (with_reducible apply Pz.z_lcm)
    | (with_reducible apply Pz.z_lcf)
    | intro _
    | infer_instance)
local macro_rules
  | `(tactic| and_intros) => `(tactic| first | (nofun <;> and_intros))
theorem z_enL {i : Nat} {S S' : Pz.Env} {o : O} {ds es : List D} (h : S[i]? = some (some o)) (hf : fr o = .lst ds) (hp : pairsFrom 0 ds = es) (hs : S.set i (some (.fz (.lst ds))) = S') : iEnL (aVar i) S = some (es, S') := by
  unfold iEnL; rw [var_val h]; subst hp; subst hs; simp only [h, hf]
def enumB : Nat → List Bool → List (Nat × Bool)
  | _, [] => []
  | k, b :: bs => (k, b) :: enumB (k + 1) bs
def encP (x : Nat × Bool) : D := .tup [.int x.1, .bl x.2]
theorem pairs_bl {α : Type} {f : α → Bool} : ∀ (L : List α) (k : Nat), pairsFrom k (L.map fun x => D.bl (f x)) = (enumB k (L.map f)).map encP
  | [], _ => rfl
  | a :: L, k => by
    show D.tup [.int k, .bl (f a)] :: pairsFrom (k + 1) _ = _
    rw [pairs_bl L (k + 1)]; rfl
def prevB (bs : List Bool) (k : Nat) : Bool := bs.getD ((k + bs.length - 1) % bs.length) false
theorem enumB_mem : ∀ (bs : List Bool) (k : Nat) (x : Nat × Bool), x ∈ enumB k bs → k ≤ x.1 ∧ x.1 < k + bs.length
  | [], _, _, h => by cases h
  | b :: bs, k, x, h => by
    rcases List.mem_cons.mp h with e | h
    · subst e; simp
    · have := enumB_mem bs (k + 1) x h
      simp only [List.length_cons]; omega
theorem enumB_len : ∀ (bs : List Bool) (k : Nat), (enumB k bs).length = bs.length
  | [], _ => rfl
  | b :: bs, k => by simp [enumB, enumB_len bs (k + 1)]
theorem idx_prev {α : Type} {f : α → Bool} {L : List α} {x : Nat × Bool} (h : x ∈ enumB 0 (L.map f)) : fIdx [.lst (L.map fun x => D.bl (f x)), .int ((x.1 : Int) - 1)] = some (.fz (.bl (prevB (L.map f) x.1))) := by
  have hx := enumB_mem _ _ _ h
  simp only [List.length_map, Nat.zero_add] at hx
  have key : L2.atI (L.map fun x => D.bl (f x)) ((x.1 : Int) - 1) = some (.bl (prevB (L.map f) x.1)) := by
    unfold L2.atI L2.ixN
    simp only [List.length_map]
    have e : ∀ j, j < L.length → (L.map fun x => D.bl (f x))[j]? = some (.bl ((L.map f).getD j false)) := by
      intro j hj
      simp [List.getD, List.getElem?_eq_getElem hj]
    by_cases h0 : x.1 = 0
    · rw [if_neg (by omega), if_pos (by omega)]
      unfold prevB
      simp only [List.length_map]
      rw [h0, Nat.zero_add, Nat.mod_eq_of_lt (by omega)]
      show (L.map fun x => D.bl (f x))[_]? = _
      rw [show (((0 : Nat) : Int) - 1 + (L.length : Int)).toNat = L.length - 1 by omega]
      exact e _ (by omega)
    · rw [if_pos (by omega), if_pos (by omega)]
      unfold prevB
      simp only [List.length_map]
      rw [show (x.1 + L.length - 1) = (x.1 - 1) + L.length by omega, Nat.add_mod_right, Nat.mod_eq_of_lt (by omega)]
      show (L.map fun x => D.bl (f x))[_]? = _
      rw [show ((x.1 : Int) - 1).toNat = x.1 - 1 by omega]
      exact e _ (by omega)
  show (match fIdxS _ with | some o => some o | none => fIdxD _) = _
  have e : fIdxS [.lst (L.map fun x => D.bl (f x)), .int ((x.1 : Int) - 1)] = some (.fz (.bl (prevB (L.map f) x.1))) := by
    show (L2.atI _ _).map O.fz = _
    rw [key]; rfl
  rw [e]
local macro_rules
  | `(tactic| infer_instance) => `(tactic| first
    | (with_reducible exact fEq_int) | (with_reducible exact idx_prev ‹_›))
local macro_rules
  | `(tactic| nofun) => `(tactic| first | (with_reducible apply z_enL) | (with_reducible exact pairs_bl _ _))
def bitsO (order sd : List Str) : List Bool := order.map fun p => decide (p ∈ sd)
def chg' (bs : List Bool) : Nat := ((enumB 0 bs).filter fun x => x.2 != prevB bs x.1).length
theorem s_is_arcs {od sd : List Str} (hc : od.length ≤ cap) : g_is_arcs [.fz (ts od), .fz (ts sd)] = some (.fz (.bl (decide ((chg' (bitsO od sd) : Int) = 2))), [some (.fz (ts od)), some (.fz (ts sd))]) := by
  have hc2 : (enumB 0 (od.map fun p => decide (p ∈ sd))).length ≤ cap := by rw [enumB_len, List.length_map]; exact hc
  apply z_run (S0 := [some (.fz (ts od)), some (.fz (ts sd)), none, none, none, none]) rfl
  · apply z_seq
    · and_intros
    · and_intros
  · rfl
end K16
set_option Elab.async false
set_option linter.all false
set_option maxRecDepth 100000
set_option maxHeartbeats 4000000
namespace K16
open PySem PySem.Spec L2 Pz
local macro_rules
  | `(tactic| infer_instance) => `(tactic| first
    | (with_reducible exact Pz.fIn_ts) | (with_reducible exact Pz.fEq_int) | (with_reducible exact Pz.fNe_int) | (with_reducible exact Pz.fSl_loT) | (with_reducible exact Pz.fSl_hiT) | (with_reducible exact Pz.fSl_loL) | (with_reducible exact Pz.fSl_hiL) | (with_reducible exact Pz.upTo0 _)
    | (with_reducible exact Pz.fIn_ls)
    | (with_reducible exact Pz.fNotIn_ts)
    | (with_reducible exact Pz.fNe_bl)
    | ((with_reducible apply Pz.z_fLen); first | (with_reducible exact List.length_map ..) | exact rfl)
    | ((with_reducible apply Pz.z_fLenT); first | (with_reducible exact List.length_map ..) | exact rfl)
    | ((with_reducible apply Pz.small_nat); assumption)
    | exact rfl)
local macro_rules
  | `(tactic| nofun) => `(tactic| first
    | (with_reducible exact Pz.z_g0)
    | (with_reducible apply Pz.z_gS)
    | (with_reducible assumption)
    | (with_reducible exact Pz.z_s0)
    | (with_reducible apply Pz.z_sS)
    | (with_reducible exact Pz.z_lit)
    | (with_reducible apply Pz.z_var)
    | (with_reducible apply Pz.eBi_val)
    | (with_reducible apply Pz.cons_val)
    | (with_reducible exact Pz.z_anil)
    | (with_reducible apply Pz.var_val)
    | (with_reducible apply Pz.tmp_val)
    | (with_reducible exact Pz.z_r0)
    | (with_reducible apply Pz.z_rS)
    | (with_reducible apply Pz.z_rT)
    | ((with_reducible apply Pz.rsv_ref); (exact rfl); first | (with_reducible exact Pz.z_shfz) | (with_reducible exact Pz.shal_map _ _) | (with_reducible assumption) | exact rfl)
    | ((with_reducible apply Pz.z_rF); (exact rfl); (exact rfl))
    | (with_reducible exact Pz.z_shfz)
    | (with_reducible exact Pz.shal_map _ _)
    | (with_reducible exact Pz.z_frfz)
    | (with_reducible exact Pz.fr_map _ _)
    | (with_reducible apply Pz.z_frol)
    | (with_reducible exact Pz.z_frs0)
    | (with_reducible apply Pz.z_frsS)
    | (with_reducible exact Pz.frs_map _ _)
    | (with_reducible apply Pz.z_tup)
    | (with_reducible apply Pz.z_lst)
    | (with_reducible exact Pz.z_lnil)
    | (with_reducible apply Pz.z_lcons)
    | ((with_reducible apply Pz.z_els2); (exact rfl))
    | (with_reducible apply Pz.els_1)
    | (with_reducible apply Pz.z_lenAt)
    | (with_reducible apply Pz.z_getS)
    | (with_reducible apply Pz.z_atF)
    | (with_reducible exact List.length_map ..)
    | (with_reducible apply Pz.z_sl)
    | (with_reducible exact Pz.z_ev0)
    | (with_reducible apply Pz.z_ev1)
    | (with_reducible apply Pz.z_call)
    | (with_reducible exact Pz.z_l0)
    | ((with_reducible show Pz.lend _ _ _ = _); (apply Pz.z_lT))
    | ((with_reducible show Pz.lend _ _ _ = _); (apply Pz.z_lZ); exact rfl)
    | ((with_reducible show Pz.lend _ _ _ = _); (apply Pz.z_lO); exact rfl; (first | exact rfl | exact Pz.Src.own ‹_›))
    | ((with_reducible show Pz.lend _ _ _ = _); (apply Pz.z_lF); exact rfl)
    | (with_reducible exact Pz.z_b0)
    | ((with_reducible show Pz.giveBack _ _ _ _ = _); (apply Pz.z_bT))
    | ((with_reducible show Pz.giveBack _ _ _ _ = _); (apply Pz.z_bR))
    | ((with_reducible show Pz.giveBack _ _ _ _ = _); (apply Pz.z_bF))
    | (with_reducible apply Pz.tE_val)
    | (with_reducible apply Pz.z_not)
    | (with_reducible apply Pz.z_eT)
    | (with_reducible apply Pz.z_eNot)
    | (with_reducible apply Pz.z_chn)
    | (with_reducible apply Pz.and_val)
    | (with_reducible apply Pz.or_val)
    | (with_reducible apply Pz.z_set)
    | (with_reducible apply Pz.ret_val)
    | (with_reducible apply Pz.z_exp)
    | (with_reducible exact Pz.z_nil)
    | (with_reducible apply Pz.z_par)
    | (with_reducible exact Pz.z_a0)
    | (with_reducible apply Pz.z_aS)
    | (with_reducible apply Pz.z_bnm)
    | (with_reducible apply Pz.z_btp)
    | (with_reducible exact Pz.z_bs0)
    | (with_reducible apply Pz.z_bsS)
    | (with_reducible exact Pz.z_cl0)
    | (with_reducible apply Pz.z_clS)
    | (with_reducible exact Pz.z_pb0)
    | (with_reducible apply Pz.z_pbS)
    | (with_reducible apply Pz.z_rng1)
    | (with_reducible apply Pz.z_ivr)
    | (with_reducible apply Pz.z_ivt)
    | (with_reducible exact Pz.z_itl)
    | (with_reducible exact Pz.z_itt)
    | (with_reducible exact Pz.z_its)
    | (with_reducible apply Pz.z_lcm)
    | (with_reducible apply Pz.z_lcf)
    | intro _
    | infer_instance)
local macro_rules
  | `(tactic| and_intros) => `(tactic| first | (nofun <;> and_intros))
def turnS (k : Nat) (od : List Str) : List Str := od.drop k ++ od.take k
def larcB (ps od sd : List Str) : Bool := (List.range od.length).any fun k => decide (Pz.pick ps ((turnS k od).take sd.length) = Pz.pick ps sd)
theorem s_larcs {ps od sd : List Str} (P : Ordr ps) (ho : od.Nodup) (ho2 : ∀ x ∈ od, x ∈ ps) (hl : od.length ≤ 7) (hs : sd.Nodup) (hs2 : ∀ x ∈ sd, x ∈ ps) : g__law_is_arcs [.fz (ts od), .fz (ts sd)] = some (.fz (.bl (larcB ps od sd)), [some (.fz (ts od)), some (.fz (ts sd))]) := by
  have hsm : od.length ≤ cap := by unfold cap; omega
  obtain ⟨⟨x, y⟩, e⟩ := z_search (α := Nat) (J := Option O × Option O) (tg := .nm 2) (o := .fz (.bl true)) (E := fun j => [some (.fz (ts od)), some (.fz (ts sd)), j.1, j.2]) (j0 := (none, none)) (S := [some (.fz (ts od)), some (.fz (ts sd)), none, none]) (L := List.range od.length) (enc := fun k => .int k) (hit := fun k => decide (Pz.pick ps ((turnS k od).take sd.length) = Pz.pick ps sd))
    (it := iRange1 (aCons (aTmp (eEls (eLenAt (.slot 0)) (eBi fLen (aCons (aVar 0) (aNil))))) (aNil))) (by and_intros)
    (b := sSeq (sSet 3 (e2 fAdd (aTmp (eSl (aVar 0) (some (eVar 2)) none)) (aTmp (eSl (aVar 0) none (some (eVar 2)))))) (sIf (tE (e2 fEq (aTmp (eBi fSorted (aCons (aTmp (eSl (aVar 3) none (some (eEls (eLenAt (.slot 1)) (eBi fLen (aCons (aVar 1) (aNil))))))) (aNil)))) (aTmp (eBi fSorted (aCons (aVar 1) (aNil)))))) (sRet (eLit (.bl true))) (sNil))) (fun k hk j => by
      have hk' := List.mem_range.mp hk
      have pm : (turnS k od).Perm od := by
        unfold turnS
        exact List.perm_append_comm.trans (by rw [List.take_append_drop])
      have hn : ((turnS k od).take sd.length).Nodup := (pm.nodup_iff.mpr ho).sublist (List.take_sublist _ _)
      have hm : ∀ x ∈ (turnS k od).take sd.length, x ∈ ps := fun x hx => ho2 x (pm.subset ((List.take_sublist _ _).subset hx))
      have h1 : fSorted [.tup (((turnS k od).take sd.length).map D.str)] = _ := fSorted_T P hn hm
      have h2 : fSorted [.tup (sd.map D.str)] = _ := fSorted_T P hs hs2
      have h3 : fAdd [.tup ((od.drop k).map D.str), .tup ((od.take k).map D.str)] = some (.fz (.tup ((turnS k od).map D.str))) := fAdd_T (by simp; unfold cap; omega)
      have h4 : fEq [.lst ((Pz.pick ps ((turnS k od).take sd.length)).map D.str), .lst ((Pz.pick ps sd).map D.str)] = _ := fEq_lst (fun x hx => P.ok x (List.mem_filter.mp hx).1) (fun x hx => P.ok x (List.mem_filter.mp hx).1)
      refine ⟨_, (some (.fz (.int k)), some (.fz (ts (turnS k od)))), rfl, ?_⟩
      cases he : decide (Pz.pick ps ((turnS k od).take sd.length) = Pz.pick ps sd) with
      | true =>
        rw [if_pos rfl]
        apply z_seq
        · and_intros
        · apply z_sif_t
          · rw [← he]
            and_intros
          · and_intros
      | false =>
        rw [if_neg Bool.false_ne_true]
        apply z_seq
        · and_intros
        · apply z_sif_f
          · rw [← he]
            and_intros
          · and_intros)
  cases hb : larcB ps od sd with
  | true =>
    rw [show (List.range od.length).any _ = larcB ps od sd from rfl, if_pos hb] at e
    exact z_run rfl (seq_rt e) rfl
  | false =>
    rw [show (List.range od.length).any _ = larcB ps od sd from rfl, hb, if_neg Bool.false_ne_true] at e
    exact z_run rfl ((seq_nx e).trans rfl) rfl
end K16
set_option Elab.async false
set_option linter.all false
set_option maxRecDepth 100000
set_option maxHeartbeats 4000000
namespace K16
open PySem PySem.Spec L2 Pz
local macro_rules
  | `(tactic| infer_instance) => `(tactic| first
    | (with_reducible exact Pz.fIn_ts) | (with_reducible exact Pz.fEq_int) | (with_reducible exact Pz.fNe_int) | (with_reducible exact Pz.fSl_loT) | (with_reducible exact Pz.fSl_hiT) | (with_reducible exact Pz.fSl_loL) | (with_reducible exact Pz.fSl_hiL) | (with_reducible exact Pz.upTo0 _)
    | (with_reducible exact Pz.fIn_ls)
    | (with_reducible exact Pz.fNotIn_ts)
    | (with_reducible exact Pz.fNe_bl)
    | ((with_reducible apply Pz.z_fLen); first | (with_reducible exact List.length_map ..) | exact rfl)
    | ((with_reducible apply Pz.z_fLenT); first | (with_reducible exact List.length_map ..) | exact rfl)
    | ((with_reducible apply Pz.small_nat); assumption)
    | exact rfl)
local macro_rules
  | `(tactic| nofun) => `(tactic| first
    | (with_reducible exact Pz.z_g0)
    | (with_reducible apply Pz.z_gS)
    | (with_reducible assumption)
    | (with_reducible exact Pz.z_s0)
    | (with_reducible apply Pz.z_sS)
    | (with_reducible exact Pz.z_lit)
    | (with_reducible apply Pz.z_var)
    | (with_reducible apply Pz.eBi_val)
    | (with_reducible apply Pz.cons_val)
    | (with_reducible exact Pz.z_anil)
    | (with_reducible apply Pz.var_val)
    | (with_reducible apply Pz.tmp_val)
    | (with_reducible exact Pz.z_r0)
    | (with_reducible apply Pz.z_rS)
    | (with_reducible apply Pz.z_rT)
    | ((with_reducible apply Pz.rsv_ref); (exact rfl); first | (with_reducible exact Pz.z_shfz) | (with_reducible exact Pz.shal_map _ _) | (with_reducible assumption) | exact rfl)
    | ((with_reducible apply Pz.z_rF); (exact rfl); (exact rfl))
    | (with_reducible exact Pz.z_shfz)
    | (with_reducible exact Pz.shal_map _ _)
    | (with_reducible exact Pz.z_frfz)
    | (with_reducible exact Pz.fr_map _ _)
    | (with_reducible apply Pz.z_frol)
    | (with_reducible exact Pz.z_frs0)
    | (with_reducible apply Pz.z_frsS)
    | (with_reducible exact Pz.frs_map _ _)
    | (with_reducible apply Pz.z_tup)
    | (with_reducible apply Pz.z_lst)
    | (with_reducible exact Pz.z_lnil)
    | (with_reducible apply Pz.z_lcons)
    | ((with_reducible apply Pz.z_els2); (exact rfl))
    | (with_reducible apply Pz.els_1)
    | (with_reducible apply Pz.z_lenAt)
    | (with_reducible apply Pz.z_getS)
    | (with_reducible apply Pz.z_atF)
    | (with_reducible exact List.length_map ..)
    | (with_reducible apply Pz.z_sl)
    | (with_reducible exact Pz.z_ev0)
    | (with_reducible apply Pz.z_ev1)
    | (with_reducible apply Pz.z_call)
    | (with_reducible exact Pz.z_l0)
    | ((with_reducible show Pz.lend _ _ _ = _); (apply Pz.z_lT))
    | ((with_reducible show Pz.lend _ _ _ = _); (apply Pz.z_lZ); exact rfl)
    | ((with_reducible show Pz.lend _ _ _ = _); (apply Pz.z_lO); exact rfl; (first | exact rfl | exact Pz.Src.own ‹_›))
    | ((with_reducible show Pz.lend _ _ _ = _); (apply Pz.z_lF); exact rfl)
    | (with_reducible exact Pz.z_b0)
    | ((with_reducible show Pz.giveBack _ _ _ _ = _); (apply Pz.z_bT))
    | ((with_reducible show Pz.giveBack _ _ _ _ = _); (apply Pz.z_bR))
    | ((with_reducible show Pz.giveBack _ _ _ _ = _); (apply Pz.z_bF))
    | (with_reducible apply Pz.tE_val)
    | (with_reducible apply Pz.z_not)
    | (with_reducible apply Pz.z_eT)
    | (with_reducible apply Pz.z_eNot)
    | (with_reducible apply Pz.z_chn)
    | (with_reducible apply Pz.and_val)
    | (with_reducible apply Pz.or_val)
    | (with_reducible apply Pz.z_set)
    | (with_reducible apply Pz.ret_val)
    | (with_reducible apply Pz.z_exp)
    | (with_reducible exact Pz.z_nil)
    | (with_reducible apply Pz.z_par)
    | (with_reducible exact Pz.z_a0)
    | (with_reducible apply Pz.z_aS)
    | (with_reducible apply Pz.z_bnm)
    | (with_reducible apply Pz.z_btp)
    | (with_reducible exact Pz.z_bs0)
    | (with_reducible apply Pz.z_bsS)
    | (with_reducible exact Pz.z_cl0)
    | (with_reducible apply Pz.z_clS)
    | (with_reducible exact Pz.z_pb0)
    | (with_reducible apply Pz.z_pbS)
    | (with_reducible apply Pz.z_rng1)
    | (with_reducible apply Pz.z_ivr)
    | (with_reducible apply Pz.z_ivt)
    | (with_reducible exact Pz.z_itl)
    | (with_reducible exact Pz.z_itt)
    | (with_reducible exact Pz.z_its)
    | (with_reducible apply Pz.z_lcm)
    | (with_reducible apply Pz.z_lcf)
    | intro _
    | infer_instance)
local macro_rules
  | `(tactic| and_intros) => `(tactic| first | (nofun <;> and_intros))
local macro_rules
  | `(tactic| infer_instance) => `(tactic| assumption)
theorem pick3 {L : List (List Str)} {i j k : Nat} (hi : i < L.length) (hj : j < L.length) (hk : k < L.length) : Pz.pickD (L.map ts) [i, j, k] = [ts (L.getD i []), ts (L.getD j []), ts (L.getD k [])] := by
  have e : ∀ i, i < L.length → (L.map ts).getD i .non = ts (L.getD i []) := by
    intro i hi
    simp [List.getD, List.getElem?_eq_getElem hi]
  show [(L.map ts).getD i .non, (L.map ts).getD j .non, (L.map ts).getD k .non] = _
  rw [e i hi, e j hj, e k hk]
def combs (n : Nat) : List (List Nat) := (combI n 3).getD []
def togL (ps : List Str) (L : List (List Str)) : Bool := if ((ps.length : Int) * ((ps.length : Int) - 1)) < 2 * (L.length : Int) then false else !(combs L.length).any fun y => !three3 ps (at3 L y)
theorem s_together {ps : List Str} {L : List (List Str)} (hc : ps.length ≤ 7) (hL0 : L.length ≤ 1000) : g_are_together [.fz (ts ps), .fz (.tup (L.map ts))] = some (.fz (.bl (togL ps L)), [some (.fz (ts ps)), some (.fz (.tup (L.map ts)))]) := by
  have m1 : fMulI [.int 2, .int (L.length : Int)] = some (.fz (.int (2 * (L.length : Int)))) := by
    unfold fMulI fI2; simp only [mulOk_of (i := 2) (j := L.length) (small_pow (by omega)) (small_pow (by omega)), if_true]
  have m2 : fMulI [.int (ps.length : Int), .int ((ps.length : Int) - 1)] = some (.fz (.int ((ps.length : Int) * ((ps.length : Int) - 1)))) := by
    unfold fMulI fI2; simp only [mulOk_of (i := ps.length) (j := (ps.length : Int) - 1) (small_pow (by omega)) (small_pow (by omega)), if_true]
  unfold togL
  by_cases hb : ((ps.length : Int) * ((ps.length : Int) - 1)) < 2 * (L.length : Int)
  · rw [if_pos hb]
    apply z_run (S0 := [some (.fz (ts ps)), some (.fz (.tup (L.map ts))), none, none, none]) rfl
    · apply seq_rt
      apply z_sif_t
      · rw [← decide_eq_true hb]
        and_intros
      · and_intros
    · rfl
  · rw [if_neg hb]
    have hn : (ps.length : Int) * ((ps.length : Int) - 1) ≤ 42 := by
      have : ps.length = 0 ∨ ps.length = 1 ∨ ps.length = 2 ∨ ps.length = 3 ∨ ps.length = 4 ∨ ps.length = 5 ∨ ps.length = 6 ∨ ps.length = 7 := by omega
      rcases this with e | e | e | e | e | e | e | e <;> rw [e] <;> decide
    obtain ⟨ys, y1, y2, y3⟩ := comb3 (n := L.length) (by omega)
    have ec : combs L.length = ys := by unfold combs; rw [y1]; rfl
    have cb : fComb [.tup (L.map ts), .int 3] = some (.ol (ys.map fun y => .fz (.tup (Pz.pickD (L.map ts) y)))) := by
      show combD (L.map ts) 3 = _
      unfold combD
      rw [if_pos (by decide), List.length_map]
      show (match combI L.length 3 with
        | some ys => if ys.length ≤ cap then some (O.ol (ys.map fun y => .fz (.tup (Pz.pickD (L.map ts) y)))) else none
        | none => none) = _
      rw [y1]; simp only [y2, if_true]
    obtain ⟨⟨x, y, z⟩, e⟩ := z_search (J := Option O × Option O × Option O) (tg := .tp [.nm 2, .nm 3, .nm 4]) (o := .fz (.bl false)) (E := fun j => [some (.fz (ts ps)), some (.fz (.tup (L.map ts))), j.1, j.2.1, j.2.2]) (j0 := (none, none, none)) (S := [some (.fz (ts ps)), some (.fz (.tup (L.map ts))), none, none, none]) (L := ys) (enc := fun y => .tup (Pz.pickD (L.map ts) y)) (hit := fun y => !three3 ps (at3 L y))
      (it := iVal (aTmp (eBi fComb (aCons (aVar 1) (aCons (aTmp (eLit (.int 3))) (aNil)))))) (by and_intros)
      (b := sIf (tNot (tE (eCall g_are_three io_are_three (aCons (aVar 0) (aCons (aVar 2) (aCons (aVar 3) (aCons (aVar 4) (aNil)))))))) (sRet (eLit (.bl false))) (sNil)) (fun y hy j => by
        obtain ⟨i, j', k, rfl, hi, hj, hk⟩ := y3 y hy
        have h3 := s_three (ps := ps) (a := L.getD i []) (b := L.getD j' []) (c := L.getD k []) (by unfold cap; omega)
        refine ⟨[some (.fz (ts ps)), some (.fz (.tup (L.map ts))), some (.fz (ts (L.getD i []))), some (.fz (ts (L.getD j' []))), some (.fz (ts (L.getD k [])))], (some (.fz (ts (L.getD i []))), some (.fz (ts (L.getD j' []))), some (.fz (ts (L.getD k [])))), ?_, ?_⟩
        · simp only [pick3 hi hj hk]; rfl
        · cases he : !three3 ps (at3 L [i, j', k]) with
          | true =>
            rw [if_pos rfl]
            apply z_sif_t
            · rw [← he]
              and_intros
            · and_intros
          | false =>
            rw [if_neg Bool.false_ne_true]
            apply z_sif_f
            · rw [← he]
              and_intros
            · and_intros)
    have hb' : decide (((ps.length : Int) * ((ps.length : Int) - 1)) < 2 * (L.length : Int)) = false := decide_eq_false hb
    rw [ec]
    apply z_run (S0 := [some (.fz (ts ps)), some (.fz (.tup (L.map ts))), none, none, none]) rfl
    · apply z_seq
      · apply z_sif_f
        · rw [← hb']
          and_intros
        · and_intros
      · cases hh : ys.any fun y => !three3 ps (at3 L y) with
        | true =>
          rw [hh, if_pos rfl] at e
          exact seq_rt e
        | false =>
          rw [hh, if_neg Bool.false_ne_true] at e
          exact (seq_nx e).trans rfl
    · rfl
end K16
set_option Elab.async false
set_option linter.all false
set_option maxRecDepth 100000
set_option maxHeartbeats 4000000
namespace K16
open PySem PySem.Spec L2 Pz
local macro_rules
  | `(tactic| infer_instance) => `(tactic| first
    | (with_reducible exact Pz.fIn_ts) | (with_reducible exact Pz.fEq_int) | (with_reducible exact Pz.fNe_int) | (with_reducible exact Pz.fSl_loT) | (with_reducible exact Pz.fSl_hiT) | (with_reducible exact Pz.fSl_loL) | (with_reducible exact Pz.fSl_hiL) | (with_reducible exact Pz.upTo0 _)
    | (with_reducible exact Pz.fIn_ls)
    | (with_reducible exact Pz.fNotIn_ts)
    | (with_reducible exact Pz.fNe_bl)
    | ((with_reducible apply Pz.z_fLen); first | (with_reducible exact List.length_map ..) | exact rfl)
    | ((with_reducible apply Pz.z_fLenT); first | (with_reducible exact List.length_map ..) | exact rfl)
    | ((with_reducible apply Pz.small_nat); assumption)
    | exact rfl)
local macro_rules
  | `(tactic| nofun) => `(tactic| first
    | (with_reducible exact Pz.z_g0)
    | (with_reducible apply Pz.z_gS)
    | (with_reducible assumption)
    | (with_reducible exact Pz.z_s0)
    | (with_reducible apply Pz.z_sS)
    | (with_reducible exact Pz.z_lit)
    | (with_reducible apply Pz.z_var)
    | (with_reducible apply Pz.eBi_val)
    | (with_reducible apply Pz.cons_val)
    | (with_reducible exact Pz.z_anil)
    | (with_reducible apply Pz.var_val)
    | (with_reducible apply Pz.tmp_val)
    | (with_reducible exact Pz.z_r0)
    | (with_reducible apply Pz.z_rS)
    | (with_reducible apply Pz.z_rT)
    | ((with_reducible apply Pz.rsv_ref); (exact rfl); first | (with_reducible exact Pz.z_shfz) | (with_reducible exact Pz.shal_map _ _) | (with_reducible assumption) | exact rfl)
    | ((with_reducible apply Pz.z_rF); (exact rfl); (exact rfl))
    | (with_reducible exact Pz.z_shfz)
    | (with_reducible exact Pz.shal_map _ _)
    | (with_reducible exact Pz.z_frfz)
    | (with_reducible exact Pz.fr_map _ _)
    | (with_reducible apply Pz.z_frol)
    | (with_reducible exact Pz.z_frs0)
    | (with_reducible apply Pz.z_frsS)
    | (with_reducible exact Pz.frs_map _ _)
    | (with_reducible apply Pz.z_tup)
    | (with_reducible apply Pz.z_lst)
    | (with_reducible exact Pz.z_lnil)
    | (with_reducible apply Pz.z_lcons)
    | ((with_reducible apply Pz.z_els2); (exact rfl))
    | (with_reducible apply Pz.els_1)
    | (with_reducible apply Pz.z_lenAt)
    | (with_reducible apply Pz.z_getS)
    | (with_reducible apply Pz.z_atF)
    | (with_reducible exact List.length_map ..)
    | (with_reducible apply Pz.z_sl)
    | (with_reducible exact Pz.z_ev0)
    | (with_reducible apply Pz.z_ev1)
    | (with_reducible apply Pz.z_call)
    | (with_reducible exact Pz.z_l0)
    | ((with_reducible show Pz.lend _ _ _ = _); (apply Pz.z_lT))
    | ((with_reducible show Pz.lend _ _ _ = _); (apply Pz.z_lZ); exact rfl)
    | ((with_reducible show Pz.lend _ _ _ = _); (apply Pz.z_lO); exact rfl; (first | exact rfl | exact Pz.Src.own ‹_›))
    | ((with_reducible show Pz.lend _ _ _ = _); (apply Pz.z_lF); exact rfl)
    | (with_reducible exact Pz.z_b0)
    | ((with_reducible show Pz.giveBack _ _ _ _ = _); (apply Pz.z_bT))
    | ((with_reducible show Pz.giveBack _ _ _ _ = _); (apply Pz.z_bR))
    | ((with_reducible show Pz.giveBack _ _ _ _ = _); (apply Pz.z_bF))
    | (with_reducible apply Pz.tE_val)
    | (with_reducible apply Pz.z_not)
    | (with_reducible apply Pz.z_eT)
    | (with_reducible apply Pz.z_eNot)
    | (with_reducible apply Pz.z_chn)
    | (with_reducible apply Pz.and_val)
    | (with_reducible apply Pz.or_val)
    | (with_reducible apply Pz.z_set)
    | (with_reducible apply Pz.ret_val)
    | (with_reducible apply Pz.z_exp)
    | (with_reducible exact Pz.z_nil)
    | (with_reducible apply Pz.z_par)
    | (with_reducible exact Pz.z_a0)
    | (with_reducible apply Pz.z_aS)
    | (with_reducible apply Pz.z_bnm)
    | (with_reducible apply Pz.z_btp)
    | (with_reducible exact Pz.z_bs0)
    | (with_reducible apply Pz.z_bsS)
    | (with_reducible exact Pz.z_cl0)
    | (with_reducible apply Pz.z_clS)
    | (with_reducible exact Pz.z_pb0)
    | (with_reducible apply Pz.z_pbS)
    | (with_reducible apply Pz.z_rng1)
    | (with_reducible apply Pz.z_ivr)
    | (with_reducible apply Pz.z_ivt)
    | (with_reducible exact Pz.z_itl)
    | (with_reducible exact Pz.z_itt)
    | (with_reducible exact Pz.z_its)
    | (with_reducible apply Pz.z_lcm)
    | (with_reducible apply Pz.z_lcf)
    | intro _
    | infer_instance)
local macro_rules
  | `(tactic| and_intros) => `(tactic| first | (nofun <;> and_intros))
def fSortedI : List D → Option O
  | [.lst ds] => if srtOk ds = true then some (.ol ((isort leD ds).map O.fz)) else none
  | [.tup ds] => if srtOk ds = true then some (.ol ((isort leD ds).map O.fz)) else none
  | _ => none
theorem fSorted_I : fSorted = fSortedI := by
  funext ds
  unfold fSorted fSortedI
  split <;> simp only [srtD_eq]
def poolA : List Str := ["a", "b", "c", "d", "e", "f", "g"]
def poolB : List Str := ["a", "a1", "b10", "b9", "c", "d2", "zz"]
/-- all sides, by how many, then as tuples -/
def subsK : Nat → List Str → List (List Str)
  | 0, _ => [[]]
  | _ + 1, [] => []
  | k + 1, p :: ps => (subsK k ps).map (p :: ·) ++ subsK (k + 1) ps
def allS (ps : List Str) : List (List Str) := ((List.range ps.length).filter (0 < ·)).flatMap fun k => subsK k ps.tail
structure Pool (ps : List Str) : Prop where
  ord : Ordr ps
  pt : g_partings_told [.fz (ts ps)] = some (.fz (.tup ((allS ps).map ts)), [some (.fz (ts ps))])
  la : g__law_all [.fz (ts ps)] = some (.ol ((allS ps).map fun l => .fz (ts l)), [some (.fz (ts ps))])
  sd : ((allS ps).all fun l => !decide (ps.headD "" ∈ l) && !l.isEmpty && decide (Pz.pick ps l = l)) = true
  nd : (allS ps).Nodup
  cnt : (allS ps).length + 1 = 2 ^ (ps.length - 1)
theorem pool_of {ps : List Str} (h1 : (decide ps.Nodup && (decide (ps.Pairwise fun x y => leS x y = true) && ((ps.all fun x => ps.all fun y => !leS x y || !leS y x || decide (x = y)) && (ps.all fun x => PyData.strOk x) && decide (2 ≤ ps.length) && decide (ps.length ≤ 7)))) = true)
    (h2 : ((allS ps).all fun l => !decide (ps.headD "" ∈ l) && !l.isEmpty && decide (Pz.pick ps l = l)) = true) (h3 : decide (allS ps).Nodup = true) (h4 : decide ((allS ps).length + 1 = 2 ^ (ps.length - 1)) = true)
    (h5 : g_partings_told [.fz (ts ps)] = some (.fz (.tup ((allS ps).map ts)), [some (.fz (ts ps))])) (h6 : g__law_all [.fz (ts ps)] = some (.ol ((allS ps).map fun l => .fz (ts l)), [some (.fz (ts ps))])) : Pool ps := by
  simp only [Bool.and_eq_true, decide_eq_true_eq] at h1
  obtain ⟨a1, a2, ⟨⟨a3, a4⟩, a5⟩, a6⟩ := h1
  refine ⟨⟨a1, a2, fun x hx y hy z1 z2 => ?_, fun x hx => List.all_eq_true.mp a4 x hx, a5, a6⟩, h5, h6, h2, of_decide_eq_true h3, of_decide_eq_true h4⟩
  have b := List.all_eq_true.mp (List.all_eq_true.mp a3 x hx) y hy
  rw [z1, z2] at b
  simpa using b
theorem poolA2 : Pool (poolA.take 2) := by
  refine pool_of (by kernel_rfl) (by kernel_rfl) (by kernel_rfl) (by kernel_rfl) (by kernel_rfl) ?_
  unfold g__law_all m__law_all
  rw [fSorted_I]
  kernel_rfl
theorem poolA3 : Pool (poolA.take 3) := by
  refine pool_of (by kernel_rfl) (by kernel_rfl) (by kernel_rfl) (by kernel_rfl) (by kernel_rfl) ?_
  unfold g__law_all m__law_all
  rw [fSorted_I]
  kernel_rfl
theorem poolA4 : Pool (poolA.take 4) := by
  refine pool_of (by kernel_rfl) (by kernel_rfl) (by kernel_rfl) (by kernel_rfl) (by kernel_rfl) ?_
  unfold g__law_all m__law_all
  rw [fSorted_I]
  kernel_rfl
theorem poolA5 : Pool (poolA.take 5) := by
  refine pool_of (by kernel_rfl) (by kernel_rfl) (by kernel_rfl) (by kernel_rfl) (by kernel_rfl) ?_
  unfold g__law_all m__law_all
  rw [fSorted_I]
  kernel_rfl
theorem poolA6 : Pool (poolA.take 6) := by
  refine pool_of (by kernel_rfl) (by kernel_rfl) (by kernel_rfl) (by kernel_rfl) (by kernel_rfl) ?_
  unfold g__law_all m__law_all
  rw [fSorted_I]
  kernel_rfl
theorem poolA7 : Pool (poolA.take 7) := by
  refine pool_of (by kernel_rfl) (by kernel_rfl) (by kernel_rfl) (by kernel_rfl) (by kernel_rfl) ?_
  unfold g__law_all m__law_all
  rw [fSorted_I]
  kernel_rfl
theorem poolB2 : Pool (poolB.take 2) := by
  refine pool_of (by kernel_rfl) (by kernel_rfl) (by kernel_rfl) (by kernel_rfl) (by kernel_rfl) ?_
  unfold g__law_all m__law_all
  rw [fSorted_I]
  kernel_rfl
theorem poolB3 : Pool (poolB.take 3) := by
  refine pool_of (by kernel_rfl) (by kernel_rfl) (by kernel_rfl) (by kernel_rfl) (by kernel_rfl) ?_
  unfold g__law_all m__law_all
  rw [fSorted_I]
  kernel_rfl
theorem poolB4 : Pool (poolB.take 4) := by
  refine pool_of (by kernel_rfl) (by kernel_rfl) (by kernel_rfl) (by kernel_rfl) (by kernel_rfl) ?_
  unfold g__law_all m__law_all
  rw [fSorted_I]
  kernel_rfl
theorem poolB5 : Pool (poolB.take 5) := by
  refine pool_of (by kernel_rfl) (by kernel_rfl) (by kernel_rfl) (by kernel_rfl) (by kernel_rfl) ?_
  unfold g__law_all m__law_all
  rw [fSorted_I]
  kernel_rfl
theorem poolB6 : Pool (poolB.take 6) := by
  refine pool_of (by kernel_rfl) (by kernel_rfl) (by kernel_rfl) (by kernel_rfl) (by kernel_rfl) ?_
  unfold g__law_all m__law_all
  rw [fSorted_I]
  kernel_rfl
theorem poolB7 : Pool (poolB.take 7) := by
  refine pool_of (by kernel_rfl) (by kernel_rfl) (by kernel_rfl) (by kernel_rfl) (by kernel_rfl) ?_
  unfold g__law_all m__law_all
  rw [fSorted_I]
  kernel_rfl
end K16
set_option Elab.async false
set_option linter.all false
set_option maxRecDepth 100000
set_option maxHeartbeats 4000000
namespace K16
open PySem PySem.Spec L2 Pz
local macro_rules
  | `(tactic| infer_instance) => `(tactic| first
    | (with_reducible exact Pz.fIn_ts) | (with_reducible exact Pz.fEq_int) | (with_reducible exact Pz.fNe_int) | (with_reducible exact Pz.fSl_loT) | (with_reducible exact Pz.fSl_hiT) | (with_reducible exact Pz.fSl_loL) | (with_reducible exact Pz.fSl_hiL) | (with_reducible exact Pz.upTo0 _)
    | (with_reducible exact Pz.fIn_ls)
    | (with_reducible exact Pz.fNotIn_ts)
    | (with_reducible exact Pz.fNe_bl)
    | ((with_reducible apply Pz.z_fLen); first | (with_reducible exact List.length_map ..) | exact rfl)
    | ((with_reducible apply Pz.z_fLenT); first | (with_reducible exact List.length_map ..) | exact rfl)
    | ((with_reducible apply Pz.small_nat); assumption)
    | exact rfl)
local macro_rules
  | `(tactic| nofun) => `(tactic| first
    | (with_reducible exact Pz.z_g0)
    | (with_reducible apply Pz.z_gS)
    | (with_reducible assumption)
    | (with_reducible exact Pz.z_s0)
    | (with_reducible apply Pz.z_sS)
    | (with_reducible exact Pz.z_lit)
    | (with_reducible apply Pz.z_var)
    | (with_reducible apply Pz.eBi_val)
    | (with_reducible apply Pz.cons_val)
    | (with_reducible exact Pz.z_anil)
    | (with_reducible apply Pz.var_val)
    | (with_reducible apply Pz.tmp_val)
    | (with_reducible exact Pz.z_r0)
    | (with_reducible apply Pz.z_rS)
    | (with_reducible apply Pz.z_rT)
    | ((with_reducible apply Pz.rsv_ref); (exact rfl); first | (with_reducible exact Pz.z_shfz) | (with_reducible exact Pz.shal_map _ _) | (with_reducible assumption) | exact rfl)
    | ((with_reducible apply Pz.z_rF); (exact rfl); (exact rfl))
    | (with_reducible exact Pz.z_shfz)
    | (with_reducible exact Pz.shal_map _ _)
    | (with_reducible exact Pz.z_frfz)
    | (with_reducible exact Pz.fr_map _ _)
    | (with_reducible apply Pz.z_frol)
    | (with_reducible exact Pz.z_frs0)
    | (with_reducible apply Pz.z_frsS)
    | (with_reducible exact Pz.frs_map _ _)
    | (with_reducible apply Pz.z_tup)
    | (with_reducible apply Pz.z_lst)
    | (with_reducible exact Pz.z_lnil)
    | (with_reducible apply Pz.z_lcons)
    | ((with_reducible apply Pz.z_els2); (exact rfl))
    | (with_reducible apply Pz.els_1)
    | (with_reducible apply Pz.z_lenAt)
    | (with_reducible apply Pz.z_getS)
    | (with_reducible apply Pz.z_atF)
    | (with_reducible exact List.length_map ..)
    | (with_reducible apply Pz.z_sl)
    | (with_reducible exact Pz.z_ev0)
    | (with_reducible apply Pz.z_ev1)
    | (with_reducible apply Pz.z_call)
    | (with_reducible exact Pz.z_l0)
    | ((with_reducible show Pz.lend _ _ _ = _); (apply Pz.z_lT))
    | ((with_reducible show Pz.lend _ _ _ = _); (apply Pz.z_lZ); exact rfl)
    | ((with_reducible show Pz.lend _ _ _ = _); (apply Pz.z_lO); exact rfl; (first | exact rfl | exact Pz.Src.own ‹_›))
    | ((with_reducible show Pz.lend _ _ _ = _); (apply Pz.z_lF); exact rfl)
    | (with_reducible exact Pz.z_b0)
    | ((with_reducible show Pz.giveBack _ _ _ _ = _); (apply Pz.z_bT))
    | ((with_reducible show Pz.giveBack _ _ _ _ = _); (apply Pz.z_bR))
    | ((with_reducible show Pz.giveBack _ _ _ _ = _); (apply Pz.z_bF))
    | (with_reducible apply Pz.tE_val)
    | (with_reducible apply Pz.z_not)
    | (with_reducible apply Pz.z_eT)
    | (with_reducible apply Pz.z_eNot)
    | (with_reducible apply Pz.z_chn)
    | (with_reducible apply Pz.and_val)
    | (with_reducible apply Pz.or_val)
    | (with_reducible apply Pz.z_set)
    | (with_reducible apply Pz.ret_val)
    | (with_reducible apply Pz.z_exp)
    | (with_reducible exact Pz.z_nil)
    | (with_reducible apply Pz.z_par)
    | (with_reducible exact Pz.z_a0)
    | (with_reducible apply Pz.z_aS)
    | (with_reducible apply Pz.z_bnm)
    | (with_reducible apply Pz.z_btp)
    | (with_reducible exact Pz.z_bs0)
    | (with_reducible apply Pz.z_bsS)
    | (with_reducible exact Pz.z_cl0)
    | (with_reducible apply Pz.z_clS)
    | (with_reducible exact Pz.z_pb0)
    | (with_reducible apply Pz.z_pbS)
    | (with_reducible apply Pz.z_rng1)
    | (with_reducible apply Pz.z_ivr)
    | (with_reducible apply Pz.z_ivt)
    | (with_reducible exact Pz.z_itl)
    | (with_reducible exact Pz.z_itt)
    | (with_reducible exact Pz.z_its)
    | (with_reducible apply Pz.z_lcm)
    | (with_reducible apply Pz.z_lcf)
    | intro _
    | infer_instance)
local macro_rules
  | `(tactic| and_intros) => `(tactic| first | (nofun <;> and_intros))
open Bits
theorem in_lens {n : Nat} (h : n ≤ 7) : n ∈ lens := by
  unfold lens
  rcases (by omega : n = 0 ∨ n = 1 ∨ n = 2 ∨ n = 3 ∨ n = 4 ∨ n = 5 ∨ n = 6 ∨ n = 7) with e | e | e | e | e | e | e | e <;> subst e <;> decide
theorem of_lens {P : Nat → List Bool → Bool} (h : (lens.all fun n => (allB n).all fun b => P n b) = true) {b : List Bool} (hb : b.length ≤ 7) : P b.length b = true :=
  List.all_eq_true.mp (List.all_eq_true.mp h b.length (in_lens hb)) b mem_allB
theorem chg_all : (lens.all fun n => (allB n).all fun b => chg' b == chg b) = true := by decide +kernel
theorem chg_eq {b : List Bool} (hb : b.length ≤ 7) : chg' b = chg b := by simpa using of_lens (P := fun _ b => chg' b == chg b) chg_all hb
theorem arc_eq {b : List Bool} (hb : b.length ≤ 7) (h0 : cnt b ≠ 0) (h1 : cnt b ≠ b.length) : (chg b == 2) = arcB b := by
  have h := of_lens (P := fun n b => (cnt b == 0 || cnt b == n) || ((chg b == 2) == arcB b)) a_all hb
  simp only [Bool.or_eq_true, beq_iff_eq] at h
  rcases h with (h | h) | h
  · exact absurd h h0
  · exact absurd h h1
  · exact h
theorem turn_eq {b : List Bool} {k : Nat} (hb : b.length ≤ 7) (hk : k < b.length) : chg (turn k b) = chg b := by
  have h := of_lens (P := fun n b => (List.range n).all fun k => chg (turn k b) == chg b) turn_all hb
  simpa using List.all_eq_true.mp h k (List.mem_range.mpr hk)
theorem rev_eq {b : List Bool} (hb : b.length ≤ 7) : chg b.reverse = chg b := by simpa using of_lens (P := fun _ b => chg b.reverse == chg b) rev_all hb
theorem not_eq {b : List Bool} (hb : b.length ≤ 7) : chg (b.map not) = chg b := by simpa using of_lens (P := fun _ b => chg (b.map not) == chg b) not_all hb
theorem mem_circ {b : List Bool} (h : chg b = 2) : b ∈ circ b.length := List.mem_filter.mpr ⟨mem_allB, by simpa using h⟩
theorem bar_no {a b c : List Bool} {n : Nat} (hn : n ≤ 7) (ha : a.length = n) (hb : b.length = n) (hc : c.length = n) (h1 : chg a = 2) (h2 : chg b = 2) (h3 : chg c = 2) : barB a b c = false := by
  have h := List.all_eq_true.mp bar_all n (in_lens hn)
  have g1 := List.all_eq_true.mp h a (by rw [← ha]; exact mem_circ h1)
  have g2 := List.all_eq_true.mp g1 b (by rw [← hb]; exact mem_circ h2)
  have g3 := List.all_eq_true.mp g2 c (by rw [← hc]; exact mem_circ h3)
  simpa using g3
theorem sub_two {b k : List Bool} (hb : b.length ≤ 7) (hk : k.length = b.length) (h : chg b = 2) (h0 : cnt (sub k b) ≠ 0) (h1 : cnt (sub k b) ≠ (sub k b).length) : chg (sub k b) = 2 := by
  have g := List.all_eq_true.mp sub_all b.length (in_lens hb)
  have g1 := List.all_eq_true.mp g b (mem_circ h)
  have g2 := List.all_eq_true.mp g1 k (by rw [← hk]; exact mem_allB)
  simp only [Bool.or_eq_true, beq_iff_eq] at g2
  rcases g2 with (g2 | g2) | g2
  · exact absurd g2 h0
  · exact absurd g2 h1
  · exact g2
/-! ### sides of places, along an order -/
variable {ps od : List Str}
theorem sub_same {α : Type} {a b : List α} (hn : a.Nodup) (hs : ∀ x ∈ a, x ∈ b) (hl : b.length ≤ a.length) : ∀ x ∈ b, x ∈ a := by
  intro x hx
  by_cases h : x ∈ a
  · exact h
  · exfalso
    have h2 : (x :: a).length ≤ b.length := (List.nodup_cons.mpr ⟨h, hn⟩).length_le_of_subset fun y hy => by
      rcases List.mem_cons.mp hy with e | hy
      · exact e ▸ hx
      · exact hs y hy
    simp only [List.length_cons] at h2
    omega
theorem bits_len {od sd : List Str} : (bitsO od sd).length = od.length := by unfold bitsO; exact List.length_map ..
theorem bits_turn {k : Nat} {sd : List Str} : bitsO (turnS k od) sd = turn k (bitsO od sd) := by
  unfold bitsO turnS turn
  rw [List.map_append, List.map_drop, List.map_take]
theorem bits_rev {sd : List Str} : bitsO od.reverse sd = (bitsO od sd).reverse := by unfold bitsO; rw [List.map_reverse]
theorem cnt_bits {sd : List Str} (ho : od.Nodup) (hs : sd.Nodup) (hin : ∀ x ∈ sd, x ∈ od) : cnt (bitsO od sd) = sd.length := by
  have e : cnt (bitsO od sd) = (od.filter fun p => decide (p ∈ sd)).length := by
    unfold cnt bitsO
    rw [List.filter_map, List.length_map]; rfl
  rw [e]
  refine List.Perm.length_eq ((List.perm_ext_iff_of_nodup (ho.filter _) hs).mpr fun x => ?_)
  rw [List.mem_filter]
  simp only [decide_eq_true_eq]
  exact ⟨fun h => h.2, fun h => ⟨hin x h, h⟩⟩
/-- a side of places -/
structure Side (ps sd : List Str) : Prop where
  nd : sd.Nodup
  sub : ∀ x ∈ sd, x ∈ ps
  ne : sd ≠ []
  ex : ∃ x ∈ ps, x ∉ sd
theorem Side.cnt0 {sd : List Str} (h : Side ps sd) (ho : od.Nodup) (hp : ∀ x, x ∈ od ↔ x ∈ ps) : cnt (bitsO od sd) ≠ 0 := by
  rw [cnt_bits ho h.nd fun x hx => (hp x).mpr (h.sub x hx)]
  exact fun e => h.ne (List.eq_nil_of_length_eq_zero e)
theorem Side.cntn {sd : List Str} (h : Side ps sd) (ho : od.Nodup) (hp : ∀ x, x ∈ od ↔ x ∈ ps) : cnt (bitsO od sd) ≠ (bitsO od sd).length := by
  rw [cnt_bits ho h.nd fun x hx => (hp x).mpr (h.sub x hx), bits_len]
  intro e
  obtain ⟨x, h1, h2⟩ := h.ex
  exact h2 (sub_same h.nd (fun y hy => (hp y).mpr (h.sub y hy)) (by omega) x ((hp x).mpr h1))
theorem larc_eq {sd : List Str} (P : Ordr ps) (h : Side ps sd) (ho : od.Nodup) (hp : ∀ x, x ∈ od ↔ x ∈ ps) (hl : od.length ≤ 7) : larcB ps od sd = decide (chg (bitsO od sd) = 2) := by
  have e := arc_eq (b := bitsO od sd) (by rw [bits_len]; exact hl) (h.cnt0 ho hp) (h.cntn ho hp)
  have e2 : decide (chg (bitsO od sd) = 2) = (chg (bitsO od sd) == 2) := by
    by_cases z : chg (bitsO od sd) = 2 <;> simp [z]
  rw [e2, e]
  unfold larcB arcB
  rw [bits_len, cnt_bits ho h.nd fun x hx => (hp x).mpr (h.sub x hx)]
  congr 1
  funext k
  have pm : (turnS k od).Perm od := by
    unfold turnS
    exact List.perm_append_comm.trans (by rw [List.take_append_drop])
  have hn : ((turnS k od).take sd.length).Nodup := (pm.nodup_iff.mpr ho).sublist (List.take_sublist _ _)
  have hm : ∀ x ∈ (turnS k od).take sd.length, x ∈ ps := fun x hx => (hp x).mp (pm.subset ((List.take_sublist _ _).subset hx))
  have hlen : sd.length ≤ (turnS k od).length := by
    rw [pm.length_eq]
    exact h.nd.length_le_of_subset fun x hx => (hp x).mpr (h.sub x hx)
  rw [← bits_turn, show (bitsO (turnS k od) sd).take sd.length = bitsO ((turnS k od).take sd.length) sd from by unfold bitsO; rw [List.map_take]]
  have q : (bitsO ((turnS k od).take sd.length) sd).all id = decide (∀ x ∈ (turnS k od).take sd.length, x ∈ sd) := by
    unfold bitsO
    rw [List.all_map]
    apply Bool.eq_iff_iff.mpr
    simp
  rw [q]
  refine decide_eq_decide.mpr ((pick_eq_iff hm h.sub).trans ⟨fun z x hx => (z x).mp hx, fun z x => ⟨z x, fun hx => ?_⟩⟩)
  exact sub_same hn z (by rw [List.length_take, Nat.min_eq_left hlen]; exact Nat.le_refl _) x hx
theorem bits_rest {sd : List Str} (hp : ∀ x ∈ od, x ∈ ps) : bitsO od (rest ps sd) = (bitsO od sd).map not := by
  unfold bitsO
  rw [List.map_map]
  refine List.map_congr_left fun x hx => ?_
  show decide (x ∈ rest ps sd) = !decide (x ∈ sd)
  have : x ∈ rest ps sd ↔ x ∉ sd := by
    unfold rest
    rw [List.mem_filter]
    simp only [Bool.not_eq_true', decide_eq_false_iff_not]
    exact ⟨fun z => z.2, fun z => ⟨hp x hx, z⟩⟩
  by_cases z : x ∈ sd <;> simp [this, z]
theorem two_chg {sd x : List Str} (hp : ∀ x ∈ od, x ∈ ps) (hl : od.length ≤ 7) (h : chg (bitsO od sd) = 2) (hx : x ∈ two ps sd) : chg (bitsO od x) = 2 := by
  unfold two at hx
  rcases List.mem_cons.mp hx with e | hx
  · rw [e]; exact h
  · rw [List.mem_singleton.mp hx, bits_rest hp, not_eq (by rw [bits_len]; exact hl)]; exact h
theorem contains_zip {a b c : List Str} {r : Bool × Bool × Bool} : ((bitsO od a).zip ((bitsO od b).zip (bitsO od c))).contains r = decide (∃ p ∈ od, (decide (p ∈ a), decide (p ∈ b), decide (p ∈ c)) = r) := by
  have e : (bitsO od a).zip ((bitsO od b).zip (bitsO od c)) = od.map fun p => (decide (p ∈ a), decide (p ∈ b), decide (p ∈ c)) := by
    unfold bitsO
    induction od with
    | nil => rfl
    | cons x l ih => simp only [List.map_cons, List.zip_cons_cons, ih]
  rw [e]
  apply Bool.eq_iff_iff.mpr
  simp [List.contains_iff_mem]
theorem rows_has {a b c : List Str} {r : Bool × Bool × Bool} : (rows ps a b c).contains r = decide (∃ p ∈ ps, (decide (p ∈ a), decide (p ∈ b), decide (p ∈ c)) = r) := by
  unfold rows
  apply Bool.eq_iff_iff.mpr
  simp [List.contains_iff_mem]
theorem bar_bits {a b c : List Str} (hp : ∀ x, x ∈ od ↔ x ∈ ps) : barS ps a b c = barB (bitsO od a) (bitsO od b) (bitsO od c) := by
  have e : ∀ r, (rows ps a b c).contains r = ((bitsO od a).zip ((bitsO od b).zip (bitsO od c))).contains r := by
    intro r
    rw [contains_zip, rows_has]
    exact decide_eq_decide.mpr ⟨fun ⟨p, h, z⟩ => ⟨p, (hp p).mpr h, z⟩, fun ⟨p, h, z⟩ => ⟨p, (hp p).mp h, z⟩⟩
  unfold barS barB
  simp only [e, Bool.and_assoc]
theorem three_ok {a b c : List Str} (hp : ∀ x, x ∈ od ↔ x ∈ ps) (hl : od.length ≤ 7) (h1 : chg (bitsO od a) = 2) (h2 : chg (bitsO od b) = 2) (h3 : chg (bitsO od c) = 2) : threeB ps a b c = true := by
  unfold threeB
  have hp' : ∀ x ∈ od, x ∈ ps := fun x hx => (hp x).mp hx
  rw [Bool.not_eq_true']
  apply Bool.eq_false_iff.mpr
  intro z
  obtain ⟨x, hx, z⟩ := List.any_eq_true.mp z
  obtain ⟨y, hy, z⟩ := List.any_eq_true.mp z
  obtain ⟨w, hw, z⟩ := List.any_eq_true.mp z
  rw [bar_bits hp, bar_no (n := od.length) hl bits_len bits_len bits_len (two_chg hp' hl h1 hx) (two_chg hp' hl h2 hy) (two_chg hp' hl h3 hw)] at z
  cases z
end K16
set_option Elab.async false
set_option linter.all false
set_option maxRecDepth 100000
set_option maxHeartbeats 4000000
namespace K16
open PySem PySem.Spec L2 Pz
local macro_rules
  | `(tactic| infer_instance) => `(tactic| first
    | (with_reducible exact Pz.fIn_ts) | (with_reducible exact Pz.fEq_int) | (with_reducible exact Pz.fNe_int) | (with_reducible exact Pz.fSl_loT) | (with_reducible exact Pz.fSl_hiT) | (with_reducible exact Pz.fSl_loL) | (with_reducible exact Pz.fSl_hiL) | (with_reducible exact Pz.upTo0 _)
    | (with_reducible exact Pz.fIn_ls)
    | (with_reducible exact Pz.fNotIn_ts)
    | (with_reducible exact Pz.fNe_bl)
    | ((with_reducible apply Pz.z_fLen); first | (with_reducible exact List.length_map ..) | exact rfl)
    | ((with_reducible apply Pz.z_fLenT); first | (with_reducible exact List.length_map ..) | exact rfl)
    | ((with_reducible apply Pz.small_nat); assumption)
    | exact rfl)
local macro_rules
  | `(tactic| nofun) => `(tactic| first
    | (with_reducible exact Pz.z_g0)
    | (with_reducible apply Pz.z_gS)
    | (with_reducible assumption)
    | (with_reducible exact Pz.z_s0)
    | (with_reducible apply Pz.z_sS)
    | (with_reducible exact Pz.z_lit)
    | (with_reducible apply Pz.z_var)
    | (with_reducible apply Pz.eBi_val)
    | (with_reducible apply Pz.cons_val)
    | (with_reducible exact Pz.z_anil)
    | (with_reducible apply Pz.var_val)
    | (with_reducible apply Pz.tmp_val)
    | (with_reducible exact Pz.z_r0)
    | (with_reducible apply Pz.z_rS)
    | (with_reducible apply Pz.z_rT)
    | ((with_reducible apply Pz.rsv_ref); (exact rfl); first | (with_reducible exact Pz.z_shfz) | (with_reducible exact Pz.shal_map _ _) | (with_reducible assumption) | exact rfl)
    | ((with_reducible apply Pz.z_rF); (exact rfl); (exact rfl))
    | (with_reducible exact Pz.z_shfz)
    | (with_reducible exact Pz.shal_map _ _)
    | (with_reducible exact Pz.z_frfz)
    | (with_reducible exact Pz.fr_map _ _)
    | (with_reducible apply Pz.z_frol)
    | (with_reducible exact Pz.z_frs0)
    | (with_reducible apply Pz.z_frsS)
    | (with_reducible exact Pz.frs_map _ _)
    | (with_reducible apply Pz.z_tup)
    | (with_reducible apply Pz.z_lst)
    | (with_reducible exact Pz.z_lnil)
    | (with_reducible apply Pz.z_lcons)
    | ((with_reducible apply Pz.z_els2); (exact rfl))
    | (with_reducible apply Pz.els_1)
    | (with_reducible apply Pz.z_lenAt)
    | (with_reducible apply Pz.z_getS)
    | (with_reducible apply Pz.z_atF)
    | (with_reducible exact List.length_map ..)
    | (with_reducible apply Pz.z_sl)
    | (with_reducible exact Pz.z_ev0)
    | (with_reducible apply Pz.z_ev1)
    | (with_reducible apply Pz.z_call)
    | (with_reducible exact Pz.z_l0)
    | ((with_reducible show Pz.lend _ _ _ = _); (apply Pz.z_lT))
    | ((with_reducible show Pz.lend _ _ _ = _); (apply Pz.z_lZ); exact rfl)
    | ((with_reducible show Pz.lend _ _ _ = _); (apply Pz.z_lO); exact rfl; (first | exact rfl | exact Pz.Src.own ‹_›))
    | ((with_reducible show Pz.lend _ _ _ = _); (apply Pz.z_lF); exact rfl)
    | (with_reducible exact Pz.z_b0)
    | ((with_reducible show Pz.giveBack _ _ _ _ = _); (apply Pz.z_bT))
    | ((with_reducible show Pz.giveBack _ _ _ _ = _); (apply Pz.z_bR))
    | ((with_reducible show Pz.giveBack _ _ _ _ = _); (apply Pz.z_bF))
    | (with_reducible apply Pz.tE_val)
    | (with_reducible apply Pz.z_not)
    | (with_reducible apply Pz.z_eT)
    | (with_reducible apply Pz.z_eNot)
    | (with_reducible apply Pz.z_chn)
    | (with_reducible apply Pz.and_val)
    | (with_reducible apply Pz.or_val)
    | (with_reducible apply Pz.z_set)
    | (with_reducible apply Pz.ret_val)
    | (with_reducible apply Pz.z_exp)
    | (with_reducible exact Pz.z_nil)
    | (with_reducible apply Pz.z_par)
    | (with_reducible exact Pz.z_a0)
    | (with_reducible apply Pz.z_aS)
    | (with_reducible apply Pz.z_bnm)
    | (with_reducible apply Pz.z_btp)
    | (with_reducible exact Pz.z_bs0)
    | (with_reducible apply Pz.z_bsS)
    | (with_reducible exact Pz.z_cl0)
    | (with_reducible apply Pz.z_clS)
    | (with_reducible exact Pz.z_pb0)
    | (with_reducible apply Pz.z_pbS)
    | (with_reducible apply Pz.z_rng1)
    | (with_reducible apply Pz.z_ivr)
    | (with_reducible apply Pz.z_ivt)
    | (with_reducible exact Pz.z_itl)
    | (with_reducible exact Pz.z_itt)
    | (with_reducible exact Pz.z_its)
    | (with_reducible apply Pz.z_lcm)
    | (with_reducible apply Pz.z_lcf)
    | intro _
    | infer_instance)
local macro_rules
  | `(tactic| and_intros) => `(tactic| first | (nofun <;> and_intros))
open Bits
theorem sides_of {ps sd : List Str} (P : Pool ps) (h : sd ∈ allS ps) : ps.headD "" ∉ sd ∧ sd ≠ [] ∧ Pz.pick ps sd = sd := by
  have a := List.all_eq_true.mp P.sd sd h
  simp only [Bool.and_eq_true, Bool.not_eq_true', decide_eq_false_iff_not, decide_eq_true_eq] at a
  exact ⟨a.1.1, fun e => by rw [e] at a; simp at a, a.2⟩
theorem head_mem {ps : List Str} (P : Ordr ps) : ps.headD "" ∈ ps := by
  have := P.lo
  cases ps with
  | nil => simp at this
  | cons a l => simp
theorem side_of {ps sd : List Str} (P : Pool ps) (h : sd ∈ allS ps) : Side ps sd := by
  obtain ⟨a, b, c⟩ := sides_of P h
  refine ⟨?_, fun x hx => ?_, b, _, head_mem P.ord, a⟩
  · rw [← c]; exact P.ord.nd.filter _
  · rw [← c] at hx; exact (List.mem_filter.mp hx).1
theorem tgt_all : (lens.all fun n => (List.range n).all fun f => ((allB n).filter fun b => !(b.getD f false) && cnt b != 0).length + 1 == 2 ^ (n - 1)) = true := by decide +kernel
theorem filter_two {α : Type} {A B : List α} (q : α → Bool) (hn : A.Nodup) (hs : ∀ x ∈ A, x ∈ B) (hl : A.length = B.length) : (A.filter q).length = (B.filter q).length := by
  have h1 : (A.filter q).length ≤ (B.filter q).length := List.Nodup.length_le_of_subset (hn.filter q) fun x hx => by
    rw [List.mem_filter] at hx ⊢; exact ⟨hs x hx.1, hx.2⟩
  have h2 : (A.filter fun x => !q x).length ≤ (B.filter fun x => !q x).length := List.Nodup.length_le_of_subset (hn.filter _) fun x hx => by
    rw [List.mem_filter] at hx ⊢; exact ⟨hs x hx.1, hx.2⟩
  have e : ∀ L : List α, (L.filter q).length + (L.filter fun x => !q x).length = L.length := by
    intro L
    induction L with
    | nil => rfl
    | cons a L ih => cases h : q a <;> simp [h] <;> omega
  have := e A
  have := e B
  omega
theorem count_arcs {ps od : List Str} (P : Pool ps) (ho : od.Nodup) (hp : ∀ x, x ∈ od ↔ x ∈ ps) : ((allS ps).filter fun l => decide (chg (bitsO od l) = 2)).length = ps.length * (ps.length - 1) / 2 := by
  have hlen : od.length = ps.length := ((List.perm_ext_iff_of_nodup ho P.ord.nd).mpr hp).length_eq
  have h7 := P.ord.hi
  have hh : ps.headD "" ∈ od := (hp _).mpr (head_mem P.ord)
  obtain ⟨f, hf, hfe⟩ := List.getElem_of_mem hh
  let B := (allB ps.length).filter fun b => !(b.getD f false) && cnt b != 0
  let A := (allS ps).map (bitsO od)
  have hB : B.length + 1 = 2 ^ (ps.length - 1) := by
    have := List.all_eq_true.mp (List.all_eq_true.mp tgt_all ps.length (in_lens h7)) f (List.mem_range.mpr (by omega))
    exact eq_of_beq this
  have nA : A.Nodup := by
    refine List.pairwise_map.mpr ((List.pairwise_iff_getElem.mpr ?_))
    intro i j hi hj hij e
    have hne : (allS ps)[i] ≠ (allS ps)[j] := fun z => by
      have := List.pairwise_iff_getElem.mp P.nd i j hi hj hij
      exact this z
    apply hne
    obtain ⟨_, _, c1⟩ := sides_of P (List.getElem_mem hi)
    obtain ⟨_, _, c2⟩ := sides_of P (List.getElem_mem hj)
    rw [← c1, ← c2]
    refine (pick_eq_iff (side_of P (List.getElem_mem hi)).sub (side_of P (List.getElem_mem hj)).sub).mpr fun x => ?_
    by_cases hx : x ∈ ps
    · have hx' := (hp x).mpr hx
      have z := (List.map_inj_left.mp e) x hx'
      exact decide_eq_decide.mp z
    · exact ⟨fun z => absurd ((side_of P (List.getElem_mem hi)).sub x z) hx, fun z => absurd ((side_of P (List.getElem_mem hj)).sub x z) hx⟩
  have sAB : ∀ b ∈ A, b ∈ B := by
    intro b hb
    obtain ⟨l, hl, rfl⟩ := List.mem_map.mp hb
    obtain ⟨a1, a2, a3⟩ := sides_of P hl
    refine List.mem_filter.mpr ⟨by rw [← hlen, ← bits_len (od := od) (sd := l)]; exact mem_allB, ?_⟩
    have e1 : (bitsO od l).getD f false = false := by
      unfold bitsO
      rw [List.getD_eq_getElem?_getD, List.getElem?_map, List.getElem?_eq_getElem hf, hfe]
      exact decide_eq_false a1
    have e2 := (side_of P hl).cnt0 ho hp
    rw [e1]
    simpa using e2
  have lAB : A.length = B.length := by
    show ((allS ps).map (bitsO od)).length = _
    rw [List.length_map]
    have := P.cnt
    omega
  have k := filter_two (fun b => chg b == 2) nA sAB lAB
  have k2 : (B.filter fun b => chg b == 2).length = ps.length * (ps.length - 1) / 2 := by
    have := List.all_eq_true.mp (List.all_eq_true.mp cnt_all ps.length (in_lens h7)) f (List.mem_range.mpr (by omega))
    rw [← eq_of_beq this]
    show (((allB ps.length).filter fun b => !(b.getD f false) && cnt b != 0).filter fun b => chg b == 2).length = _
    rw [List.filter_filter]
    congr 2
    funext b
    cases (!(b.getD f false)) <;> cases (cnt b != 0) <;> cases (chg b == 2) <;> rfl
  rw [← k2, ← k]
  show _ = (((allS ps).map (bitsO od)).filter fun b => chg b == 2).length
  rw [List.filter_map, List.length_map]
  rfl
/-! ### cut to fewer places -/
theorem filter_len {α : Type} {q : α → Bool} {l : List α} (h : (l.filter q).length = l.length) : ∀ x ∈ l, q x = true := List.length_filter_eq_length_iff.mp h
theorem cut_same {f l : List Str} (hl : l ≠ []) : cutO f l = lcutO f l := by
  unfold cutO lcutO
  obtain ⟨h, tl, rfl⟩ := List.exists_cons_of_ne_nil hl
  have le := List.length_filter_le (fun p => decide (p ∈ f)) (h :: tl)
  have o : other ((h :: tl).headD "") (h :: tl) ((h :: tl).filter fun p => decide (p ∈ f)) = (h :: tl).filter fun p => decide (p ∈ f) != decide ((h :: tl).headD "" ∈ f) := by
    unfold other
    refine List.filter_congr fun p hp => ?_
    have m : ∀ x ∈ h :: tl, decide (x ∈ (h :: tl).filter fun p => decide (p ∈ f)) = decide (x ∈ f) := by
      intro x hx
      refine decide_eq_decide.mpr ?_
      rw [List.mem_filter]
      simp only [decide_eq_true_eq]
      exact ⟨fun z => z.2, fun z => ⟨hx, z⟩⟩
    rw [m p hp, m _ (by simp)]
  rw [o]
  by_cases h0 : ((h :: tl).filter fun p => decide (p ∈ f)) = []
  · rw [h0]; simp
  · have h0' : 0 < ((h :: tl).filter fun p => decide (p ∈ f)).length := List.length_pos_iff.mpr h0
    have e0 : ((h :: tl).filter fun p => decide (p ∈ f)).isEmpty = false := by
      cases hh : (h :: tl).filter fun p => decide (p ∈ f) with
      | nil => exact absurd hh h0
      | cons _ _ => rfl
    rw [e0, decide_eq_true (show (0 : Int) < (((h :: tl).filter fun p => decide (p ∈ f)).length : Int) by omega)]
    by_cases h1 : ((h :: tl).filter fun p => decide (p ∈ f)).length = (h :: tl).length
    · rw [decide_eq_false (by omega), decide_eq_true (show ((((h :: tl).filter fun p => decide (p ∈ f)).length : Nat) : Int) = ((h :: tl).length : Nat) by omega)]; rfl
    · rw [decide_eq_true (show ((((h :: tl).filter fun p => decide (p ∈ f)).length : Nat) : Int) < ((h :: tl).length : Nat) by omega), decide_eq_false (show ¬ ((((h :: tl).filter fun p => decide (p ∈ f)).length : Nat) : Int) = ((h :: tl).length : Nat) by omega)]; rfl
/-- what a cut is -/
theorem cut_is {f l c : List Str} (h : lcutO f l = some c) : c = l.filter (fun p => decide (p ∈ f) != decide (l.headD "" ∈ f)) ∧ (∃ x ∈ l, x ∈ f) ∧ ∃ x ∈ l, x ∉ f := by
  unfold lcutO at h
  split at h
  · cases h
  · rename_i hb
    cases h
    simp only [Bool.or_eq_true, not_or, decide_eq_true_eq] at hb
    refine ⟨rfl, ?_, ?_⟩
    · cases hh : l.filter fun p => decide (p ∈ f) with
      | nil => rw [hh] at hb; exact absurd rfl hb.1
      | cons a r =>
        have : a ∈ l.filter fun p => decide (p ∈ f) := by rw [hh]; exact List.mem_cons_self
        rw [List.mem_filter] at this
        exact ⟨a, this.1, by simpa using this.2⟩
    · refine Classical.byContradiction fun z => hb.2 ?_
      have : (l.filter fun p => decide (p ∈ f)) = l := List.filter_eq_self.mpr fun x hx => decide_eq_true (Classical.byContradiction fun y => z ⟨x, hx, y⟩)
      rw [this]
theorem cnt_ne0 {b : List Bool} (h : true ∈ b) : cnt b ≠ 0 := by
  intro e
  have := List.eq_nil_of_length_eq_zero e
  have m : true ∈ b.filter id := List.mem_filter.mpr ⟨h, rfl⟩
  rw [this] at m; cases m
theorem cnt_nen {b : List Bool} (h : false ∈ b) : cnt b ≠ b.length := by
  intro e
  have := filter_len e false h
  cases this
theorem bits_sub {od f sd : List Str} : bitsO (od.filter fun p => decide (p ∈ f)) sd = sub (bitsO od f) (bitsO od sd) := by
  unfold bitsO sub
  induction od with
  | nil => rfl
  | cons a od ih =>
    simp only [List.map_cons, List.zip_cons_cons, List.filterMap_cons, List.filter_cons]
    cases hd : decide (a ∈ f) with
    | true => simp only [if_true, List.map_cons, ih]
    | false => simp only [Bool.false_eq_true, if_false, ih]
theorem cut_arcs {ps od f sd c : List Str} (hp : ∀ x, x ∈ od ↔ x ∈ ps) (hl : od.length ≤ 7) (hf : ∀ x ∈ f, x ∈ ps) (h : chg (bitsO od sd) = 2) (hc : lcutO sd f = some c) : chg (bitsO (od.filter fun p => decide (p ∈ f)) c) = 2 := by
  obtain ⟨e, ⟨x, hx, hx2⟩, y, hy, hy2⟩ := cut_is hc
  have two : chg (bitsO (od.filter fun p => decide (p ∈ f)) sd) = 2 := by
    have m : ∀ z ∈ f, z ∈ od.filter fun p => decide (p ∈ f) := fun z hz => List.mem_filter.mpr ⟨(hp z).mpr (hf z hz), decide_eq_true hz⟩
    have t1 : true ∈ bitsO (od.filter fun p => decide (p ∈ f)) sd := List.mem_map.mpr ⟨x, m x hx, decide_eq_true hx2⟩
    have t2 : false ∈ bitsO (od.filter fun p => decide (p ∈ f)) sd := List.mem_map.mpr ⟨y, m y hy, decide_eq_false hy2⟩
    rw [bits_sub] at t1 t2 ⊢
    exact sub_two (by rw [bits_len]; exact hl) (by rw [bits_len, bits_len]) h (cnt_ne0 t1) (cnt_nen t2)
  have hlf : (bitsO (od.filter fun p => decide (p ∈ f)) sd).length ≤ 7 := by rw [bits_len]; exact Nat.le_trans (List.length_filter_le _ _) hl
  have key : bitsO (od.filter fun p => decide (p ∈ f)) c = (bitsO (od.filter fun p => decide (p ∈ f)) sd).map fun b => b != decide (f.headD "" ∈ sd) := by
    unfold bitsO
    rw [List.map_map]
    refine List.map_congr_left fun p hp2 => ?_
    have pf := (List.mem_filter.mp hp2).2
    simp only [decide_eq_true_eq] at pf
    show decide (p ∈ c) = (decide (p ∈ sd) != decide (f.headD "" ∈ sd))
    rw [e]
    cases hb : (decide (p ∈ sd) != decide (f.headD "" ∈ sd)) with
    | true => exact decide_eq_true (List.mem_filter.mpr ⟨pf, hb⟩)
    | false => exact decide_eq_false fun z => by rw [List.mem_filter, hb] at z; cases z.2
  rw [key]
  cases hd : decide (f.headD "" ∈ sd) with
  | true =>
    rw [show (fun b : Bool => b != true) = not from by funext b; cases b <;> rfl, not_eq hlf]; exact two
  | false =>
    rw [show (fun b : Bool => b != false) = id from by funext b; cases b <;> rfl, List.map_id]; exact two
/-! ### nested ones -/
theorem emp_iff {a b : List Str} : emp a b = true ↔ ∀ p ∈ a, p ∉ b := by
  unfold emp
  rw [List.isEmpty_iff, List.filter_eq_nil_iff]
  simp
theorem two_mem {f l sd c x : List Str} (hl : ∀ p ∈ f, p ∈ l) (hc : lcutO sd f = some c) (hx : x ∈ two l sd) : ∃ x' ∈ two f c, (∀ p ∈ x', p ∈ f) ∧ ∀ p ∈ x', p ∈ x := by
  obtain ⟨e, _, _⟩ := cut_is hc
  have mc : ∀ p ∈ f, p ∈ c ↔ (decide (p ∈ sd) != decide (f.headD "" ∈ sd)) = true := by
    intro p hp
    rw [e, List.mem_filter]
    exact ⟨fun z => z.2, fun z => ⟨hp, z⟩⟩
  have mr : ∀ p, p ∈ rest f c ↔ p ∈ f ∧ p ∉ c := by
    intro p
    unfold rest
    rw [List.mem_filter]; simp
  have cf : ∀ p ∈ c, p ∈ f := by
    intro p hp
    rw [e] at hp
    exact (List.mem_filter.mp hp).1
  unfold two at hx ⊢
  rcases List.mem_cons.mp hx with ex | hx
  · subst ex
    by_cases hh : f.headD "" ∈ x
    · refine ⟨rest f c, by simp, fun p hp => ((mr p).mp hp).1, fun p hp => ?_⟩
      obtain ⟨h1, h2⟩ := (mr p).mp hp
      rw [mc p h1] at h2
      refine Classical.byContradiction fun z => h2 ?_
      rw [decide_eq_true hh, decide_eq_false z]; rfl
    · refine ⟨c, by simp, cf, fun p hp => ?_⟩
      have := (mc p (cf p hp)).mp hp
      refine Classical.byContradiction fun z => ?_
      rw [decide_eq_false hh, decide_eq_false z] at this; cases this
  · rw [List.mem_singleton.mp hx]
    have mx : ∀ p, p ∈ f → (p ∈ rest l sd ↔ p ∉ sd) := by
      intro p hp
      unfold rest
      rw [List.mem_filter]
      simp only [Bool.not_eq_true', decide_eq_false_iff_not]
      exact ⟨fun z => z.2, fun z => ⟨hl p hp, z⟩⟩
    by_cases hh : f.headD "" ∈ sd
    · refine ⟨c, by simp, cf, fun p hp => (mx p (cf p hp)).mpr fun z => ?_⟩
      have := (mc p (cf p hp)).mp hp
      rw [decide_eq_true hh, decide_eq_true z] at this; cases this
    · refine ⟨rest f c, by simp, fun p hp => ((mr p).mp hp).1, fun p hp => ?_⟩
      obtain ⟨h1, h2⟩ := (mr p).mp hp
      refine (mx p h1).mpr fun z => h2 ((mc p h1).mpr ?_)
      rw [decide_eq_false hh, decide_eq_true z]; rfl
theorem cut_nested {ps f a b c d : List Str} (hf : ∀ p ∈ f, p ∈ ps) (h : nestB ps a b = true) (hc : lcutO a f = some c) (hd : lcutO b f = some d) : nestB f c d = true := by
  unfold nestB at h ⊢
  obtain ⟨x, hx, h⟩ := List.any_eq_true.mp h
  obtain ⟨y, hy, h⟩ := List.any_eq_true.mp h
  obtain ⟨x', hx', _, x2⟩ := two_mem hf hc hx
  obtain ⟨y', hy', _, y2⟩ := two_mem hf hd hy
  refine List.any_eq_true.mpr ⟨x', hx', List.any_eq_true.mpr ⟨y', hy', ?_⟩⟩
  rw [emp_iff] at h ⊢
  exact fun p hp hq => h p (x2 p hp) (y2 p hq)
end K16
set_option Elab.async false
set_option linter.all false
set_option maxRecDepth 100000
set_option maxHeartbeats 4000000
namespace K16
open PySem PySem.Spec L2 Pz
local macro_rules
  | `(tactic| infer_instance) => `(tactic| first
    | (with_reducible exact Pz.fIn_ts) | (with_reducible exact Pz.fEq_int) | (with_reducible exact Pz.fNe_int) | (with_reducible exact Pz.fSl_loT) | (with_reducible exact Pz.fSl_hiT) | (with_reducible exact Pz.fSl_loL) | (with_reducible exact Pz.fSl_hiL) | (with_reducible exact Pz.upTo0 _)
    | (with_reducible exact Pz.fIn_ls)
    | (with_reducible exact Pz.fNotIn_ts)
    | (with_reducible exact Pz.fNe_bl)
    | ((with_reducible apply Pz.z_fLen); first | (with_reducible exact List.length_map ..) | exact rfl)
    | ((with_reducible apply Pz.z_fLenT); first | (with_reducible exact List.length_map ..) | exact rfl)
    | ((with_reducible apply Pz.small_nat); assumption)
    | exact rfl)
local macro_rules
  | `(tactic| nofun) => `(tactic| first
    | (with_reducible exact Pz.z_g0)
    | (with_reducible apply Pz.z_gS)
    | (with_reducible assumption)
    | (with_reducible exact Pz.z_s0)
    | (with_reducible apply Pz.z_sS)
    | (with_reducible exact Pz.z_lit)
    | (with_reducible apply Pz.z_var)
    | (with_reducible apply Pz.eBi_val)
    | (with_reducible apply Pz.cons_val)
    | (with_reducible exact Pz.z_anil)
    | (with_reducible apply Pz.var_val)
    | (with_reducible apply Pz.tmp_val)
    | (with_reducible exact Pz.z_r0)
    | (with_reducible apply Pz.z_rS)
    | (with_reducible apply Pz.z_rT)
    | ((with_reducible apply Pz.rsv_ref); (exact rfl); first | (with_reducible exact Pz.z_shfz) | (with_reducible exact Pz.shal_map _ _) | (with_reducible assumption) | exact rfl)
    | ((with_reducible apply Pz.z_rF); (exact rfl); (exact rfl))
    | (with_reducible exact Pz.z_shfz)
    | (with_reducible exact Pz.shal_map _ _)
    | (with_reducible exact Pz.z_frfz)
    | (with_reducible exact Pz.fr_map _ _)
    | (with_reducible apply Pz.z_frol)
    | (with_reducible exact Pz.z_frs0)
    | (with_reducible apply Pz.z_frsS)
    | (with_reducible exact Pz.frs_map _ _)
    | (with_reducible apply Pz.z_tup)
    | (with_reducible apply Pz.z_lst)
    | (with_reducible exact Pz.z_lnil)
    | (with_reducible apply Pz.z_lcons)
    | ((with_reducible apply Pz.z_els2); (exact rfl))
    | (with_reducible apply Pz.els_1)
    | (with_reducible apply Pz.z_lenAt)
    | (with_reducible apply Pz.z_getS)
    | (with_reducible apply Pz.z_atF)
    | (with_reducible exact List.length_map ..)
    | (with_reducible apply Pz.z_sl)
    | (with_reducible exact Pz.z_ev0)
    | (with_reducible apply Pz.z_ev1)
    | (with_reducible apply Pz.z_call)
    | (with_reducible exact Pz.z_l0)
    | ((with_reducible show Pz.lend _ _ _ = _); (apply Pz.z_lT))
    | ((with_reducible show Pz.lend _ _ _ = _); (apply Pz.z_lZ); exact rfl)
    | ((with_reducible show Pz.lend _ _ _ = _); (apply Pz.z_lO); exact rfl; (first | exact rfl | exact Pz.Src.own ‹_›))
    | ((with_reducible show Pz.lend _ _ _ = _); (apply Pz.z_lF); exact rfl)
    | (with_reducible exact Pz.z_b0)
    | ((with_reducible show Pz.giveBack _ _ _ _ = _); (apply Pz.z_bT))
    | ((with_reducible show Pz.giveBack _ _ _ _ = _); (apply Pz.z_bR))
    | ((with_reducible show Pz.giveBack _ _ _ _ = _); (apply Pz.z_bF))
    | (with_reducible apply Pz.tE_val)
    | (with_reducible apply Pz.z_not)
    | (with_reducible apply Pz.z_eT)
    | (with_reducible apply Pz.z_eNot)
    | (with_reducible apply Pz.z_chn)
    | (with_reducible apply Pz.and_val)
    | (with_reducible apply Pz.or_val)
    | (with_reducible apply Pz.z_set)
    | (with_reducible apply Pz.ret_val)
    | (with_reducible apply Pz.z_exp)
    | (with_reducible exact Pz.z_nil)
    | (with_reducible apply Pz.z_par)
    | (with_reducible exact Pz.z_a0)
    | (with_reducible apply Pz.z_aS)
    | (with_reducible apply Pz.z_bnm)
    | (with_reducible apply Pz.z_btp)
    | (with_reducible exact Pz.z_bs0)
    | (with_reducible apply Pz.z_bsS)
    | (with_reducible exact Pz.z_cl0)
    | (with_reducible apply Pz.z_clS)
    | (with_reducible exact Pz.z_pb0)
    | (with_reducible apply Pz.z_pbS)
    | (with_reducible apply Pz.z_rng1)
    | (with_reducible apply Pz.z_ivr)
    | (with_reducible apply Pz.z_ivt)
    | (with_reducible exact Pz.z_itl)
    | (with_reducible exact Pz.z_itt)
    | (with_reducible exact Pz.z_its)
    | (with_reducible apply Pz.z_lcm)
    | (with_reducible apply Pz.z_lcf)
    | intro _
    | infer_instance)
local macro_rules
  | `(tactic| and_intros) => `(tactic| first | (nofun <;> and_intros))
open Bits
theorem pools {k : Nat} (h : k < 6) : Pool (poolA.take (2 + k)) ∧ Pool (poolB.take (2 + k)) := by
  rcases (by omega : k = 0 ∨ k = 1 ∨ k = 2 ∨ k = 3 ∨ k = 4 ∨ k = 5) with e | e | e | e | e | e <;> subst e
  · exact ⟨poolA2, poolB2⟩
  · exact ⟨poolA3, poolB3⟩
  · exact ⟨poolA4, poolB4⟩
  · exact ⟨poolA5, poolB5⟩
  · exact ⟨poolA6, poolB6⟩
  · exact ⟨poolA7, poolB7⟩
theorem short : ((poolA ++ poolB).all fun x => decide ((reprText x).length ≤ 10)) = true := by kernel_rfl
/-- places that are drawn -/
structure Places (ps : List Str) : Prop where
  pl : Pool ps
  sh : ∀ x ∈ ps, (reprText x).length ≤ 10
theorem places_of {k : Nat} {pool : List Str} (h : k < 6) (hp : pool = poolA ∨ pool = poolB) : Places (pool.take (2 + k)) := by
  have hs : ∀ x ∈ pool, (reprText x).length ≤ 10 := by
    intro x hx
    refine of_decide_eq_true (List.all_eq_true.mp short x ?_)
    rcases hp with e | e <;> subst e <;> simp [hx]
  refine ⟨?_, fun x hx => hs x (List.mem_of_mem_take hx)⟩
  rcases hp with e | e <;> subst e
  · exact (pools h).1
  · exact (pools h).2
theorem sh_ts {ps l : List Str} (P : Places ps) (h : ∀ x ∈ l, x ∈ ps) (hl : l.length ≤ 7) : Sh (ts l) 1 100 :=
  (Sh.tup (a := 0) (b := 10) (m := 7) (fun d hd => by
    obtain ⟨x, hx, rfl⟩ := List.mem_map.mp hd
    exact Sh.str (P.pl.ord.ok x (h x hx)) (P.sh x (h x hx))) (by rw [List.length_map]; exact hl)).mono (by omega) (by omega)
theorem side_len {ps l : List Str} (P : Ordr ps) (h : Side ps l) : l.length ≤ 7 := Nat.le_trans (h.nd.length_le_of_subset h.sub) P.hi
theorem sh_side {ps l : List Str} (P : Places ps) (h : l ∈ allS ps) : Sh (ts l) 1 100 := sh_ts P (side_of P.pl h).sub (side_len P.pl.ord (side_of P.pl h))
theorem allS_len {ps : List Str} (P : Pool ps) : (allS ps).length ≤ 63 := by
  have h := P.cnt
  have := P.ord.hi
  have : 2 ^ (ps.length - 1) ≤ 2 ^ 6 := Nat.pow_le_pow_right (by decide) (by omega)
  omega
theorem sh_all {ps : List Str} (P : Places ps) {L : List (List Str)} (h : ∀ l ∈ L, l ∈ allS ps) (hl : L.length ≤ 63) : Sh (.tup (L.map ts)) 2 10000 ∧ Sh (.lst (L.map ts)) 2 10000 := by
  have k : ∀ d ∈ L.map ts, Sh d 1 100 := fun d hd => by
    obtain ⟨l, hl, rfl⟩ := List.mem_map.mp hd
    exact sh_side P (h l hl)
  exact ⟨(Sh.tup k (m := 63) (by rw [List.length_map]; exact hl)).mono (by omega) (by omega), (Sh.lst k (m := 63) (by rw [List.length_map]; exact hl)).mono (by omega) (by omega)⟩
theorem eqD_ts {a b : List Str} : eqD (ts a) (ts b) = decide (a = b) := by
  show PyData.eqv (.tuple _) (.tuple _) = _
  unfold PyData.eqv
  exact eqv_strs
theorem anyEq_ts {L : List (List Str)} {l : List Str} : anyEq (L.map ts) (ts l) = decide (l ∈ L) := by
  unfold anyEq
  induction L with
  | nil => simp
  | cons a L ih =>
    rw [List.map_cons, List.any_cons, ih, eqD_ts]
    by_cases h : a = l
    · subst h; simp
    · simp [h, Ne.symm h]
theorem fIn_tss {L : List (List Str)} {l : List Str} (h : okD (ts l) = true) (h2 : okD (.lst (L.map ts)) = true) : fInA [ts l, .lst (L.map ts)] = some (.fz (.bl (decide (l ∈ L)))) := by
  have e : memD (ts l) (.lst (L.map ts)) = some (decide (l ∈ L)) := by
    show (if (flatD (ts l) && (L.map ts).all flatD) = true then some (anyEq (L.map ts) (ts l)) else if (okD (ts l) && okD (.lst (L.map ts))) = true then some (anyEq (L.map ts) (ts l)) else none) = _
    rw [if_neg (by show ¬ (false && _) = true; simp), if_pos (by rw [h, h2]; rfl), anyEq_ts]
  unfold fInA
  show (match (memD (ts l) (.lst (L.map ts))).map fun b => O.fz (.bl b) with
    | some o => some o
    | none => fInD [ts l, .lst (L.map ts)]) = _
  rw [e]; rfl
theorem other_side {ps l : List Str} (P : Pool ps) (h : l ∈ allS ps) : other (ps.headD "") ps l = l ∧ other (ps.headD "") ps (rest ps l) = l := by
  obtain ⟨h1, h2, h3⟩ := sides_of P h
  have hr : ∀ p ∈ ps, decide (p ∈ rest ps l) = !decide (p ∈ l) := by
    intro p hp
    have : p ∈ rest ps l ↔ p ∉ l := by
      unfold rest
      rw [List.mem_filter]
      simp only [Bool.not_eq_true', decide_eq_false_iff_not]
      exact ⟨fun z => z.2, fun z => ⟨hp, z⟩⟩
    by_cases z : p ∈ l <;> simp [this, z]
  have e1 : other (ps.headD "") ps l = Pz.pick ps l := by
    unfold other Pz.pick
    refine List.filter_congr fun p hp => ?_
    rw [decide_eq_false h1]; simp
  have e2 : other (ps.headD "") ps (rest ps l) = Pz.pick ps l := by
    unfold other Pz.pick
    refine List.filter_congr fun p hp => ?_
    rw [hr p hp, hr _ (head_mem P.ord), decide_eq_false h1]; simp
  rw [e1, e2]
  exact ⟨h3, h3⟩
theorem s_side2 {ps l : List Str} {w : O} (P : Ordr ps) (hw : Like w l) : g_side_told [.fz (ts ps), w] = some (.fz (ts (other (ps.headD "") ps l)), [some (.fz (ts ps)), some w]) := by
  have h1 := P.lo
  have h2 := P.hi
  cases ps with
  | nil => simp at h1
  | cons a t => exact s_side hw (by unfold cap; omega)
theorem s_across {l : List Str} {x y : Str} : g_is_across [.fz (ts l), .fz (.str x), .fz (.str y)] = some (.fz (.bl (decide (x ∈ l) != decide (y ∈ l))), [some (.fz (ts l)), some (.fz (.str x)), some (.fz (.str y))]) := by
  apply z_run (S0 := [some (.fz (ts l)), some (.fz (.str x)), some (.fz (.str y))]) rfl
  · apply ret_val
    and_intros
  · rfl
end K16
set_option Elab.async false
set_option linter.all false
set_option maxRecDepth 100000
set_option maxHeartbeats 4000000
namespace K16
open PySem PySem.Spec L2 Pz
local macro_rules
  | `(tactic| infer_instance) => `(tactic| first
    | (with_reducible exact Pz.fIn_ts) | (with_reducible exact Pz.fEq_int) | (with_reducible exact Pz.fNe_int) | (with_reducible exact Pz.fSl_loT) | (with_reducible exact Pz.fSl_hiT) | (with_reducible exact Pz.fSl_loL) | (with_reducible exact Pz.fSl_hiL) | (with_reducible exact Pz.upTo0 _)
    | (with_reducible exact Pz.fIn_ls)
    | (with_reducible exact Pz.fNotIn_ts)
    | (with_reducible exact Pz.fNe_bl)
    | ((with_reducible apply Pz.z_fLen); first | (with_reducible exact List.length_map ..) | exact rfl)
    | ((with_reducible apply Pz.z_fLenT); first | (with_reducible exact List.length_map ..) | exact rfl)
    | ((with_reducible apply Pz.small_nat); assumption)
    | exact rfl)
local macro_rules
  | `(tactic| nofun) => `(tactic| first
    | (with_reducible exact Pz.z_g0)
    | (with_reducible apply Pz.z_gS)
    | (with_reducible assumption)
    | (with_reducible exact Pz.z_s0)
    | (with_reducible apply Pz.z_sS)
    | (with_reducible exact Pz.z_lit)
    | (with_reducible apply Pz.z_var)
    | (with_reducible apply Pz.eBi_val)
    | (with_reducible apply Pz.cons_val)
    | (with_reducible exact Pz.z_anil)
    | (with_reducible apply Pz.var_val)
    | (with_reducible apply Pz.tmp_val)
    | (with_reducible exact Pz.z_r0)
    | (with_reducible apply Pz.z_rS)
    | (with_reducible apply Pz.z_rT)
    | ((with_reducible apply Pz.rsv_ref); (exact rfl); first | (with_reducible exact Pz.z_shfz) | (with_reducible exact Pz.shal_map _ _) | (with_reducible assumption) | exact rfl)
    | ((with_reducible apply Pz.z_rF); (exact rfl); (exact rfl))
    | (with_reducible exact Pz.z_shfz)
    | (with_reducible exact Pz.shal_map _ _)
    | (with_reducible exact Pz.z_frfz)
    | (with_reducible exact Pz.fr_map _ _)
    | (with_reducible apply Pz.z_frol)
    | (with_reducible exact Pz.z_frs0)
    | (with_reducible apply Pz.z_frsS)
    | (with_reducible exact Pz.frs_map _ _)
    | (with_reducible apply Pz.z_tup)
    | (with_reducible apply Pz.z_lst)
    | (with_reducible exact Pz.z_lnil)
    | (with_reducible apply Pz.z_lcons)
    | ((with_reducible apply Pz.z_els2); (exact rfl))
    | (with_reducible apply Pz.els_1)
    | (with_reducible apply Pz.z_lenAt)
    | (with_reducible apply Pz.z_getS)
    | (with_reducible apply Pz.z_atF)
    | (with_reducible exact List.length_map ..)
    | (with_reducible apply Pz.z_sl)
    | (with_reducible exact Pz.z_ev0)
    | (with_reducible apply Pz.z_ev1)
    | (with_reducible apply Pz.z_call)
    | (with_reducible exact Pz.z_l0)
    | ((with_reducible show Pz.lend _ _ _ = _); (apply Pz.z_lT))
    | ((with_reducible show Pz.lend _ _ _ = _); (apply Pz.z_lZ); exact rfl)
    | ((with_reducible show Pz.lend _ _ _ = _); (apply Pz.z_lO); exact rfl; (first | exact rfl | exact Pz.Src.own ‹_›))
    | ((with_reducible show Pz.lend _ _ _ = _); (apply Pz.z_lF); exact rfl)
    | (with_reducible exact Pz.z_b0)
    | ((with_reducible show Pz.giveBack _ _ _ _ = _); (apply Pz.z_bT))
    | ((with_reducible show Pz.giveBack _ _ _ _ = _); (apply Pz.z_bR))
    | ((with_reducible show Pz.giveBack _ _ _ _ = _); (apply Pz.z_bF))
    | (with_reducible apply Pz.tE_val)
    | (with_reducible apply Pz.z_not)
    | (with_reducible apply Pz.z_eT)
    | (with_reducible apply Pz.z_eNot)
    | (with_reducible apply Pz.z_chn)
    | (with_reducible apply Pz.and_val)
    | (with_reducible apply Pz.or_val)
    | (with_reducible apply Pz.z_set)
    | (with_reducible apply Pz.ret_val)
    | (with_reducible apply Pz.z_exp)
    | (with_reducible exact Pz.z_nil)
    | (with_reducible apply Pz.z_par)
    | (with_reducible exact Pz.z_a0)
    | (with_reducible apply Pz.z_aS)
    | (with_reducible apply Pz.z_bnm)
    | (with_reducible apply Pz.z_btp)
    | (with_reducible exact Pz.z_bs0)
    | (with_reducible apply Pz.z_bsS)
    | (with_reducible exact Pz.z_cl0)
    | (with_reducible apply Pz.z_clS)
    | (with_reducible exact Pz.z_pb0)
    | (with_reducible apply Pz.z_pbS)
    | (with_reducible apply Pz.z_rng1)
    | (with_reducible apply Pz.z_ivr)
    | (with_reducible apply Pz.z_ivt)
    | (with_reducible exact Pz.z_itl)
    | (with_reducible exact Pz.z_itt)
    | (with_reducible exact Pz.z_its)
    | (with_reducible apply Pz.z_lcm)
    | (with_reducible apply Pz.z_lcf)
    | intro _
    | infer_instance)
local macro_rules
  | `(tactic| and_intros) => `(tactic| first | (nofun <;> and_intros))
def L0 : SS := sSet 1 (eCall g__law_source io__law_source (aCons (aVar 0) (aNil)))
def L1 : SS := sSet 2 (eCall g__law_of io__law_of (aCons (aVar 1) (aCons (aTmp (eLst (lCons (eTup (lCons (eLit (.str "a")) (lCons (eLit (.str "b")) (lCons (eLit (.str "c")) (lCons (eLit (.str "d")) (lCons (eLit (.str "e")) (lCons (eLit (.str "f")) (lCons (eLit (.str "g")) (lNil))))))))) (lCons (eTup (lCons (eLit (.str "a")) (lCons (eLit (.str "a1")) (lCons (eLit (.str "b10")) (lCons (eLit (.str "b9")) (lCons (eLit (.str "c")) (lCons (eLit (.str "d2")) (lCons (eLit (.str "zz")) (lNil))))))))) (lNil))))) (aNil))))
def L2 : SS := sSet 3 (eSl (aVar 2) none (some (e2 fAdd (aTmp (eLit (.int 2))) (aTmp (eCall g__law_pick io__law_pick (aCons (aVar 1) (aCons (aTmp (eLit (.int 6))) (aNil))))))))
def L3 : SS := sSet 4 (eCall g__law_all io__law_all (aCons (aVar 3) (aNil)))
def L4 : SS := sIf (tE (e2 fNe (aTmp (eBi fRepr (aCons (aTmp (eCall g_partings_told io_partings_told (aCons (aVar 3) (aNil)))) (aNil)))) (aTmp (eBi fRepr (aCons (aTmp (eBi fTuple (aCons (aVar 4) (aNil)))) (aNil)))))) (sRet (eLit (.bl false))) (sNil)
def L5 : SS := sSet 5 (eBi fTuple (aCons (aTmp (eCall g__law_mixed io__law_mixed (aCons (aVar 1) (aCons (aVar 3) (aNil))))) (aNil)))
def L6 : SS := sSet 6 (eLc (.nm 9) (iVal (aVar 4)) (tE (eCall g__law_is_arcs io__law_is_arcs (aCons (aVar 5) (aCons (aVar 9) (aNil))))) (eVar 9) [9])
def L7 : SS := sSet 7 (eCall g__law_pick io__law_pick (aCons (aVar 1) (aCons (aTmp (eEls (eLenAt (.slot 5)) (eBi fLen (aCons (aVar 5) (aNil))))) (aNil))))
def L8 : SS := sSet 8 (eLst (lCons (e2 fAdd (aTmp (eSl (aVar 5) (some (eVar 7)) none)) (aTmp (eSl (aVar 5) none (some (eVar 7))))) (lCons (e1 fRev (aVar 5)) (lNil))))
def B9 : SS := sSeq (sSet 10 (eBi fTuple (aCons (aTmp (eLc (.nm 21) (iVal (aVar 3)) (tE (e2 fNotInA (aVar 21) (aVar 9))) (eVar 21) [21])) (aNil)))) (sSeq (sIf (tE (e2 fNe (aTmp (eBi fRepr (aCons (aTmp (eLst (lCons (eCall g_side_told io_side_told (aCons (aVar 3) (aCons (aVar 9) (aNil)))) (lCons (eCall g_side_told io_side_told (aCons (aVar 3) (aCons (aVar 10) (aNil)))) (lNil))))) (aNil)))) (aTmp (eBi fRepr (aCons (aTmp (eLst (lCons (eVar 9) (lCons (eVar 9) (lNil))))) (aNil)))))) (sRet (eLit (.bl false))) (sNil)) (sSeq (sIf (tE (e2 fNe (aTmp (eBi fRepr (aCons (aTmp (eLc (.nm 11) (iVal (aTmp (e2 fAdd (aTmp (eLst (lCons (eVar 5) (lNil)))) (aVar 8)))) (tYes) (eCall g_is_arcs io_is_arcs (aCons (aVar 11) (aCons (aVar 9) (aNil)))) [11])) (aNil)))) (aTmp (eBi fRepr (aCons (aTmp (eRep (eLst (lCons (e2 fInA (aVar 9) (aVar 6)) (lNil))) (eLit (.int 3)))) (aNil)))))) (sRet (eLit (.bl false))) (sNil)) (sSeq (sPar [11, 12] (lCons (eCall g__law_of io__law_of (aCons (aVar 1) (aCons (aVar 3) (aNil)))) (lCons (eCall g__law_of io__law_of (aCons (aVar 1) (aCons (aVar 3) (aNil)))) (lNil)))) (sIf (tE (e2 fNe (aTmp (eBi fRepr (aCons (aTmp (eCall g_is_across io_is_across (aCons (aVar 9) (aCons (aVar 11) (aCons (aVar 12) (aNil)))))) (aNil)))) (aTmp (eBi fRepr (aCons (aTmp (e2 fNe (aTmp (e2 fInA (aVar 11) (aVar 9))) (aTmp (e2 fInA (aVar 12) (aVar 9))))) (aNil)))))) (sRet (eLit (.bl false))) (sNil)))))
def L9 : SS := sFor (.nm 9) (iVal (aVar 4)) B9
def L10 : SS := sIf (tOr (tE (e2 fNe (aTmp (eEls (eLenAt (.slot 6)) (eBi fLen (aCons (aVar 6) (aNil))))) (aTmp (e2 fDiv (aTmp (e2 fMulI (aTmp (eEls (eLenAt (.slot 3)) (eBi fLen (aCons (aVar 3) (aNil))))) (aTmp (e2 fSub (aTmp (eEls (eLenAt (.slot 3)) (eBi fLen (aCons (aVar 3) (aNil))))) (aTmp (eLit (.int 1))))))) (aTmp (eLit (.int 2))))))) (tE (e2 fNotB (aTmp (eCall g_are_together io_are_together (aCons (aVar 3) (aCons (aTmp (eBi fTuple (aCons (aVar 6) (aNil)))) (aNil))))) (aTmp (eLit (.bl true)))))) (sRet (eLit (.bl false))) (sNil)
def L11 : SS := sSet 13 (eBi fTuple (aCons (aTmp (eSl (aTmp (eCall g__law_mixed io__law_mixed (aCons (aVar 1) (aCons (aVar 6) (aNil))))) none (some (eCall g__law_pick io__law_pick (aCons (aVar 1) (aCons (aTmp (e2 fAdd (aTmp (eEls (eLenAt (.slot 6)) (eBi fLen (aCons (aVar 6) (aNil))))) (aTmp (eLit (.int 1))))) (aNil))))))) (aNil)))
def L12 : SS := sIf (tE (e2 fNotB (aTmp (eCall g_are_together io_are_together (aCons (aVar 3) (aCons (aVar 13) (aNil))))) (aTmp (eLit (.bl true))))) (sRet (eLit (.bl false))) (sNil)
def L13 : SS := sSet 14 (eBi fTuple (aCons (aTmp (eBi fSorted (aCons (aTmp (eSl (aTmp (eCall g__law_mixed io__law_mixed (aCons (aVar 1) (aCons (aVar 3) (aNil))))) none (some (e2 fAdd (aTmp (eLit (.int 2))) (aTmp (eCall g__law_pick io__law_pick (aCons (aVar 1) (aCons (aTmp (e2 fSub (aTmp (eEls (eLenAt (.slot 3)) (eBi fLen (aCons (aVar 3) (aNil))))) (aTmp (eLit (.int 1))))) (aNil))))))))) (aNil)))) (aNil)))
def L14 : SS := sSet 15 (eBi fTuple (aCons (aTmp (eLc (.nm 21) (iVal (aVar 5)) (tE (e2 fInA (aVar 21) (aVar 14))) (eVar 21) [21])) (aNil)))
def B15 : SS := sSeq (sSet 16 (eCall g_cut_told io_cut_told (aCons (aVar 9) (aCons (aVar 14) (aNil))))) (sSeq (sIf (tE (e2 fNe (aTmp (eBi fRepr (aCons (aVar 16) (aNil)))) (aTmp (eBi fRepr (aCons (aTmp (eCall g__law_cut io__law_cut (aCons (aVar 3) (aCons (aVar 9) (aCons (aVar 14) (aNil)))))) (aNil)))))) (sRet (eLit (.bl false))) (sNil)) (sIf (tAnd (tE (e1 fNotN (aVar 16))) (tAnd (tE (e2 fInA (aVar 9) (aVar 6))) (tE (e2 fNotB (aTmp (eCall g_is_arcs io_is_arcs (aCons (aVar 15) (aCons (aVar 16) (aNil))))) (aTmp (eLit (.bl true))))))) (sRet (eLit (.bl false))) (sNil)))
def L15 : SS := sFor (.nm 9) (iVal (aVar 4)) B15
def B16 : SS := sSeq (sPar [11, 12] (lCons (eCall g__law_of io__law_of (aCons (aVar 1) (aCons (aVar 4) (aNil)))) (lCons (eCall g__law_of io__law_of (aCons (aVar 1) (aCons (aVar 4) (aNil)))) (lNil)))) (sSeq (sSet 10 (eLc (.nm 9) (iVal (aTmp (eTup (lCons (eVar 11) (lCons (eVar 12) (lNil)))))) (tYes) (eLc (.nm 21) (iVal (aVar 3)) (tE (e2 fNotInA (aVar 21) (aVar 9))) (eVar 21) [21]) [9])) (sSeq (sSet 18 (eLst (lCons (eTup (lCons (eVar 11) (lCons (eVar 12) (lNil)))) (lCons (eTup (lCons (eVar 11) (lCons (eEls (eAt (.sub (.slot 10) (qLit (.int 1)))) (e2 fIdx (aVar 10) (aTmp (eLit (.int 1))))) (lNil)))) (lCons (eTup (lCons (eEls (eAt (.sub (.slot 10) (qLit (.int 0)))) (e2 fIdx (aVar 10) (aTmp (eLit (.int 0))))) (lCons (eVar 12) (lNil)))) (lCons (eTup (lCons (eEls (eAt (.sub (.slot 10) (qLit (.int 0)))) (e2 fIdx (aVar 10) (aTmp (eLit (.int 0))))) (lCons (eEls (eAt (.sub (.slot 10) (qLit (.int 1)))) (e2 fIdx (aVar 10) (aTmp (eLit (.int 1))))) (lNil)))) (lNil))))))) (sSeq (sSet 19 (e2 fNe (aTmp (eLc (.tp [.nm 22, .nm 23]) (iVal (aVar 18)) (tE (e2 fEq (aTmp (eLc (.nm 21) (iVal (aVar 22)) (tE (e2 fInA (aVar 21) (aVar 23))) (eVar 21) [21])) (aTmp (eLst (lNil))))) (eLit (.int 1)) [22, 23])) (aTmp (eLst (lNil))))) (sSeq (sIf (tE (e2 fNe (aTmp (eBi fRepr (aCons (aTmp (eCall g_are_nested io_are_nested (aCons (aVar 3) (aCons (aVar 11) (aCons (aVar 12) (aNil)))))) (aNil)))) (aTmp (eBi fRepr (aCons (aVar 19) (aNil)))))) (sRet (eLit (.bl false))) (sNil)) (sSeq (sSet 20 (eLc (.nm 9) (iVal (aTmp (eTup (lCons (eVar 11) (lCons (eVar 12) (lNil)))))) (tYes) (eCall g_cut_told io_cut_told (aCons (aVar 9) (aCons (aVar 14) (aNil)))) [9])) (sIf (tAnd (tE (eVar 19)) (tAnd (tE (e2 fNotInA (aTmp (eLit .non)) (aVar 20))) (tE (e2 fNotB (aTmp (eCall g_are_nested io_are_nested (aCons (aVar 14) (aCons (aTmp (eEls (eAt (.sub (.slot 20) (qLit (.int 0)))) (e2 fIdx (aVar 20) (aTmp (eLit (.int 0)))))) (aCons (aTmp (eEls (eAt (.sub (.slot 20) (qLit (.int 1)))) (e2 fIdx (aVar 20) (aTmp (eLit (.int 1)))))) (aNil)))))) (aTmp (eLit (.bl true))))))) (sRet (eLit (.bl false))) (sNil)))))))
def L16 : SS := sFor (.nm 17) (iRange1 (aCons (aTmp (eLit (.int 8))) (aNil))) B16
def L17 : SS := sRet (eLit (.bl true))
theorem law_is : m_law = sSeq L0 (sSeq L1 (sSeq L2 (sSeq L3 (sSeq L4 (sSeq L5 (sSeq L6 (sSeq L7 (sSeq L8 (sSeq L9 (sSeq L10 (sSeq L11 (sSeq L12 (sSeq L13 (sSeq L14 (sSeq L15 (sSeq L16 (L17))))))))))))))))) := rfl

open Bits
def arcQ (od l : List Str) : Bool := decide (chg (bitsO od l) = 2)
def arcsL (ps od : List Str) : List (List Str) := (allS ps).filter fun l => arcQ od l
@[reducible] def EV (f pl o : O) (ps od : List Str) (k : Nat) (a9 a10 a11 a12 a13 a14 a15 a16 a17 a18 a19 a20 : Option O) : Pz.Env :=
  [some f, some o, some pl, some (.fz (ts ps)), some (.fz (.lst ((allS ps).map ts))), some (.fz (ts od)), some (.ol ((arcsL ps od).map fun l => .fz (ts l))), some (.fz (.int k)), some (.ol [.fz (ts (turnS k od)), .fz (ts od.reverse)]), a9, a10, a11, a12, a13, a14, a15, a16, a17, a18, a19, a20, none, none, none]
structure Order (ps od : List Str) : Prop where
  nd : od.Nodup
  mem : ∀ x, x ∈ od ↔ x ∈ ps
  len : od.length = ps.length
theorem Order.of {ps od : List Str} (P : Ordr ps) (h : od.Perm ps) : Order ps od := ⟨h.nodup_iff.mpr P.nd, fun x => h.mem_iff, h.length_eq⟩
theorem s_arcs2 {od l : List Str} (hl : od.length ≤ 7) : g_is_arcs [.fz (ts od), .fz (ts l)] = some (.fz (.bl (arcQ od l)), [some (.fz (ts od)), some (.fz (ts l))]) := by
  rw [s_is_arcs (by unfold cap; omega), chg_eq (by rw [bits_len]; exact hl)]
  have : decide ((chg (bitsO od l) : Int) = 2) = arcQ od l := decide_eq_decide.mpr ⟨fun h => by omega, fun h => by omega⟩
  rw [this]
theorem z_rep {f g : EE} {S S1 S2 : Pz.Env} {os : List O} {k : Int} {ds es : List D} (h : f S = some (.ol os, S1)) (h2 : g S1 = some (.fz (.int k), S2)) (hk : (small62 k && decide (os.length * k.toNat ≤ cap)) = true) (hf : frs os = ds) (hr : (List.replicate k.toNat ds).flatten = es) : eRep f g S = some (.ol (es.map O.fz), S2) := by
  unfold eRep; rw [h]; subst hf; subst hr; simp only [h2, hk, if_true]
end K16
set_option Elab.async false
set_option linter.all false
set_option maxRecDepth 100000
set_option maxHeartbeats 4000000
namespace K16
open PySem PySem.Spec L2 Pz
local macro_rules
  | `(tactic| infer_instance) => `(tactic| first
    | (with_reducible exact Pz.fIn_ts) | (with_reducible exact Pz.fEq_int) | (with_reducible exact Pz.fNe_int) | (with_reducible exact Pz.fSl_loT) | (with_reducible exact Pz.fSl_hiT) | (with_reducible exact Pz.fSl_loL) | (with_reducible exact Pz.fSl_hiL) | (with_reducible exact Pz.upTo0 _)
    | (with_reducible exact Pz.fIn_ls)
    | (with_reducible exact Pz.fNotIn_ts)
    | (with_reducible exact Pz.fNe_bl)
    | ((with_reducible apply Pz.z_fLen); first | (with_reducible exact List.length_map ..) | exact rfl)
    | ((with_reducible apply Pz.z_fLenT); first | (with_reducible exact List.length_map ..) | exact rfl)
    | ((with_reducible apply Pz.small_nat); assumption)
    | exact rfl)
local macro_rules
  | `(tactic| nofun) => `(tactic| first
    | (with_reducible exact Pz.z_g0)
    | (with_reducible apply Pz.z_gS)
    | (with_reducible assumption)
    | (with_reducible exact Pz.z_s0)
    | (with_reducible apply Pz.z_sS)
    | (with_reducible exact Pz.z_lit)
    | (with_reducible apply Pz.z_var)
    | (with_reducible apply Pz.eBi_val)
    | (with_reducible apply Pz.cons_val)
    | (with_reducible exact Pz.z_anil)
    | (with_reducible apply Pz.var_val)
    | (with_reducible apply Pz.tmp_val)
    | (with_reducible exact Pz.z_r0)
    | (with_reducible apply Pz.z_rS)
    | (with_reducible apply Pz.z_rT)
    | ((with_reducible apply Pz.rsv_ref); (exact rfl); first | (with_reducible exact Pz.z_shfz) | (with_reducible exact Pz.shal_map _ _) | (with_reducible assumption) | exact rfl)
    | ((with_reducible apply Pz.z_rF); (exact rfl); (exact rfl))
    | (with_reducible exact Pz.z_shfz)
    | (with_reducible exact Pz.shal_map _ _)
    | (with_reducible exact Pz.z_frfz)
    | (with_reducible exact Pz.fr_map _ _)
    | (with_reducible apply Pz.z_frol)
    | (with_reducible exact Pz.z_frs0)
    | (with_reducible apply Pz.z_frsS)
    | (with_reducible exact Pz.frs_map _ _)
    | (with_reducible apply Pz.z_tup)
    | (with_reducible apply Pz.z_lst)
    | (with_reducible exact Pz.z_lnil)
    | (with_reducible apply Pz.z_lcons)
    | ((with_reducible apply Pz.z_els2); (exact rfl))
    | (with_reducible apply Pz.els_1)
    | (with_reducible apply Pz.z_lenAt)
    | (with_reducible apply Pz.z_getS)
    | (with_reducible apply Pz.z_atF)
    | (with_reducible exact List.length_map ..)
    | (with_reducible apply Pz.z_sl)
    | (with_reducible exact Pz.z_ev0)
    | (with_reducible apply Pz.z_ev1)
    | (with_reducible apply Pz.z_call)
    | (with_reducible exact Pz.z_l0)
    | ((with_reducible show Pz.lend _ _ _ = _); (apply Pz.z_lT))
    | ((with_reducible show Pz.lend _ _ _ = _); (apply Pz.z_lZ); exact rfl)
    | ((with_reducible show Pz.lend _ _ _ = _); (apply Pz.z_lO); exact rfl; (first | exact rfl | exact Pz.Src.own ‹_›))
    | ((with_reducible show Pz.lend _ _ _ = _); (apply Pz.z_lF); exact rfl)
    | (with_reducible exact Pz.z_b0)
    | ((with_reducible show Pz.giveBack _ _ _ _ = _); (apply Pz.z_bT))
    | ((with_reducible show Pz.giveBack _ _ _ _ = _); (apply Pz.z_bR))
    | ((with_reducible show Pz.giveBack _ _ _ _ = _); (apply Pz.z_bF))
    | (with_reducible apply Pz.tE_val)
    | (with_reducible apply Pz.z_not)
    | (with_reducible apply Pz.z_eT)
    | (with_reducible apply Pz.z_eNot)
    | (with_reducible apply Pz.z_chn)
    | (with_reducible apply Pz.and_val)
    | (with_reducible apply Pz.or_val)
    | (with_reducible apply Pz.z_set)
    | (with_reducible apply Pz.ret_val)
    | (with_reducible apply Pz.z_exp)
    | (with_reducible exact Pz.z_nil)
    | (with_reducible apply Pz.z_par)
    | (with_reducible exact Pz.z_a0)
    | (with_reducible apply Pz.z_aS)
    | (with_reducible apply Pz.z_bnm)
    | (with_reducible apply Pz.z_btp)
    | (with_reducible exact Pz.z_bs0)
    | (with_reducible apply Pz.z_bsS)
    | (with_reducible exact Pz.z_cl0)
    | (with_reducible apply Pz.z_clS)
    | (with_reducible exact Pz.z_pb0)
    | (with_reducible apply Pz.z_pbS)
    | (with_reducible apply Pz.z_rng1)
    | (with_reducible apply Pz.z_ivr)
    | (with_reducible apply Pz.z_ivt)
    | (with_reducible exact Pz.z_itl)
    | (with_reducible exact Pz.z_itt)
    | (with_reducible exact Pz.z_its)
    | (with_reducible apply Pz.z_lcm)
    | (with_reducible apply Pz.z_lcf)
    | intro _
    | infer_instance)
local macro_rules
  | `(tactic| and_intros) => `(tactic| first | (nofun <;> and_intros))
open Bits
variable {f pl o : O} {ps od l : List Str} {n k : Nat} {a9 a10 a11 a12 a13 a14 a15 a16 a17 a18 a19 a20 : Option O}
theorem draw_name (P : Ordr ps) (hs : Src n o) (hn : n ≤ 2 ^ 64) : ∃ o' x, x ∈ ps ∧ g__law_of [o, .fz (ts ps)] = some (.fz (.str x), [some o', some (.fz (ts ps))]) ∧ Src (n + 1) o' := by
  have h1 := P.lo
  have h2 := P.hi
  obtain ⟨o', d, hd, e, s⟩ := of_tup (ds := ps.map D.str) hs hn (by intro e; rw [List.map_eq_nil_iff.mp e] at h1; exact absurd h1 (by decide)) (by rw [List.length_map]; unfold cap; omega)
  obtain ⟨x, hx, rfl⟩ := List.mem_map.mp hd
  exact ⟨o', x, hx, e, s⟩
theorem body9 (P : Places ps) (A : Order ps od) (hk : k < od.length) (hl : l ∈ allS ps) (hs : Src n o) (hn : n + 2 ≤ 2 ^ 64) : ∃ o' b10 b11 b12, Src (n + 2) o' ∧ B9 (EV f pl o ps od k (some (.fz (ts l))) a10 a11 a12 a13 a14 a15 a16 a17 a18 a19 a20) = some (.nx (EV f pl o' ps od k (some (.fz (ts l))) b10 b11 b12 a13 a14 a15 a16 a17 a18 a19 a20)) := by
  have P' := P.pl.ord
  have h7 := P'.hi
  have hle := A.len
  have hcap : ps.length ≤ cap := by unfold cap; omega
  obtain ⟨z1, z2⟩ := other_side P.pl hl
  have s1 := s_side2 (w := .fz (ts l)) (l := l) P' (.inl rfl)
  have s2 := s_side2 (w := .fz (ts (rest ps l))) (l := rest ps l) P' (.inl rfl)
  rw [z1] at s1
  rw [z2] at s2
  have s2' : g_side_told [.fz (ts ps), .fz (ts (ps.filter fun x => !decide (x ∈ l)))] = some (.fz (ts l), [some (.fz (ts ps)), some (.fz (ts (ps.filter fun x => !decide (x ∈ l))))]) := s2
  clear s2
  obtain ⟨o1, x, hx, g1, hs1⟩ := draw_name P' hs (by omega)
  obtain ⟨o2, y, hy, g2, hs2⟩ := draw_name P' hs1 (by omega)
  have sl := sh_side P hl
  have sh1 : Sh (.lst [ts l, ts l]) 2 1000 := (Sh.lst (a := 1) (b := 100) (m := 2) (fun d hd => by simp only [List.mem_cons, List.not_mem_nil, or_false] at hd; rcases hd with e | e <;> rw [e] <;> exact sl) (by simp)).mono (by omega) (by omega)
  have r1 := sh1.repr (by omega) (by unfold cap; omega)
  have q1 := sh1.ne
  have sh2 : Sh (.lst [.bl (arcQ od l), .bl (arcQ od l), .bl (arcQ od l)]) 1 100 := (Sh.lst (a := 0) (b := 5) (m := 3) (fun d hd => by simp only [List.mem_cons, List.not_mem_nil, or_false] at hd; rcases hd with e | e | e <;> rw [e] <;> exact Sh.bl) (by simp)).mono (by omega) (by omega)
  have r2 := sh2.repr (by omega) (by unfold cap; omega)
  have q2 := sh2.ne
  have sh3 : Sh (.bl (decide (x ∈ l) != decide (y ∈ l))) 0 5 := Sh.bl
  have r3 := sh3.repr (by omega) (by unfold cap; omega)
  have q3 := sh3.ne
  have c1 := s_arcs2 (od := od) (l := l) (by omega)
  have c2 := s_arcs2 (od := turnS k od) (l := l) (by unfold turnS; simp; omega)
  have c3 := s_arcs2 (od := od.reverse) (l := l) (by simp; omega)
  have u2 : arcQ (turnS k od) l = arcQ od l := by unfold arcQ; rw [bits_turn, turn_eq (by rw [bits_len]; omega) (by rw [bits_len]; exact hk)]
  have u3 : arcQ od.reverse l = arcQ od l := by unfold arcQ; rw [bits_rev, rev_eq (by rw [bits_len]; omega)]
  rw [u2] at c2
  rw [u3] at c3
  have sall := sh_all P (L := arcsL ps od) (fun l h => (List.mem_filter.mp h).1) (Nat.le_trans (List.length_filter_le _ _) (allS_len P.pl))
  have i1 := fIn_tss (l := l) (L := arcsL ps od) (sl.okd (by omega)) (sall.2.okd (by omega))
  have i2 : decide (l ∈ arcsL ps od) = arcQ od l := by
    unfold arcsL
    cases hb : arcQ od l with
    | true => exact decide_eq_true (List.mem_filter.mpr ⟨hl, hb⟩)
    | false => exact decide_eq_false fun z => by rw [List.mem_filter, hb] at z; cases z.2
  rw [i2] at i1
  have ac := s_across (l := l) (x := x) (y := y)
  clear sall sl sh1 sh2 sh3 u2 u3 i2 z1 z2
  have hac : fAdd [.lst [ts od], .lst [ts (turnS k od), ts od.reverse]] = some (.ol [.fz (ts od), .fz (ts (turnS k od)), .fz (ts od.reverse)]) := rfl
  have lc : eLc (.nm 11) (iVal (aTmp (e2 fAdd (aTmp (eLst (lCons (eVar 5) (lNil)))) (aVar 8)))) (tYes) (eCall g_is_arcs io_is_arcs (aCons (aVar 11) (aCons (aVar 9) (aNil)))) [11] (EV f pl o ps od k (some (.fz (ts l))) (some (.fz (ts (ps.filter fun x => !decide (x ∈ l))))) a11 a12 a13 a14 a15 a16 a17 a18 a19 a20) = some (.ol [.fz (.bl (arcQ od l)), .fz (.bl (arcQ od l)), .fz (.bl (arcQ od l))], EV f pl o ps od k (some (.fz (ts l))) (some (.fz (ts (ps.filter fun x => !decide (x ∈ l))))) a11 a12 a13 a14 a15 a16 a17 a18 a19 a20) := by
    have := z_lcm (tg := .nm 11) (own := [11]) (enc := ts) (L := [od, turnS k od, od.reverse]) (v := fun _ => .fz (.bl (arcQ od l))) (e := eCall g_is_arcs io_is_arcs (aCons (aVar 11) (aCons (aVar 9) (aNil)))) (it := iVal (aTmp (e2 fAdd (aTmp (eLst (lCons (eVar 5) (lNil)))) (aVar 8)))) (S := EV f pl o ps od k (some (.fz (ts l))) (some (.fz (ts (ps.filter fun x => !decide (x ∈ l))))) a11 a12 a13 a14 a15 a16 a17 a18 a19 a20)
      (S1 := EV f pl o ps od k (some (.fz (ts l))) (some (.fz (ts (ps.filter fun x => !decide (x ∈ l))))) a11 a12 a13 a14 a15 a16 a17 a18 a19 a20)
      (S0 := EV f pl o ps od k (some (.fz (ts l))) (some (.fz (ts (ps.filter fun x => !decide (x ∈ l))))) none a12 a13 a14 a15 a16 a17 a18 a19 a20)
      (B := fun w => EV f pl o ps od k (some (.fz (ts l))) (some (.fz (ts (ps.filter fun x => !decide (x ∈ l))))) (some (.fz (ts w))) a12 a13 a14 a15 a16 a17 a18 a19 a20)
      (E := fun w => EV f pl o ps od k (some (.fz (ts l))) (some (.fz (ts (ps.filter fun x => !decide (x ∈ l))))) (some (.fz (ts w))) a12 a13 a14 a15 a16 a17 a18 a19 a20)
      (S' := EV f pl o ps od k (some (.fz (ts l))) (some (.fz (ts (ps.filter fun x => !decide (x ∈ l))))) a11 a12 a13 a14 a15 a16 a17 a18 a19 a20)
      (by
        show _ = some ([ts od, ts (turnS k od), ts od.reverse], _)
        and_intros) (by show 3 ≤ cap; decide) (by and_intros) (by and_intros) (fun w hw => by
        simp only [List.mem_cons, List.not_mem_nil, or_false] at hw
        rcases hw with e | e | e <;> subst e <;> and_intros) (by and_intros) (by and_intros)
    exact this
  have rp : eRep (eLst (lCons (e2 fInA (aVar 9) (aVar 6)) (lNil))) (eLit (.int 3)) (EV f pl o ps od k (some (.fz (ts l))) (some (.fz (ts (ps.filter fun x => !decide (x ∈ l))))) a11 a12 a13 a14 a15 a16 a17 a18 a19 a20) = some (.ol [.fz (.bl (arcQ od l)), .fz (.bl (arcQ od l)), .fz (.bl (arcQ od l))], EV f pl o ps od k (some (.fz (ts l))) (some (.fz (ts (ps.filter fun x => !decide (x ∈ l))))) a11 a12 a13 a14 a15 a16 a17 a18 a19 a20) := by
    have := z_rep (f := eLst (lCons (e2 fInA (aVar 9) (aVar 6)) (lNil))) (g := eLit (.int 3)) (S := EV f pl o ps od k (some (.fz (ts l))) (some (.fz (ts (ps.filter fun x => !decide (x ∈ l))))) a11 a12 a13 a14 a15 a16 a17 a18 a19 a20) (os := [.fz (.bl (arcQ od l))]) (ds := [.bl (arcQ od l)]) (k := 3) (by and_intros) (by and_intros) rfl rfl rfl
    exact this
  refine ⟨o2, some (.fz (ts (ps.filter fun x => !decide (x ∈ l)))), some (.fz (.str x)), some (.fz (.str y)), hs2, ?_⟩
  apply z_seq
  · and_intros
  · apply z_seq
    · apply z_no
      · and_intros
      · rfl
      · and_intros
    · apply z_seq
      · apply z_no
        · and_intros
        · rfl
        · and_intros
      · apply z_seq
        · and_intros
        · apply z_no
          · and_intros
          · rfl
          · and_intros
end K16
set_option Elab.async false
set_option linter.all false
set_option maxRecDepth 100000
set_option maxHeartbeats 4000000
namespace K16
open PySem PySem.Spec L2 Pz
local macro_rules
  | `(tactic| infer_instance) => `(tactic| first
    | (with_reducible exact Pz.fIn_ts) | (with_reducible exact Pz.fEq_int) | (with_reducible exact Pz.fNe_int) | (with_reducible exact Pz.fSl_loT) | (with_reducible exact Pz.fSl_hiT) | (with_reducible exact Pz.fSl_loL) | (with_reducible exact Pz.fSl_hiL) | (with_reducible exact Pz.upTo0 _)
    | (with_reducible exact Pz.fIn_ls)
    | (with_reducible exact Pz.fNotIn_ts)
    | (with_reducible exact Pz.fNe_bl)
    | ((with_reducible apply Pz.z_fLen); first | (with_reducible exact List.length_map ..) | exact rfl)
    | ((with_reducible apply Pz.z_fLenT); first | (with_reducible exact List.length_map ..) | exact rfl)
    | ((with_reducible apply Pz.small_nat); assumption)
    | exact rfl)
local macro_rules
  | `(tactic| nofun) => `(tactic| first
    | (with_reducible exact Pz.z_g0)
    | (with_reducible apply Pz.z_gS)
    | (with_reducible assumption)
    | (with_reducible exact Pz.z_s0)
    | (with_reducible apply Pz.z_sS)
    | (with_reducible exact Pz.z_lit)
    | (with_reducible apply Pz.z_var)
    | (with_reducible apply Pz.eBi_val)
    | (with_reducible apply Pz.cons_val)
    | (with_reducible exact Pz.z_anil)
    | (with_reducible apply Pz.var_val)
    | (with_reducible apply Pz.tmp_val)
    | (with_reducible exact Pz.z_r0)
    | (with_reducible apply Pz.z_rS)
    | (with_reducible apply Pz.z_rT)
    | ((with_reducible apply Pz.rsv_ref); (exact rfl); first | (with_reducible exact Pz.z_shfz) | (with_reducible exact Pz.shal_map _ _) | (with_reducible assumption) | exact rfl)
    | ((with_reducible apply Pz.z_rF); (exact rfl); (exact rfl))
    | (with_reducible exact Pz.z_shfz)
    | (with_reducible exact Pz.shal_map _ _)
    | (with_reducible exact Pz.z_frfz)
    | (with_reducible exact Pz.fr_map _ _)
    | (with_reducible apply Pz.z_frol)
    | (with_reducible exact Pz.z_frs0)
    | (with_reducible apply Pz.z_frsS)
    | (with_reducible exact Pz.frs_map _ _)
    | (with_reducible apply Pz.z_tup)
    | (with_reducible apply Pz.z_lst)
    | (with_reducible exact Pz.z_lnil)
    | (with_reducible apply Pz.z_lcons)
    | ((with_reducible apply Pz.z_els2); (exact rfl))
    | (with_reducible apply Pz.els_1)
    | (with_reducible apply Pz.z_lenAt)
    | (with_reducible apply Pz.z_getS)
    | (with_reducible apply Pz.z_atF)
    | (with_reducible exact List.length_map ..)
    | (with_reducible apply Pz.z_sl)
    | (with_reducible exact Pz.z_ev0)
    | (with_reducible apply Pz.z_ev1)
    | (with_reducible apply Pz.z_call)
    | (with_reducible exact Pz.z_l0)
    | ((with_reducible show Pz.lend _ _ _ = _); (apply Pz.z_lT))
    | ((with_reducible show Pz.lend _ _ _ = _); (apply Pz.z_lZ); exact rfl)
    | ((with_reducible show Pz.lend _ _ _ = _); (apply Pz.z_lO); exact rfl; (first | exact rfl | exact Pz.Src.own ‹_›))
    | ((with_reducible show Pz.lend _ _ _ = _); (apply Pz.z_lF); exact rfl)
    | (with_reducible exact Pz.z_b0)
    | ((with_reducible show Pz.giveBack _ _ _ _ = _); (apply Pz.z_bT))
    | ((with_reducible show Pz.giveBack _ _ _ _ = _); (apply Pz.z_bR))
    | ((with_reducible show Pz.giveBack _ _ _ _ = _); (apply Pz.z_bF))
    | (with_reducible apply Pz.tE_val)
    | (with_reducible apply Pz.z_not)
    | (with_reducible apply Pz.z_eT)
    | (with_reducible apply Pz.z_eNot)
    | (with_reducible apply Pz.z_chn)
    | (with_reducible apply Pz.and_val)
    | (with_reducible apply Pz.or_val)
    | (with_reducible apply Pz.z_set)
    | (with_reducible apply Pz.ret_val)
    | (with_reducible apply Pz.z_exp)
    | (with_reducible exact Pz.z_nil)
    | (with_reducible apply Pz.z_par)
    | (with_reducible exact Pz.z_a0)
    | (with_reducible apply Pz.z_aS)
    | (with_reducible apply Pz.z_bnm)
    | (with_reducible apply Pz.z_btp)
    | (with_reducible exact Pz.z_bs0)
    | (with_reducible apply Pz.z_bsS)
    | (with_reducible exact Pz.z_cl0)
    | (with_reducible apply Pz.z_clS)
    | (with_reducible exact Pz.z_pb0)
    | (with_reducible apply Pz.z_pbS)
    | (with_reducible apply Pz.z_rng1)
    | (with_reducible apply Pz.z_ivr)
    | (with_reducible apply Pz.z_ivt)
    | (with_reducible exact Pz.z_itl)
    | (with_reducible exact Pz.z_itt)
    | (with_reducible exact Pz.z_its)
    | (with_reducible apply Pz.z_lcm)
    | (with_reducible apply Pz.z_lcf)
    | intro _
    | infer_instance)
local macro_rules
  | `(tactic| and_intros) => `(tactic| first | (nofun <;> and_intros))
open Bits
variable {f pl o : O} {ps od l fw : List Str} {n k : Nat} {a9 a10 a11 a12 a13 a14 a15 a16 a17 a18 a19 a20 : Option O}
/-- fewer places -/
structure Fewer (ps fw : List Str) : Prop where
  sub : ∀ x ∈ fw, x ∈ ps
  len : fw.length ≤ 7
  ne : fw ≠ []
theorem s_cut2 (F : Fewer ps fw) : g_cut_told [.fz (ts l), .fz (ts fw)] = some (.fz (oO (lcutO l fw)), [some (.fz (ts l)), some (.fz (ts fw))]) := by
  rw [← cut_same F.ne]
  obtain ⟨a, t, rfl⟩ := List.exists_cons_of_ne_nil F.ne
  exact s_cut (by have := F.len; unfold cap; omega)
theorem s_lcut2 (P : Ordr ps) (F : Fewer ps fw) : g__law_cut [.fz (ts ps), .fz (ts l), .fz (ts fw)] = some (.fz (oO (lcutO l fw)), [some (.fz (ts ps)), some (.fz (ts l)), some (.fz (ts fw))]) := by
  obtain ⟨a, t, rfl⟩ := List.exists_cons_of_ne_nil F.ne
  exact s_lcut (by have := F.len; unfold cap; omega) fun x hx => P.ok x (F.sub x hx)
theorem cut_sub {c : List Str} (h : lcutO l fw = some c) : ∀ x ∈ c, x ∈ fw := by
  obtain ⟨e, _⟩ := cut_is h
  rw [e]
  exact fun x hx => (List.mem_filter.mp hx).1
theorem cut_len {c : List Str} (h : lcutO l fw = some c) : c.length ≤ fw.length := by
  obtain ⟨e, _⟩ := cut_is h
  rw [e]
  exact List.length_filter_le _ _
theorem sh_cut (P : Places ps) (F : Fewer ps fw) : Sh (oO (lcutO l fw)) 1 100 := by
  cases h : lcutO l fw with
  | none => exact Sh.non.mono (by omega) (by omega)
  | some c => exact sh_ts P (fun x hx => F.sub x (cut_sub h x hx)) (Nat.le_trans (cut_len h) F.len)
theorem z_andF {t u : TB} {S S1 : Pz.Env} (h : t S = some (false, S1)) : Pz.tAnd t u S = some (false, S1) := by unfold Pz.tAnd; rw [h]
theorem z_andT {t u : TB} {S S1 : Pz.Env} {r : Option (Bool × Pz.Env)} (h : t S = some (true, S1)) (h2 : u S1 = r) : Pz.tAnd t u S = r := by unfold Pz.tAnd; rw [h]; exact h2
theorem body15 (P : Places ps) (A : Order ps od) (F : Fewer ps fw) (hl : l ∈ allS ps) : B15 (EV f pl o ps od k (some (.fz (ts l))) a10 a11 a12 a13 (some (.fz (ts fw))) (some (.fz (ts (od.filter fun p => decide (p ∈ fw))))) a16 a17 a18 a19 a20) = some (.nx (EV f pl o ps od k (some (.fz (ts l))) a10 a11 a12 a13 (some (.fz (ts fw))) (some (.fz (ts (od.filter fun p => decide (p ∈ fw))))) (some (.fz (oO (lcutO l fw)))) a17 a18 a19 a20)) := by
  have h7 := P.pl.ord.hi
  have hle := A.len
  have s1 := s_cut2 (l := l) F
  have s2 := s_lcut2 (l := l) P.pl.ord F
  have sc := sh_cut (l := l) P F
  have r1 := sc.repr (by omega) (by unfold cap; omega)
  have q1 := sc.ne
  have sl := sh_side P hl
  have sall := sh_all P (L := arcsL ps od) (fun l h => (List.mem_filter.mp h).1) (Nat.le_trans (List.length_filter_le _ _) (allS_len P.pl))
  have i1 := fIn_tss (l := l) (L := arcsL ps od) (sl.okd (by omega)) (sall.2.okd (by omega))
  have i2 : decide (l ∈ arcsL ps od) = arcQ od l := by
    unfold arcsL
    cases hb : arcQ od l with
    | true => exact decide_eq_true (List.mem_filter.mpr ⟨hl, hb⟩)
    | false => exact decide_eq_false fun z => by rw [List.mem_filter, hb] at z; cases z.2
  rw [i2] at i1
  clear sall sl sc i2
  have hlate : (od.filter fun p => decide (p ∈ fw)).length ≤ 7 := Nat.le_trans (List.length_filter_le _ _) (by omega)
  apply z_seq
  · and_intros
  · apply z_seq
    · apply z_no
      · and_intros
      · rfl
      · and_intros
    · cases hc : lcutO l fw with
      | none =>
        apply z_sif_f
        · apply z_andF
          apply tE_val
          and_intros
        · and_intros
      | some c =>
        cases hq : arcQ od l with
        | false =>
          rw [hq] at i1
          apply z_sif_f
          · apply z_andT
            · apply tE_val
              show e1 fNotN (aVar 16) _ = _
              and_intros
            · apply z_andF
              and_intros
          · and_intros
        | true =>
          rw [hq] at i1
          have c1 := s_arcs2 (od := od.filter fun p => decide (p ∈ fw)) (l := c) hlate
          have c2 : arcQ (od.filter fun p => decide (p ∈ fw)) c = true := decide_eq_true (cut_arcs A.mem (by omega) F.sub (of_decide_eq_true hq) hc)
          rw [c2] at c1
          apply z_sif_f
          · apply z_andT
            · apply tE_val
              and_intros
            · apply z_andT
              · and_intros
              · show tE (e2 fNotB (aTmp (eCall g_is_arcs io_is_arcs (aCons (aVar 15) (aCons (aVar 16) (aNil))))) (aTmp (eLit (.bl true)))) (EV f pl o ps od k (some (.fz (ts l))) a10 a11 a12 a13 (some (.fz (ts fw))) (some (.fz (ts (od.filter fun p => decide (p ∈ fw))))) (some (.fz (ts c))) a17 a18 a19 a20) = _
                and_intros
          · and_intros
end K16
set_option Elab.async false
set_option linter.all false
set_option maxRecDepth 100000
set_option maxHeartbeats 4000000
namespace K16
open PySem PySem.Spec L2 Pz
local macro_rules
  | `(tactic| infer_instance) => `(tactic| first
    | (with_reducible exact Pz.fIn_ts) | (with_reducible exact Pz.fEq_int) | (with_reducible exact Pz.fNe_int) | (with_reducible exact Pz.fSl_loT) | (with_reducible exact Pz.fSl_hiT) | (with_reducible exact Pz.fSl_loL) | (with_reducible exact Pz.fSl_hiL) | (with_reducible exact Pz.upTo0 _)
    | (with_reducible exact Pz.fIn_ls)
    | (with_reducible exact Pz.fNotIn_ts)
    | (with_reducible exact Pz.fNe_bl)
    | ((with_reducible apply Pz.z_fLen); first | (with_reducible exact List.length_map ..) | exact rfl)
    | ((with_reducible apply Pz.z_fLenT); first | (with_reducible exact List.length_map ..) | exact rfl)
    | ((with_reducible apply Pz.small_nat); assumption)
    | exact rfl)
local macro_rules
  | `(tactic| nofun) => `(tactic| first
    | (with_reducible exact Pz.z_g0)
    | (with_reducible apply Pz.z_gS)
    | (with_reducible assumption)
    | (with_reducible exact Pz.z_s0)
    | (with_reducible apply Pz.z_sS)
    | (with_reducible exact Pz.z_lit)
    | (with_reducible apply Pz.z_var)
    | (with_reducible apply Pz.eBi_val)
    | (with_reducible apply Pz.cons_val)
    | (with_reducible exact Pz.z_anil)
    | (with_reducible apply Pz.var_val)
    | (with_reducible apply Pz.tmp_val)
    | (with_reducible exact Pz.z_r0)
    | (with_reducible apply Pz.z_rS)
    | (with_reducible apply Pz.z_rT)
    | ((with_reducible apply Pz.rsv_ref); (exact rfl); first | (with_reducible exact Pz.z_shfz) | (with_reducible exact Pz.shal_map _ _) | (with_reducible assumption) | exact rfl)
    | ((with_reducible apply Pz.z_rF); (exact rfl); (exact rfl))
    | (with_reducible exact Pz.z_shfz)
    | (with_reducible exact Pz.shal_map _ _)
    | (with_reducible exact Pz.z_frfz)
    | (with_reducible exact Pz.fr_map _ _)
    | (with_reducible apply Pz.z_frol)
    | (with_reducible exact Pz.z_frs0)
    | (with_reducible apply Pz.z_frsS)
    | (with_reducible exact Pz.frs_map _ _)
    | (with_reducible apply Pz.z_tup)
    | (with_reducible apply Pz.z_lst)
    | (with_reducible exact Pz.z_lnil)
    | (with_reducible apply Pz.z_lcons)
    | ((with_reducible apply Pz.z_els2); (exact rfl))
    | (with_reducible apply Pz.els_1)
    | (with_reducible apply Pz.z_lenAt)
    | (with_reducible apply Pz.z_getS)
    | (with_reducible apply Pz.z_atF)
    | (with_reducible exact List.length_map ..)
    | (with_reducible apply Pz.z_sl)
    | (with_reducible exact Pz.z_ev0)
    | (with_reducible apply Pz.z_ev1)
    | (with_reducible apply Pz.z_call)
    | (with_reducible exact Pz.z_l0)
    | ((with_reducible show Pz.lend _ _ _ = _); (apply Pz.z_lT))
    | ((with_reducible show Pz.lend _ _ _ = _); (apply Pz.z_lZ); exact rfl)
    | ((with_reducible show Pz.lend _ _ _ = _); (apply Pz.z_lO); exact rfl; (first | exact rfl | exact Pz.Src.own ‹_›))
    | ((with_reducible show Pz.lend _ _ _ = _); (apply Pz.z_lF); exact rfl)
    | (with_reducible exact Pz.z_b0)
    | ((with_reducible show Pz.giveBack _ _ _ _ = _); (apply Pz.z_bT))
    | ((with_reducible show Pz.giveBack _ _ _ _ = _); (apply Pz.z_bR))
    | ((with_reducible show Pz.giveBack _ _ _ _ = _); (apply Pz.z_bF))
    | (with_reducible apply Pz.tE_val)
    | (with_reducible apply Pz.z_not)
    | (with_reducible apply Pz.z_eT)
    | (with_reducible apply Pz.z_eNot)
    | (with_reducible apply Pz.z_chn)
    | (with_reducible apply Pz.and_val)
    | (with_reducible apply Pz.or_val)
    | (with_reducible apply Pz.z_set)
    | (with_reducible apply Pz.ret_val)
    | (with_reducible apply Pz.z_exp)
    | (with_reducible exact Pz.z_nil)
    | (with_reducible apply Pz.z_par)
    | (with_reducible exact Pz.z_a0)
    | (with_reducible apply Pz.z_aS)
    | (with_reducible apply Pz.z_bnm)
    | (with_reducible apply Pz.z_btp)
    | (with_reducible exact Pz.z_bs0)
    | (with_reducible apply Pz.z_bsS)
    | (with_reducible exact Pz.z_cl0)
    | (with_reducible apply Pz.z_clS)
    | (with_reducible exact Pz.z_pb0)
    | (with_reducible apply Pz.z_pbS)
    | (with_reducible apply Pz.z_rng1)
    | (with_reducible apply Pz.z_ivr)
    | (with_reducible apply Pz.z_ivt)
    | (with_reducible exact Pz.z_itl)
    | (with_reducible exact Pz.z_itt)
    | (with_reducible exact Pz.z_its)
    | (with_reducible apply Pz.z_lcm)
    | (with_reducible apply Pz.z_lcf)
    | intro _
    | infer_instance)
local macro_rules
  | `(tactic| and_intros) => `(tactic| first | (nofun <;> and_intros))
open Bits
variable {f pl o : O} {ps od l fw : List Str} {n k : Nat} {a9 a10 a11 a12 a13 a14 a15 a16 a17 a18 a19 a20 : Option O}
def mk (p : Bool × List Str) : D := if p.1 then ts p.2 else lst p.2
theorem items_mk {p : Bool × List Str} : items (mk p) = some (p.2.map D.str) := by
  obtain ⟨b, l⟩ := p
  cases b <;> rfl
theorem fIn_mk {p : Bool × List Str} {x : Str} : fInA [.str x, mk p] = some (.fz (.bl (decide (x ∈ p.2)))) := by
  obtain ⟨b, l⟩ := p
  cases b
  · exact fIn_ls
  · exact fIn_ts
def enc2 (q : (Bool × List Str) × (Bool × List Str)) : D := .tup [mk q.1, mk q.2]
theorem draw_side (P : Pool ps) (hs : Src n o) (hn : n ≤ 2 ^ 64) : ∃ o' l, l ∈ allS ps ∧ g__law_of [o, .fz (.lst ((allS ps).map ts))] = some (.fz (ts l), [some o', some (.fz (.lst ((allS ps).map ts)))]) ∧ Src (n + 1) o' := by
  have h1 := P.cnt
  have h2 := P.ord.lo
  have h3 := allS_len P
  have h4 : 2 ^ 1 ≤ 2 ^ (ps.length - 1) := Nat.pow_le_pow_right (by decide) (by omega)
  obtain ⟨o', d, hd, e, s⟩ := of_lst (ds := (allS ps).map ts) hs hn (by intro e; rw [List.map_eq_nil_iff.mp e] at h1; simp at h1; omega) (by rw [List.length_map]; unfold cap; omega)
  obtain ⟨x, hx, rfl⟩ := List.mem_map.mp hd
  exact ⟨o', x, hx, e, s⟩
theorem eq_emp {p : Bool × List Str} {a : List Str} (h : ∀ x ∈ a, PyData.strOk x = true) : fEq [.lst ((a.filter fun x => decide (x ∈ p.2)).map D.str), .lst []] = some (.fz (.bl (emp a p.2))) := fEq_nil2 fun x hx => h x (List.mem_filter.mp hx).1
def L19 : EE := e2 fNe (aTmp (eLc (.tp [.nm 22, .nm 23]) (iVal (aVar 18)) (tE (e2 fEq (aTmp (eLc (.nm 21) (iVal (aVar 22)) (tE (e2 fInA (aVar 21) (aVar 23))) (eVar 21) [21])) (aTmp (eLst (lNil))))) (eLit (.int 1)) [22, 23])) (aTmp (eLst (lNil)))
local macro_rules
  | `(tactic| infer_instance) => `(tactic| first | (with_reducible exact items_mk) | (with_reducible exact fIn_mk))
theorem nil_ints {α : Type} {M : List α} : fNe [.lst (M.map fun _ => D.int 1), .lst []] = some (.fz (.bl (!M.isEmpty))) := by
  have e : okD (.lst (M.map fun _ => D.int 1)) = true := by
    have : Sh (.lst (M.map fun _ => D.int 1)) 1 (M.length * 12 + 2) := (Sh.lst (a := 0) (b := 10) (m := M.length) (fun d hd => by
      obtain ⟨_, _, rfl⟩ := List.mem_map.mp hd
      exact ⟨rfl, Nat.le_refl _, by decide +kernel, by decide +kernel, by decide +kernel⟩) (by simp)).mono (by omega) (by omega)
    exact this.okd (by omega)
  show (if (okD (.lst (M.map fun _ => D.int 1)) && okD (.lst [])) = true then some (O.fz (.bl (!eqD (.lst (M.map fun _ => D.int 1)) (.lst [])))) else none) = _
  rw [if_pos (by rw [e]; rfl)]
  cases M <;> rfl
theorem nested_is {L : List ((Bool × List Str) × (Bool × List Str))} (h : ∀ q ∈ L, (∀ x ∈ q.1.2, PyData.strOk x = true) ∧ q.1.2.length ≤ 7) (hL : L.length ≤ 4) (a10 : Option O) :
    L19 (EV f pl o ps od k a9 a10 a11 a12 a13 a14 a15 a16 a17 (some (.ol (L.map fun q => .fz (enc2 q)))) a19 a20) = some (.fz (.bl (!(L.filter fun q => emp q.1.2 q.2.2).isEmpty)), EV f pl o ps od k a9 a10 a11 a12 a13 a14 a15 a16 a17 (some (.fz (.lst (L.map enc2)))) a19 a20) := by
  have hLc : L.length ≤ cap := by unfold cap; omega
  have lc : eLc (.tp [.nm 22, .nm 23]) (iVal (aVar 18)) (tE (e2 fEq (aTmp (eLc (.nm 21) (iVal (aVar 22)) (tE (e2 fInA (aVar 21) (aVar 23))) (eVar 21) [21])) (aTmp (eLst (lNil))))) (eLit (.int 1)) [22, 23] (EV f pl o ps od k a9 a10 a11 a12 a13 a14 a15 a16 a17 (some (.ol (L.map fun q => .fz (enc2 q)))) a19 a20) = some (.ol ((L.filter fun q => emp q.1.2 q.2.2).map fun _ => .fz (.int 1)), EV f pl o ps od k a9 a10 a11 a12 a13 a14 a15 a16 a17 (some (.fz (.lst (L.map enc2)))) a19 a20) := by
    apply z_lcf (enc := enc2) (L := L) (pr := fun q => emp q.1.2 q.2.2) (v := fun _ => .fz (.int 1))
    · and_intros
    · exact hLc
    · and_intros
    · intro q hq
      show bindT (.tp [.nm 22, .nm 23]) (.tup [mk q.1, mk q.2]) _ = _
      and_intros
    · intro q hq
      obtain ⟨k1, k2⟩ := h q hq
      have k3 : q.1.2.length ≤ cap := by unfold cap; omega
      have k4 := eq_emp (p := q.2) k1
      and_intros
    · intro q hq
      and_intros
    · intro q hq _
      and_intros
    · intro q hq _
      and_intros
    · and_intros
  have nl := nil_ints (M := L.filter fun q => emp q.1.2 q.2.2)
  show e2 fNe (aTmp _) (aTmp (eLst lNil)) _ = _
  and_intros
end K16
set_option Elab.async false
set_option linter.all false
set_option maxRecDepth 100000
set_option maxHeartbeats 4000000
namespace K16
open PySem PySem.Spec L2 Pz
local macro_rules
  | `(tactic| infer_instance) => `(tactic| first
    | (with_reducible exact Pz.fIn_ts) | (with_reducible exact Pz.fEq_int) | (with_reducible exact Pz.fNe_int) | (with_reducible exact Pz.fSl_loT) | (with_reducible exact Pz.fSl_hiT) | (with_reducible exact Pz.fSl_loL) | (with_reducible exact Pz.fSl_hiL) | (with_reducible exact Pz.upTo0 _)
    | (with_reducible exact Pz.fIn_ls)
    | (with_reducible exact Pz.fNotIn_ts)
    | (with_reducible exact Pz.fNe_bl)
    | ((with_reducible apply Pz.z_fLen); first | (with_reducible exact List.length_map ..) | exact rfl)
    | ((with_reducible apply Pz.z_fLenT); first | (with_reducible exact List.length_map ..) | exact rfl)
    | ((with_reducible apply Pz.small_nat); assumption)
    | exact rfl)
local macro_rules
  | `(tactic| nofun) => `(tactic| first
    | (with_reducible exact Pz.z_g0)
    | (with_reducible apply Pz.z_gS)
    | (with_reducible assumption)
    | (with_reducible exact Pz.z_s0)
    | (with_reducible apply Pz.z_sS)
    | (with_reducible exact Pz.z_lit)
    | (with_reducible apply Pz.z_var)
    | (with_reducible apply Pz.eBi_val)
    | (with_reducible apply Pz.cons_val)
    | (with_reducible exact Pz.z_anil)
    | (with_reducible apply Pz.var_val)
    | (with_reducible apply Pz.tmp_val)
    | (with_reducible exact Pz.z_r0)
    | (with_reducible apply Pz.z_rS)
    | (with_reducible apply Pz.z_rT)
    | ((with_reducible apply Pz.rsv_ref); (exact rfl); first | (with_reducible exact Pz.z_shfz) | (with_reducible exact Pz.shal_map _ _) | (with_reducible assumption) | exact rfl)
    | ((with_reducible apply Pz.z_rF); (exact rfl); (exact rfl))
    | (with_reducible exact Pz.z_shfz)
    | (with_reducible exact Pz.shal_map _ _)
    | (with_reducible exact Pz.z_frfz)
    | (with_reducible exact Pz.fr_map _ _)
    | (with_reducible apply Pz.z_frol)
    | (with_reducible exact Pz.z_frs0)
    | (with_reducible apply Pz.z_frsS)
    | (with_reducible exact Pz.frs_map _ _)
    | (with_reducible apply Pz.z_tup)
    | (with_reducible apply Pz.z_lst)
    | (with_reducible exact Pz.z_lnil)
    | (with_reducible apply Pz.z_lcons)
    | ((with_reducible apply Pz.z_els2); (exact rfl))
    | (with_reducible apply Pz.els_1)
    | (with_reducible apply Pz.z_lenAt)
    | (with_reducible apply Pz.z_getS)
    | (with_reducible apply Pz.z_atF)
    | (with_reducible exact List.length_map ..)
    | (with_reducible apply Pz.z_sl)
    | (with_reducible exact Pz.z_ev0)
    | (with_reducible apply Pz.z_ev1)
    | (with_reducible apply Pz.z_call)
    | (with_reducible exact Pz.z_l0)
    | ((with_reducible show Pz.lend _ _ _ = _); (apply Pz.z_lT))
    | ((with_reducible show Pz.lend _ _ _ = _); (apply Pz.z_lZ); exact rfl)
    | ((with_reducible show Pz.lend _ _ _ = _); (apply Pz.z_lO); exact rfl; (first | exact rfl | exact Pz.Src.own ‹_›))
    | ((with_reducible show Pz.lend _ _ _ = _); (apply Pz.z_lF); exact rfl)
    | (with_reducible exact Pz.z_b0)
    | ((with_reducible show Pz.giveBack _ _ _ _ = _); (apply Pz.z_bT))
    | ((with_reducible show Pz.giveBack _ _ _ _ = _); (apply Pz.z_bR))
    | ((with_reducible show Pz.giveBack _ _ _ _ = _); (apply Pz.z_bF))
    | (with_reducible apply Pz.tE_val)
    | (with_reducible apply Pz.z_not)
    | (with_reducible apply Pz.z_eT)
    | (with_reducible apply Pz.z_eNot)
    | (with_reducible apply Pz.z_chn)
    | (with_reducible apply Pz.and_val)
    | (with_reducible apply Pz.or_val)
    | (with_reducible apply Pz.z_set)
    | (with_reducible apply Pz.ret_val)
    | (with_reducible apply Pz.z_exp)
    | (with_reducible exact Pz.z_nil)
    | (with_reducible apply Pz.z_par)
    | (with_reducible exact Pz.z_a0)
    | (with_reducible apply Pz.z_aS)
    | (with_reducible apply Pz.z_bnm)
    | (with_reducible apply Pz.z_btp)
    | (with_reducible exact Pz.z_bs0)
    | (with_reducible apply Pz.z_bsS)
    | (with_reducible exact Pz.z_cl0)
    | (with_reducible apply Pz.z_clS)
    | (with_reducible exact Pz.z_pb0)
    | (with_reducible apply Pz.z_pbS)
    | (with_reducible apply Pz.z_rng1)
    | (with_reducible apply Pz.z_ivr)
    | (with_reducible apply Pz.z_ivt)
    | (with_reducible exact Pz.z_itl)
    | (with_reducible exact Pz.z_itt)
    | (with_reducible exact Pz.z_its)
    | (with_reducible apply Pz.z_lcm)
    | (with_reducible apply Pz.z_lcf)
    | intro _
    | infer_instance)
local macro_rules
  | `(tactic| and_intros) => `(tactic| first | (nofun <;> and_intros))
open Bits
variable {f pl o : O} {ps od l m fw : List Str} {n k : Nat} {a9 a10 a11 a12 a13 a14 a15 a16 a17 a18 a19 a20 : Option O}
def four (ps l m : List Str) : List ((Bool × List Str) × (Bool × List Str)) := [((true, l), (true, m)), ((true, l), (false, rest ps m)), ((false, rest ps l), (true, m)), ((false, rest ps l), (false, rest ps m))]
theorem four_nest : (!((four ps l m).filter fun q => emp q.1.2 q.2.2).isEmpty) = nestB ps l m := by
  have e : nestB ps l m = ((emp l m || (emp l (rest ps m) || false)) || ((emp (rest ps l) m || (emp (rest ps l) (rest ps m) || false)) || false)) := rfl
  rw [e]
  show (!((([((true, l), (true, m)), ((true, l), (false, rest ps m)), ((false, rest ps l), (true, m)), ((false, rest ps l), (false, rest ps m))] : List ((Bool × List Str) × (Bool × List Str))).filter fun q => emp q.1.2 q.2.2).isEmpty)) = _
  simp only [List.filter_cons, List.filter_nil]
  cases emp l m <;> cases emp l (rest ps m) <;> cases emp (rest ps l) m <;> cases emp (rest ps l) (rest ps m) <;> rfl
theorem eq_non {d : Option (List Str)} : eqD (oO d) .non = d.isNone := by
  cases d <;> rfl
theorem notin_cuts {c d : Option (List Str)} (h : okD (.lst [oO c, oO d]) = true) : fNotInA [.non, .lst [oO c, oO d]] = some (.fz (.bl (!(c.isNone || d.isNone)))) := by
  have e : memD .non (.lst [oO c, oO d]) = some (c.isNone || d.isNone) := by
    have a : anyEq [oO c, oO d] .non = (c.isNone || d.isNone) := by
      show (eqD (oO c) .non || (eqD (oO d) .non || false)) = _
      rw [eq_non, eq_non, Bool.or_false]
    show (if (flatD .non && [oO c, oO d].all flatD) = true then some (anyEq [oO c, oO d] .non) else if (okD .non && okD (.lst [oO c, oO d])) = true then some (anyEq [oO c, oO d] .non) else none) = _
    rw [a, h]
    split
    · rfl
    · rfl
  unfold fNotInA
  show (match (memD .non (.lst [oO c, oO d])).map fun b => O.fz (.bl (!b)) with
    | some o => some o
    | none => fNotInD [.non, .lst [oO c, oO d]]) = _
  rw [e]; rfl
def EW (f pl o : O) (ps od : List Str) (k : Nat) (a9 a10 a11 a12 a13 a14 a15 a16 a17 a18 a19 a20 : Option O) : Pz.Env := EV f pl o ps od k a9 a10 a11 a12 a13 a14 a15 a16 a17 a18 a19 a20
theorem body16 (P : Places ps) (F : Fewer ps fw) (hs : Src n o) (hn : n + 2 ≤ 2 ^ 64) : ∃ o' b10 b11 b12 b18 b19 b20, Src (n + 2) o' ∧ B16 (EV f pl o ps od k a9 a10 a11 a12 a13 (some (.fz (ts fw))) a15 a16 a17 a18 a19 a20) = some (.nx (EV f pl o' ps od k a9 b10 b11 b12 a13 (some (.fz (ts fw))) a15 a16 a17 b18 b19 b20)) := by
  have P' := P.pl.ord
  have h7 := P'.hi
  have hcap : ps.length ≤ cap := by unfold cap; omega
  obtain ⟨o1, l, hl, g1, hs1⟩ := draw_side P.pl hs (by omega)
  obtain ⟨o2, m, hm, g2, hs2⟩ := draw_side P.pl hs1 (by omega)
  have Sl := side_of P.pl hl
  have Sm := side_of P.pl hm
  have ll := side_len P' Sl
  have lm := side_len P' Sm
  have nst := s_nested (ps := ps) (a := l) (b := m) hcap P'.ok Sl.sub (by unfold cap; omega)
  have sh3 : Sh (.bl (nestB ps l m)) 0 5 := Sh.bl
  have r3 := sh3.repr (by omega) (by unfold cap; omega)
  have q3 := sh3.ne
  have c1 := s_cut2 (l := l) F
  have c2 := s_cut2 (l := m) F
  have sk : Sh (.lst [oO (lcutO l fw), oO (lcutO m fw)]) 2 1000 := (Sh.lst (a := 1) (b := 100) (m := 2) (fun d hd => by simp only [List.mem_cons, List.not_mem_nil, or_false] at hd; rcases hd with e | e <;> rw [e]; exact sh_cut P F; exact sh_cut P F) (by simp)).mono (by omega) (by omega)
  have ni := notin_cuts (sk.okd (by omega))
  have ix0 : fIdx [.lst [.lst ((ps.filter fun x => !decide (x ∈ l)).map D.str), .lst ((ps.filter fun x => !decide (x ∈ m)).map D.str)], .int 0] = some (.fz (.lst ((ps.filter fun x => !decide (x ∈ l)).map D.str))) := rfl
  have ix1 : fIdx [.lst [.lst ((ps.filter fun x => !decide (x ∈ l)).map D.str), .lst ((ps.filter fun x => !decide (x ∈ m)).map D.str)], .int 1] = some (.fz (.lst ((ps.filter fun x => !decide (x ∈ m)).map D.str))) := rfl
  have lc1 : eLc (.nm 9) (iVal (aTmp (eTup (lCons (eVar 11) (lCons (eVar 12) (lNil)))))) (tYes) (eLc (.nm 21) (iVal (aVar 3)) (tE (e2 fNotInA (aVar 21) (aVar 9))) (eVar 21) [21]) [9] (EV f pl o2 ps od k a9 a10 (some (.fz (ts l))) (some (.fz (ts m))) a13 (some (.fz (ts fw))) a15 a16 a17 a18 a19 a20) = some (.ol [.ol ((ps.filter fun x => !decide (x ∈ l)).map fun x => .fz (.str x)), .ol ((ps.filter fun x => !decide (x ∈ m)).map fun x => .fz (.str x))], EV f pl o2 ps od k a9 a10 (some (.fz (ts l))) (some (.fz (ts m))) a13 (some (.fz (ts fw))) a15 a16 a17 a18 a19 a20) := by
    apply z_lcm (enc := ts) (L := [l, m]) (v := fun w => .ol ((ps.filter fun x => !decide (x ∈ w)).map fun x => .fz (.str x))) (E := fun w => EV f pl o2 ps od k (some (.fz (ts w))) a10 (some (.fz (ts l))) (some (.fz (ts m))) a13 (some (.fz (ts fw))) a15 a16 a17 a18 a19 a20)
    · show _ = some ([ts l, ts m], _)
      and_intros
    · show 2 ≤ cap
      decide
    · and_intros
    · and_intros
    · and_intros
    · and_intros
    · and_intros
  have lc2 : ∀ b10 b18 b19, eLc (.nm 9) (iVal (aTmp (eTup (lCons (eVar 11) (lCons (eVar 12) (lNil)))))) (tYes) (eCall g_cut_told io_cut_told (aCons (aVar 9) (aCons (aVar 14) (aNil)))) [9] (EV f pl o2 ps od k a9 b10 (some (.fz (ts l))) (some (.fz (ts m))) a13 (some (.fz (ts fw))) a15 a16 a17 b18 b19 a20) = some (.ol [.fz (oO (lcutO l fw)), .fz (oO (lcutO m fw))], EV f pl o2 ps od k a9 b10 (some (.fz (ts l))) (some (.fz (ts m))) a13 (some (.fz (ts fw))) a15 a16 a17 b18 b19 a20) := by
    intro b10 b18 b19
    apply z_lcm (enc := ts) (L := [l, m]) (v := fun w => .fz (oO (lcutO w fw))) (E := fun w => EV f pl o2 ps od k (some (.fz (ts w))) b10 (some (.fz (ts l))) (some (.fz (ts m))) a13 (some (.fz (ts fw))) a15 a16 a17 b18 b19 a20)
    · show _ = some ([ts l, ts m], _)
      and_intros
    · show 2 ≤ cap
      decide
    · and_intros
    · and_intros
    · intro w hw
      have c3 := s_cut2 (l := w) F
      and_intros
    · and_intros
    · and_intros
  have l2 := lc2 (some (.fz (.lst [.lst ((ps.filter fun x => !decide (x ∈ l)).map D.str), .lst ((ps.filter fun x => !decide (x ∈ m)).map D.str)]))) (some (.fz (.lst ((four ps l m).map enc2)))) (some (.fz (.bl (nestB ps l m))))
  clear lc2
  have n19 := nested_is (f := f) (pl := pl) (o := o2) (ps := ps) (od := od) (k := k) (a9 := a9) (a11 := some (.fz (ts l))) (a12 := some (.fz (ts m))) (a13 := a13) (a14 := some (.fz (ts fw))) (a15 := a15) (a16 := a16) (a17 := a17) (a19 := a19) (a20 := a20) (L := four ps l m) (fun q hq => by
    have hr : ∀ w, (rest ps w).length ≤ 7 := fun w => Nat.le_trans (List.length_filter_le _ _) h7
    have hr2 : ∀ w, ∀ x ∈ rest ps w, PyData.strOk x = true := fun w x hx => P'.ok x (List.mem_filter.mp hx).1
    unfold four at hq
    simp only [List.mem_cons, List.not_mem_nil, or_false] at hq
    rcases hq with e | e | e | e <;> subst e
    · exact ⟨fun x hx => P'.ok x (Sl.sub x hx), ll⟩
    · exact ⟨fun x hx => P'.ok x (Sl.sub x hx), ll⟩
    · exact ⟨hr2 l, hr l⟩
    · exact ⟨hr2 l, hr l⟩) (Nat.le_refl 4) (some (.fz (.lst [.lst ((ps.filter fun x => !decide (x ∈ l)).map D.str), .lst ((ps.filter fun x => !decide (x ∈ m)).map D.str)])))
  rw [four_nest] at n19
  refine ⟨o2, some (.fz (.lst [.lst ((ps.filter fun x => !decide (x ∈ l)).map D.str), .lst ((ps.filter fun x => !decide (x ∈ m)).map D.str)])), some (.fz (ts l)), some (.fz (ts m)), some (.fz (.lst ((four ps l m).map enc2))), some (.fz (.bl (nestB ps l m))), some (.ol [.fz (oO (lcutO l fw)), .fz (oO (lcutO m fw))]), hs2, ?_⟩
  apply z_seq
  · and_intros
  · apply z_seq
    · apply z_set
      · exact lc1
      · and_intros
    · apply z_seq (S1 := EV f pl o2 ps od k a9 (some (.fz (.lst [.lst ((ps.filter fun x => !decide (x ∈ l)).map D.str), .lst ((ps.filter fun x => !decide (x ∈ m)).map D.str)]))) (some (.fz (ts l))) (some (.fz (ts m))) a13 (some (.fz (ts fw))) a15 a16 a17 (some (.ol ((four ps l m).map fun q => .fz (enc2 q)))) a19 a20)
      · show _ = some (Out.nx [some f, some o2, some pl, some (.fz (ts ps)), some (.fz (.lst ((allS ps).map ts))), some (.fz (ts od)), some (.ol ((arcsL ps od).map fun l => .fz (ts l))), some (.fz (.int k)), some (.ol [.fz (ts (turnS k od)), .fz (ts od.reverse)]), a9, some (.fz (.lst [.lst ((ps.filter fun x => !decide (x ∈ l)).map D.str), .lst ((ps.filter fun x => !decide (x ∈ m)).map D.str)])), some (.fz (ts l)), some (.fz (ts m)), a13, some (.fz (ts fw)), a15, a16, a17, some (.ol [.fz (.tup [ts l, ts m]), .fz (.tup [ts l, .lst ((ps.filter fun x => !decide (x ∈ m)).map D.str)]), .fz (.tup [.lst ((ps.filter fun x => !decide (x ∈ l)).map D.str), ts m]), .fz (.tup [.lst ((ps.filter fun x => !decide (x ∈ l)).map D.str), .lst ((ps.filter fun x => !decide (x ∈ m)).map D.str)])]), a19, a20, none, none, none])
        and_intros
      · apply z_seq
        · apply z_set
          · exact n19
          · and_intros
        · apply z_seq
          · apply z_no
            · and_intros
            · rfl
            · and_intros
          · apply z_seq
            · apply z_set
              · exact l2
              · and_intros
            · cases hnb : nestB ps l m with
              | false =>
                apply z_sif_f
                · apply z_andF
                  and_intros
                · and_intros
              | true =>
                cases hc : lcutO l fw with
                | none =>
                  have ni2 : fNotInA [.non, .lst [oO none, oO (lcutO m fw)]] = some (.fz (.bl false)) := by rw [hc] at ni; exact ni
                  apply z_sif_f
                  · apply z_andT
                    · and_intros
                    · apply z_andF
                      apply tE_val
                      and_intros
                  · and_intros
                | some c =>
                  cases hd : lcutO m fw with
                  | none =>
                    have ni2 : fNotInA [.non, .lst [oO (some c), oO none]] = some (.fz (.bl false)) := by rw [hc, hd] at ni; exact ni
                    apply z_sif_f
                    · apply z_andT
                      · and_intros
                      · apply z_andF
                        apply tE_val
                        and_intros
                    · and_intros
                  | some d =>
                    have ni2 : fNotInA [.non, .lst [oO (some c), oO (some d)]] = some (.fz (.bl true)) := by rw [hc, hd] at ni; exact ni
                    have n2 := s_nested (ps := fw) (a := c) (b := d) (by have := F.len; unfold cap; omega) (fun x hx => P'.ok x (F.sub x hx)) (cut_sub hc) (by have := cut_len hc; have := F.len; unfold cap; omega)
                    rw [cut_nested F.sub hnb hc hd] at n2
                    apply z_sif_f
                    · apply z_andT
                      · and_intros
                      · apply z_andT
                        · apply tE_val
                          and_intros
                        · show tE _ (EV f pl o2 ps od k a9 (some (.fz (.lst [.lst ((ps.filter fun x => !decide (x ∈ l)).map D.str), .lst ((ps.filter fun x => !decide (x ∈ m)).map D.str)]))) (some (.fz (ts l))) (some (.fz (ts m))) a13 (some (.fz (ts fw))) a15 a16 a17 (some (.fz (.lst ((four ps l m).map enc2)))) (some (.fz (.bl true))) (some (.ol [.fz (ts c), .fz (ts d)]))) = _
                          and_intros
                    · and_intros
end K16
set_option Elab.async false
set_option linter.all false
set_option maxRecDepth 100000
set_option maxHeartbeats 4000000
namespace K16
open PySem PySem.Spec L2 Pz
local macro_rules
  | `(tactic| infer_instance) => `(tactic| first
    | (with_reducible exact Pz.fIn_ts) | (with_reducible exact Pz.fEq_int) | (with_reducible exact Pz.fNe_int) | (with_reducible exact Pz.fSl_loT) | (with_reducible exact Pz.fSl_hiT) | (with_reducible exact Pz.fSl_loL) | (with_reducible exact Pz.fSl_hiL) | (with_reducible exact Pz.upTo0 _)
    | (with_reducible exact Pz.fIn_ls)
    | (with_reducible exact Pz.fNotIn_ts)
    | (with_reducible exact Pz.fNe_bl)
    | ((with_reducible apply Pz.z_fLen); first | (with_reducible exact List.length_map ..) | exact rfl)
    | ((with_reducible apply Pz.z_fLenT); first | (with_reducible exact List.length_map ..) | exact rfl)
    | ((with_reducible apply Pz.small_nat); assumption)
    | exact rfl)
local macro_rules
  | `(tactic| nofun) => `(tactic| first
    | (with_reducible exact Pz.z_g0)
    | (with_reducible apply Pz.z_gS)
    | (with_reducible assumption)
    | (with_reducible exact Pz.z_s0)
    | (with_reducible apply Pz.z_sS)
    | (with_reducible exact Pz.z_lit)
    | (with_reducible apply Pz.z_var)
    | (with_reducible apply Pz.eBi_val)
    | (with_reducible apply Pz.cons_val)
    | (with_reducible exact Pz.z_anil)
    | (with_reducible apply Pz.var_val)
    | (with_reducible apply Pz.tmp_val)
    | (with_reducible exact Pz.z_r0)
    | (with_reducible apply Pz.z_rS)
    | (with_reducible apply Pz.z_rT)
    | ((with_reducible apply Pz.rsv_ref); (exact rfl); first | (with_reducible exact Pz.z_shfz) | (with_reducible exact Pz.shal_map _ _) | (with_reducible assumption) | exact rfl)
    | ((with_reducible apply Pz.z_rF); (exact rfl); (exact rfl))
    | (with_reducible exact Pz.z_shfz)
    | (with_reducible exact Pz.shal_map _ _)
    | (with_reducible exact Pz.z_frfz)
    | (with_reducible exact Pz.fr_map _ _)
    | (with_reducible apply Pz.z_frol)
    | (with_reducible exact Pz.z_frs0)
    | (with_reducible apply Pz.z_frsS)
    | (with_reducible exact Pz.frs_map _ _)
    | (with_reducible apply Pz.z_tup)
    | (with_reducible apply Pz.z_lst)
    | (with_reducible exact Pz.z_lnil)
    | (with_reducible apply Pz.z_lcons)
    | ((with_reducible apply Pz.z_els2); (exact rfl))
    | (with_reducible apply Pz.els_1)
    | (with_reducible apply Pz.z_lenAt)
    | (with_reducible apply Pz.z_getS)
    | (with_reducible apply Pz.z_atF)
    | (with_reducible exact List.length_map ..)
    | (with_reducible apply Pz.z_sl)
    | (with_reducible exact Pz.z_ev0)
    | (with_reducible apply Pz.z_ev1)
    | (with_reducible apply Pz.z_call)
    | (with_reducible exact Pz.z_l0)
    | ((with_reducible show Pz.lend _ _ _ = _); (apply Pz.z_lT))
    | ((with_reducible show Pz.lend _ _ _ = _); (apply Pz.z_lZ); exact rfl)
    | ((with_reducible show Pz.lend _ _ _ = _); (apply Pz.z_lO); exact rfl; (first | exact rfl | exact Pz.Src.own ‹_›))
    | ((with_reducible show Pz.lend _ _ _ = _); (apply Pz.z_lF); exact rfl)
    | (with_reducible exact Pz.z_b0)
    | ((with_reducible show Pz.giveBack _ _ _ _ = _); (apply Pz.z_bT))
    | ((with_reducible show Pz.giveBack _ _ _ _ = _); (apply Pz.z_bR))
    | ((with_reducible show Pz.giveBack _ _ _ _ = _); (apply Pz.z_bF))
    | (with_reducible apply Pz.tE_val)
    | (with_reducible apply Pz.z_not)
    | (with_reducible apply Pz.z_eT)
    | (with_reducible apply Pz.z_eNot)
    | (with_reducible apply Pz.z_chn)
    | (with_reducible apply Pz.and_val)
    | (with_reducible apply Pz.or_val)
    | (with_reducible apply Pz.z_set)
    | (with_reducible apply Pz.ret_val)
    | (with_reducible apply Pz.z_exp)
    | (with_reducible exact Pz.z_nil)
    | (with_reducible apply Pz.z_par)
    | (with_reducible exact Pz.z_a0)
    | (with_reducible apply Pz.z_aS)
    | (with_reducible apply Pz.z_bnm)
    | (with_reducible apply Pz.z_btp)
    | (with_reducible exact Pz.z_bs0)
    | (with_reducible apply Pz.z_bsS)
    | (with_reducible exact Pz.z_cl0)
    | (with_reducible apply Pz.z_clS)
    | (with_reducible exact Pz.z_pb0)
    | (with_reducible apply Pz.z_pbS)
    | (with_reducible apply Pz.z_rng1)
    | (with_reducible apply Pz.z_ivr)
    | (with_reducible apply Pz.z_ivt)
    | (with_reducible exact Pz.z_itl)
    | (with_reducible exact Pz.z_itt)
    | (with_reducible exact Pz.z_its)
    | (with_reducible apply Pz.z_lcm)
    | (with_reducible apply Pz.z_lcf)
    | intro _
    | infer_instance)
local macro_rules
  | `(tactic| and_intros) => `(tactic| first | (nofun <;> and_intros))
open Bits
variable {ps od : List Str}
theorem tog_true {L : List (List Str)} (P : Ordr ps) (A : Order ps od) (h : ∀ l ∈ L, arcQ od l = true) (hl : 2 * L.length ≤ ps.length * (ps.length - 1)) : togL ps L = true := by
  have h1 := P.lo
  have h7 := P.hi
  have hle := A.len
  unfold togL
  have e1 : (ps.length : Int) * ((ps.length : Int) - 1) = ((ps.length * (ps.length - 1) : Nat) : Int) := by
    rw [Int.natCast_mul, Int.ofNat_sub (by omega)]; rfl
  rw [e1, if_neg (by omega), Bool.not_eq_true']
  apply Bool.eq_false_iff.mpr
  intro z
  obtain ⟨y, hy, z⟩ := List.any_eq_true.mp z
  have hn : ps.length * (ps.length - 1) ≤ 42 := by
    have : ps.length = 2 ∨ ps.length = 3 ∨ ps.length = 4 ∨ ps.length = 5 ∨ ps.length = 6 ∨ ps.length = 7 := by omega
    rcases this with e | e | e | e | e | e <;> rw [e] <;> decide
  obtain ⟨ys, y1, y2, y3⟩ := comb3 (n := L.length) (by omega)
  have ec : combs L.length = ys := by unfold combs; rw [y1]; rfl
  rw [ec] at hy
  obtain ⟨i, j, k, rfl, hi, hj, hk⟩ := y3 y hy
  have m : ∀ i, i < L.length → chg (bitsO od (L.getD i [])) = 2 := by
    intro i hi
    refine of_decide_eq_true (h _ ?_)
    rw [List.getD_eq_getElem?_getD, List.getElem?_eq_getElem hi]
    exact List.getElem_mem hi
  have t : three3 ps (at3 L [i, j, k]) = true := three_ok A.mem (by omega) (m i hi) (m j hj) (m k hk)
  rw [t] at z
  cases z
theorem arcs_len (P : Pool ps) (A : Order ps od) : (arcsL ps od).length = ps.length * (ps.length - 1) / 2 := count_arcs P A.nd A.mem
theorem arcs_two (P : Pool ps) (A : Order ps od) : 2 * (arcsL ps od).length ≤ ps.length * (ps.length - 1) := by
  rw [arcs_len P A]; omega
theorem len_div (P : Ordr ps) : ((ps.length : Int) * ((ps.length : Int) - 1)).fdiv 2 = ((ps.length * (ps.length - 1) / 2 : Nat) : Int) := by
  have h1 := P.lo
  have h7 := P.hi
  have : ps.length = 2 ∨ ps.length = 3 ∨ ps.length = 4 ∨ ps.length = 5 ∨ ps.length = 6 ∨ ps.length = 7 := by omega
  rcases this with e | e | e | e | e | e <;> rw [e] <;> decide
theorem loop9 {f pl o : O} {n k : Nat} {a9 a10 a11 a12 a13 a14 a15 a16 a17 a18 a19 a20 : Option O} (P : Places ps) (A : Order ps od) (hk : k < od.length) (hs : Src n o) (hn : n ≤ 1000) : ∃ o' b9 b10 b11 b12, Src (n + 126) o' ∧ L9 (EV f pl o ps od k a9 a10 a11 a12 a13 a14 a15 a16 a17 a18 a19 a20) = some (.nx (EV f pl o' ps od k b9 b10 b11 b12 a13 a14 a15 a16 a17 a18 a19 a20)) := by
  obtain ⟨S2, h, o', b9, b10, b11, b12, hs', rfl⟩ := z_for (tg := .nm 9) (it := iVal (aVar 4)) (b := B9) (enc := ts) (L := allS ps) (S := EV f pl o ps od k a9 a10 a11 a12 a13 a14 a15 a16 a17 a18 a19 a20) (S1 := EV f pl o ps od k a9 a10 a11 a12 a13 a14 a15 a16 a17 a18 a19 a20)
    (Inv := fun j S => ∃ o' b9 b10 b11 b12, Src (n + 2 * j) o' ∧ S = EV f pl o' ps od k b9 b10 b11 b12 a13 a14 a15 a16 a17 a18 a19 a20) (by and_intros) ⟨o, a9, a10, a11, a12, hs, rfl⟩ (fun l hl j S hj hS => by
      obtain ⟨o', b9, b10, b11, b12, hs', rfl⟩ := hS
      have := allS_len P.pl
      obtain ⟨o2, c10, c11, c12, h2, h3⟩ := body9 (f := f) (pl := pl) (a10 := b10) (a11 := b11) (a12 := b12) (a13 := a13) (a14 := a14) (a15 := a15) (a16 := a16) (a17 := a17) (a18 := a18) (a19 := a19) (a20 := a20) P A hk hl hs' (by omega)
      exact ⟨_, _, rfl, h3, o2, _, c10, c11, c12, by rw [show n + 2 * (j + 1) = n + 2 * j + 2 by omega]; exact h2, rfl⟩)
  refine ⟨o', b9, b10, b11, b12, hs'.mono ?_, h⟩
  have := allS_len P.pl
  omega
theorem loop15 {f pl o : O} {fw : List Str} {k : Nat} {a9 a10 a11 a12 a13 a16 a17 a18 a19 a20 : Option O} (P : Places ps) (A : Order ps od) (F : Fewer ps fw) : ∃ b9 b16, L15 (EV f pl o ps od k a9 a10 a11 a12 a13 (some (.fz (ts fw))) (some (.fz (ts (od.filter fun p => decide (p ∈ fw))))) a16 a17 a18 a19 a20) = some (.nx (EV f pl o ps od k b9 a10 a11 a12 a13 (some (.fz (ts fw))) (some (.fz (ts (od.filter fun p => decide (p ∈ fw))))) b16 a17 a18 a19 a20)) := by
  obtain ⟨S2, h, b9, b16, rfl⟩ := z_for (tg := .nm 9) (it := iVal (aVar 4)) (b := B15) (enc := ts) (L := allS ps) (S := EV f pl o ps od k a9 a10 a11 a12 a13 (some (.fz (ts fw))) (some (.fz (ts (od.filter fun p => decide (p ∈ fw))))) a16 a17 a18 a19 a20) (S1 := EV f pl o ps od k a9 a10 a11 a12 a13 (some (.fz (ts fw))) (some (.fz (ts (od.filter fun p => decide (p ∈ fw))))) a16 a17 a18 a19 a20)
    (Inv := fun j S => ∃ b9 b16, S = EV f pl o ps od k b9 a10 a11 a12 a13 (some (.fz (ts fw))) (some (.fz (ts (od.filter fun p => decide (p ∈ fw))))) b16 a17 a18 a19 a20) (by and_intros) ⟨a9, a16, rfl⟩ (fun l hl j S hj hS => by
      obtain ⟨b9, b16, rfl⟩ := hS
      exact ⟨_, _, rfl, body15 P A F hl, _, _, rfl⟩)
  exact ⟨b9, b16, h⟩
theorem loop16 {f pl o : O} {fw : List Str} {n k : Nat} {a9 a10 a11 a12 a13 a15 a16 a17 a18 a19 a20 : Option O} (P : Places ps) (F : Fewer ps fw) (hs : Src n o) (hn : n ≤ 1000) : ∃ S2, L16 (EV f pl o ps od k a9 a10 a11 a12 a13 (some (.fz (ts fw))) a15 a16 a17 a18 a19 a20) = some (.nx S2) ∧ S2[0]? = some (some f) := by
  obtain ⟨S2, h, o', b9, b10, b11, b12, b17, b18, b19, b20, hs', rfl⟩ := z_for (tg := .nm 17) (it := iRange1 (aCons (aTmp (eLit (.int 8))) (aNil))) (b := B16) (enc := fun (i : Nat) => .int i) (L := List.range 8) (S := EV f pl o ps od k a9 a10 a11 a12 a13 (some (.fz (ts fw))) a15 a16 a17 a18 a19 a20) (S1 := EV f pl o ps od k a9 a10 a11 a12 a13 (some (.fz (ts fw))) a15 a16 a17 a18 a19 a20)
    (Inv := fun j S => ∃ o' b9 b10 b11 b12 b17 b18 b19 b20, Src (n + 2 * j) o' ∧ S = EV f pl o' ps od k b9 b10 b11 b12 a13 (some (.fz (ts fw))) a15 a16 b17 b18 b19 b20) rfl ⟨o, a9, a10, a11, a12, a17, a18, a19, a20, hs, rfl⟩ (fun i hi j S hj hS => by
      obtain ⟨o', b9, b10, b11, b12, b17, b18, b19, b20, hs', rfl⟩ := hS
      rw [List.length_range] at hj
      obtain ⟨o2, c10, c11, c12, c18, c19, c20, h2, h3⟩ := body16 (f := f) (pl := pl) (od := od) (k := k) (a9 := b9) (a10 := b10) (a11 := b11) (a12 := b12) (a13 := a13) (a15 := a15) (a16 := a16) (a17 := some (.fz (.int i))) (a18 := b18) (a19 := b19) (a20 := b20) P F hs' (by omega)
      exact ⟨_, _, rfl, h3, o2, _, c10, c11, c12, _, c18, c19, c20, by rw [show n + 2 * (j + 1) = n + 2 * j + 2 by omega]; exact h2, rfl⟩)
  exact ⟨_, h, rfl⟩
end K16
set_option Elab.async false
set_option linter.all false
set_option maxRecDepth 100000
set_option maxHeartbeats 4000000
namespace K16
open PySem PySem.Spec L2 Pz
local macro_rules
  | `(tactic| infer_instance) => `(tactic| first
    | (with_reducible exact Pz.fIn_ts) | (with_reducible exact Pz.fEq_int) | (with_reducible exact Pz.fNe_int) | (with_reducible exact Pz.fSl_loT) | (with_reducible exact Pz.fSl_hiT) | (with_reducible exact Pz.fSl_loL) | (with_reducible exact Pz.fSl_hiL) | (with_reducible exact Pz.upTo0 _)
    | (with_reducible exact Pz.fIn_ls)
    | (with_reducible exact Pz.fNotIn_ts)
    | (with_reducible exact Pz.fNe_bl)
    | ((with_reducible apply Pz.z_fLen); first | (with_reducible exact List.length_map ..) | exact rfl)
    | ((with_reducible apply Pz.z_fLenT); first | (with_reducible exact List.length_map ..) | exact rfl)
    | ((with_reducible apply Pz.small_nat); assumption)
    | exact rfl)
local macro_rules
  | `(tactic| nofun) => `(tactic| first
    | (with_reducible exact Pz.z_g0)
    | (with_reducible apply Pz.z_gS)
    | (with_reducible assumption)
    | (with_reducible exact Pz.z_s0)
    | (with_reducible apply Pz.z_sS)
    | (with_reducible exact Pz.z_lit)
    | (with_reducible apply Pz.z_var)
    | (with_reducible apply Pz.eBi_val)
    | (with_reducible apply Pz.cons_val)
    | (with_reducible exact Pz.z_anil)
    | (with_reducible apply Pz.var_val)
    | (with_reducible apply Pz.tmp_val)
    | (with_reducible exact Pz.z_r0)
    | (with_reducible apply Pz.z_rS)
    | (with_reducible apply Pz.z_rT)
    | ((with_reducible apply Pz.rsv_ref); (exact rfl); first | (with_reducible exact Pz.z_shfz) | (with_reducible exact Pz.shal_map _ _) | (with_reducible assumption) | exact rfl)
    | ((with_reducible apply Pz.z_rF); (exact rfl); (exact rfl))
    | (with_reducible exact Pz.z_shfz)
    | (with_reducible exact Pz.shal_map _ _)
    | (with_reducible exact Pz.z_frfz)
    | (with_reducible exact Pz.fr_map _ _)
    | (with_reducible apply Pz.z_frol)
    | (with_reducible exact Pz.z_frs0)
    | (with_reducible apply Pz.z_frsS)
    | (with_reducible exact Pz.frs_map _ _)
    | (with_reducible apply Pz.z_tup)
    | (with_reducible apply Pz.z_lst)
    | (with_reducible exact Pz.z_lnil)
    | (with_reducible apply Pz.z_lcons)
    | ((with_reducible apply Pz.z_els2); (exact rfl))
    | (with_reducible apply Pz.els_1)
    | (with_reducible apply Pz.z_lenAt)
    | (with_reducible apply Pz.z_getS)
    | (with_reducible apply Pz.z_atF)
    | (with_reducible exact List.length_map ..)
    | (with_reducible apply Pz.z_sl)
    | (with_reducible exact Pz.z_ev0)
    | (with_reducible apply Pz.z_ev1)
    | (with_reducible apply Pz.z_call)
    | (with_reducible exact Pz.z_l0)
    | ((with_reducible show Pz.lend _ _ _ = _); (apply Pz.z_lT))
    | ((with_reducible show Pz.lend _ _ _ = _); (apply Pz.z_lZ); exact rfl)
    | ((with_reducible show Pz.lend _ _ _ = _); (apply Pz.z_lO); exact rfl; (first | exact rfl | exact Pz.Src.own ‹_›))
    | ((with_reducible show Pz.lend _ _ _ = _); (apply Pz.z_lF); exact rfl)
    | (with_reducible exact Pz.z_b0)
    | ((with_reducible show Pz.giveBack _ _ _ _ = _); (apply Pz.z_bT))
    | ((with_reducible show Pz.giveBack _ _ _ _ = _); (apply Pz.z_bR))
    | ((with_reducible show Pz.giveBack _ _ _ _ = _); (apply Pz.z_bF))
    | (with_reducible apply Pz.tE_val)
    | (with_reducible apply Pz.z_not)
    | (with_reducible apply Pz.z_eT)
    | (with_reducible apply Pz.z_eNot)
    | (with_reducible apply Pz.z_chn)
    | (with_reducible apply Pz.and_val)
    | (with_reducible apply Pz.or_val)
    | (with_reducible apply Pz.z_set)
    | (with_reducible apply Pz.ret_val)
    | (with_reducible apply Pz.z_exp)
    | (with_reducible exact Pz.z_nil)
    | (with_reducible apply Pz.z_par)
    | (with_reducible exact Pz.z_a0)
    | (with_reducible apply Pz.z_aS)
    | (with_reducible apply Pz.z_bnm)
    | (with_reducible apply Pz.z_btp)
    | (with_reducible exact Pz.z_bs0)
    | (with_reducible apply Pz.z_bsS)
    | (with_reducible exact Pz.z_cl0)
    | (with_reducible apply Pz.z_clS)
    | (with_reducible exact Pz.z_pb0)
    | (with_reducible apply Pz.z_pbS)
    | (with_reducible apply Pz.z_rng1)
    | (with_reducible apply Pz.z_ivr)
    | (with_reducible apply Pz.z_ivt)
    | (with_reducible exact Pz.z_itl)
    | (with_reducible exact Pz.z_itt)
    | (with_reducible exact Pz.z_its)
    | (with_reducible apply Pz.z_lcm)
    | (with_reducible apply Pz.z_lcf)
    | intro _
    | infer_instance)
local macro_rules
  | `(tactic| and_intros) => `(tactic| first | (nofun <;> and_intros))
open Bits
theorem pick_nat {n k : Nat} {o : O} (hs : Src n o) (hn : n ≤ 2 ^ 60) (hk0 : 0 < k) (hk : k ≤ 2 ^ 60) : ∃ o' r, r < k ∧ g__law_pick [o, .fz (.int (k : Int))] = some (.fz (.int (r : Int)), [some o', some (.fz (.int (k : Int)))]) ∧ Src (n + 1) o' := by
  obtain ⟨o', r, h1, h2, h3, h4⟩ := pick_ok (k := (k : Int)) hs (by omega) (by omega)
  obtain ⟨r, rfl⟩ := Int.eq_ofNat_of_zero_le h3
  refine ⟨o', r, ?_, h1, h2⟩
  unfold mx at h4
  split at h4 <;> omega
theorem fRev_ts {l : List Str} : fRev [.tup (l.map D.str)] = some (.fz (ts l.reverse)) := by
  unfold fRev
  show (match fRevL [.tup (l.map D.str)] with | some o => some o | none => fRevT [.tup (l.map D.str)]) = _
  show some (O.fz (.tup (l.map D.str).reverse)) = _
  rw [← List.map_reverse]
theorem law_true (ns : List Int) (hl : ns.length ≤ 63) (hb : ∀ i ∈ ns, i.natAbs.log2 ≤ 2 ^ 20) : ∃ fs, g_law [.fz (.lst (ns.map D.int))] = some (.fz (.bl true), fs) := by
  obtain ⟨o0, f, e0, hs0⟩ := source_ok hl hb
  have e0' : g__law_source [.fz (.lst (ns.map D.int))] = some (o0, [some f]) := e0
  clear e0
  obtain ⟨o1, d, hd, e1, hs1⟩ := of_ol (ds := [ts poolA, ts poolB]) hs0 (by omega) (by simp) (by show 2 ≤ cap; decide)
  obtain ⟨pool, hpool, rfl⟩ : ∃ pool, (pool = poolA ∨ pool = poolB) ∧ d = ts pool := by
    simp only [List.mem_cons, List.not_mem_nil, or_false] at hd
    rcases hd with e | e
    · exact ⟨poolA, .inl rfl, e⟩
    · exact ⟨poolB, .inr rfl, e⟩
  obtain ⟨pl, hpl⟩ : ∃ pl, pl = O.fz (ts pool) := ⟨_, rfl⟩
  have e1' : g__law_of [o0, .ol [.fz (.tup [.str "a", .str "b", .str "c", .str "d", .str "e", .str "f", .str "g"]), .fz (.tup [.str "a", .str "a1", .str "b10", .str "b9", .str "c", .str "d2", .str "zz"])]] = some (.fz (ts pool), [some o1, some (.ol ([ts poolA, ts poolB].map O.fz))]) := e1
  clear e1
  obtain ⟨o2, r, hr, e2, hs2⟩ := pick_nat (k := 6) hs1 (by omega) (by omega) (by omega)
  have e2' : g__law_pick [o1, .fz (.int 6)] = some (.fz (.int (r : Int)), [some o2, some (.fz (.int 6))]) := e2
  clear e2
  have P : Places (pool.take (2 + r)) := places_of hr hpool
  have sl3 : fSl (.tup (pool.map D.str)) none (some (2 + (r : Int))) = some (.fz (.tup ((pool.take (2 + r)).map D.str))) := fSl_hiT (k := 2 + r)
  have ad3 : fAdd [.int 2, .int (r : Int)] = some (.fz (.int (2 + (r : Int)))) := rfl
  obtain ⟨ps, hps⟩ : ∃ ps, ps = pool.take (2 + r) := ⟨_, rfl⟩
  rw [← hps] at P sl3
  have P' := P.pl.ord
  have h2 := P'.lo
  have h7 := P'.hi
  have hcap : ps.length ≤ cap := by unfold cap; omega
  have pt := P.pl.pt
  have la := P.pl.la
  have hall := allS_len P.pl
  have hall2 : (allS ps).length ≤ cap := by unfold cap; omega
  have shp := (sh_all P (L := allS ps) (fun l h => h) hall).1
  have r4 := shp.repr (by omega) (by unfold cap; omega)
  have q4 := shp.ne
  have ft4 : fTuple [.lst ((allS ps).map ts)] = some (.fz (.tup ((allS ps).map ts))) := rfl
  obtain ⟨o3, od, e5, pm, hs3⟩ := mixed_ok (enc := D.str) (L := ps) (w := .fz (ts ps)) (d := ts ps) hs2 (by omega) hcap rfl (by show some (O.ol ((ps.map D.str).map O.fz)) = _; rw [List.map_map]; rfl)
  have e5' : g__law_mixed [o2, .fz (ts ps)] = some (.ol (od.map fun x => .fz (.str x)), [some o3, some (.fz (ts ps))]) := e5
  clear e5
  have A : Order ps od := Order.of P' pm
  have hol := A.len
  have ft5 : fTuple [.lst (od.map D.str)] = some (.fz (.tup (od.map D.str))) := rfl
  have la6 : ∀ l ∈ allS ps, g__law_is_arcs [.fz (ts od), .fz (ts l)] = some (.fz (.bl (arcQ od l)), [some (.fz (ts od)), some (.fz (ts l))]) := by
    intro l hl
    have S := side_of P.pl hl
    have := s_larcs (ps := ps) (od := od) (sd := l) P' A.nd (fun x hx => (A.mem x).mp hx) (by omega) S.nd S.sub
    rw [larc_eq P' S A.nd A.mem (by omega)] at this
    exact this
  obtain ⟨o4, k, hk, e7, hs4⟩ := pick_nat (k := od.length) hs3 (by omega) (by omega) (by omega)
  have hk7 : od.length ≤ cap := by unfold cap; omega
  have sl8a : fSl (.tup (od.map D.str)) (some (k : Int)) none = some (.fz (.tup ((od.drop k).map D.str))) := fSl_loT
  have sl8b : fSl (.tup (od.map D.str)) none (some (k : Int)) = some (.fz (.tup ((od.take k).map D.str))) := fSl_hiT
  have ad8 : fAdd [.tup ((od.drop k).map D.str), .tup ((od.take k).map D.str)] = some (.fz (.tup ((turnS k od).map D.str))) := fAdd_T (by simp; unfold cap; omega)
  have rv8 := fRev_ts (l := od)
  obtain ⟨o5, b9, b10, b11, b12, hs5, e9⟩ := loop9 (f := f) (pl := .fz (ts pool)) (a9 := none) (a10 := none) (a11 := none) (a12 := none) (a13 := none) (a14 := none) (a15 := none) (a16 := none) (a17 := none) (a18 := none) (a19 := none) (a20 := none) P A hk hs4 (by omega)
  -- as many as pairs
  have ar := arcs_len P.pl A
  have ar2 := arcs_two P.pl A
  have hn42 : ps.length * (ps.length - 1) ≤ 42 := by
    have : ps.length = 2 ∨ ps.length = 3 ∨ ps.length = 4 ∨ ps.length = 5 ∨ ps.length = 6 ∨ ps.length = 7 := by omega
    rcases this with e | e | e | e | e | e <;> rw [e] <;> decide
  have mu10 : fMulI [.int (ps.length : Int), .int ((ps.length : Int) - 1)] = some (.fz (.int ((ps.length : Int) * ((ps.length : Int) - 1)))) := by
    unfold fMulI fI2; simp only [mulOk_of (i := ps.length) (j := (ps.length : Int) - 1) (small_pow (by omega)) (small_pow (by omega)), if_true]
  have di10 : fDiv [.int ((ps.length : Int) * ((ps.length : Int) - 1)), .int 2] = some (.fz (.int ((ps.length * (ps.length - 1) / 2 : Nat) : Int))) := by
    unfold fDiv fI2; simp only [divOk_of (j := 2) (by decide) (by decide), if_true, len_div P']
  have len10 : ((arcsL ps od).map fun l => O.fz (ts l)).length = (arcsL ps od).length := List.length_map ..
  have ne10 : fNe [.int ((arcsL ps od).length : Int), .int ((ps.length * (ps.length - 1) / 2 : Nat) : Int)] = some (.fz (.bl false)) := by
    rw [fNe_int, ar]; simp
  have arQ : ∀ l ∈ arcsL ps od, arcQ od l = true := fun l hl => (List.mem_filter.mp hl).2
  have tg10 := s_together (ps := ps) (L := arcsL ps od) h7 (by omega)
  rw [tog_true P' A arQ ar2] at tg10
  have ft10 : fTuple [.lst ((arcsL ps od).map ts)] = some (.fz (.tup ((arcsL ps od).map ts))) := rfl
  have harc : (arcsL ps od).length ≤ cap := by unfold cap; omega
  -- some of them
  obtain ⟨o6, M, e11, pmM, hs6⟩ := mixed_ok (enc := ts) (L := arcsL ps od) (w := .ol ((arcsL ps od).map fun l => .fz (ts l))) (d := .lst ((arcsL ps od).map ts)) hs5 (by omega) harc (shal_map _ _) (by show some (O.ol (((arcsL ps od).map ts).map O.fz)) = _; rw [List.map_map]; rfl)
  have e11' : g__law_mixed [o5, .ol ((arcsL ps od).map fun l => .fz (ts l))] = some (.ol (M.map fun x => .fz (ts x)), [some o6, some (.ol ((arcsL ps od).map fun l => .fz (ts l)))]) := e11
  clear e11
  obtain ⟨o7, r11, hr11, e11b, hs7⟩ := pick_nat (k := (arcsL ps od).length + 1) hs6 (by omega) (by omega) (by omega)
  have e11b' : g__law_pick [o6, .fz (.int ((arcsL ps od).length + 1 : Int))] = some (.fz (.int (r11 : Int)), [some o7, some (.fz (.int ((arcsL ps od).length + 1 : Int)))]) := e11b
  clear e11b
  have ad11 : fAdd [.int ((arcsL ps od).length : Int), .int 1] = some (.fz (.int ((arcsL ps od).length + 1 : Int))) := rfl
  have sl11 : fSl (.lst (M.map ts)) none (some (r11 : Int)) = some (.ol ((M.take r11).map fun x => .fz (ts x))) := fSl_hiL
  have ft11 : fTuple [.lst ((M.take r11).map ts)] = some (.fz (.tup ((M.take r11).map ts))) := rfl
  have hML : (M.take r11).length ≤ (arcsL ps od).length := by rw [← pmM.length_eq]; exact List.length_take_le' _ _
  have tg12 := s_together (ps := ps) (L := M.take r11) h7 (by omega)
  rw [tog_true P' A (fun l hl => arQ l (pmM.subset (List.mem_of_mem_take hl))) (by omega)] at tg12
  -- fewer
  obtain ⟨o8, M2, e13, pm2, hs8⟩ := mixed_ok (enc := D.str) (L := ps) (w := .fz (ts ps)) (d := ts ps) hs7 (by omega) hcap rfl (by show some (O.ol ((ps.map D.str).map O.fz)) = _; rw [List.map_map]; rfl)
  have e13' : g__law_mixed [o7, .fz (ts ps)] = some (.ol (M2.map fun x => .fz (.str x)), [some o8, some (.fz (ts ps))]) := e13
  clear e13
  obtain ⟨o9, r13, hr13, e13b, hs9⟩ := pick_nat (k := ps.length - 1) hs8 (by omega) (by omega) (by omega)
  have c13 : ((ps.length - 1 : Nat) : Int) = (ps.length : Int) - 1 := by omega
  rw [c13] at e13b
  have sb13 : fSub [.int (ps.length : Int), .int 1] = some (.fz (.int ((ps.length : Int) - 1))) := rfl
  have ad13 : fAdd [.int 2, .int (r13 : Int)] = some (.fz (.int (2 + (r13 : Int)))) := rfl
  have sl13 : fSl (.lst (M2.map D.str)) none (some (2 + (r13 : Int))) = some (.ol ((M2.take (2 + r13)).map fun x => .fz (.str x))) := fSl_hiL (k := 2 + r13)
  have sub13 : ∀ x ∈ M2.take (2 + r13), x ∈ ps := fun x hx => pm2.subset (List.mem_of_mem_take hx)
  have so13 := fSorted_L P' ((pm2.nodup_iff.mpr P'.nd).sublist (List.take_sublist _ _)) sub13
  have ft13 : fTuple [.lst ((Pz.pick ps (M2.take (2 + r13))).map D.str)] = some (.fz (.tup ((Pz.pick ps (M2.take (2 + r13))).map D.str))) := rfl
  obtain ⟨fw, hfw⟩ : ∃ fw, fw = Pz.pick ps (M2.take (2 + r13)) := ⟨_, rfl⟩
  have F : Fewer ps fw := by
    refine ⟨fun x hx => ?_, ?_, ?_⟩
    · rw [hfw] at hx; exact (List.mem_filter.mp hx).1
    · rw [hfw]; exact Nat.le_trans (List.length_filter_le _ _) h7
    · intro e
      have hM2 := pm2.length_eq
      have : 0 < (M2.take (2 + r13)).length := by rw [List.length_take]; omega
      obtain ⟨x, hx⟩ := List.exists_mem_of_length_pos this
      have hx2 : x ∈ fw := by rw [hfw]; exact (mem_pick sub13).mpr hx
      rw [e] at hx2; cases hx2
  rw [← hfw] at so13 ft13
  have ft14 : fTuple [.lst ((od.filter fun p => decide (p ∈ fw)).map D.str)] = some (.fz (.tup ((od.filter fun p => decide (p ∈ fw)).map D.str))) := rfl
  obtain ⟨c9, c16, e15⟩ := loop15 (f := f) (pl := .fz (ts pool)) (o := o9) (k := k) (a9 := b9) (a10 := b10) (a11 := b11) (a12 := b12) (a13 := some (.fz (.tup ((M.take r11).map ts)))) (a16 := none) (a17 := none) (a18 := none) (a19 := none) (a20 := none) P A F
  obtain ⟨S2, e16, f16⟩ := loop16 (f := f) (pl := .fz (ts pool)) (o := o9) (od := od) (k := k) (a9 := c9) (a10 := b10) (a11 := b11) (a12 := b12) (a13 := some (.fz (.tup ((M.take r11).map ts)))) (a15 := some (.fz (ts (od.filter fun p => decide (p ∈ fw))))) (a16 := c16) (a17 := none) (a18 := none) (a19 := none) (a20 := none) P F hs9 (by omega)
  have main : ∃ S3, m_law [some (.fz (.lst (ns.map D.int))), none, none, none, none, none, none, none, none, none, none, none, none, none, none, none, none, none, none, none, none, none, none, none] = some (.rt (.fz (.bl true)) S3) := by
    rw [law_is]
    refine ⟨S2, ?_⟩
    apply z_seq
    · apply z_set
      · and_intros
      · and_intros
    apply z_seq
    · apply z_set
      · and_intros
      · and_intros
    apply z_seq
    · apply z_set
      · and_intros
      · and_intros
    apply z_seq
    · apply z_set
      · and_intros
      · and_intros
    apply z_seq
    · apply z_no
      · and_intros
      · rfl
      · and_intros
    apply z_seq
    · apply z_set
      · and_intros
      · and_intros
    apply z_seq
    · apply z_set
      · apply z_lcf (enc := ts) (L := allS ps) (pr := fun l => arcQ od l) (v := fun l => .fz (ts l))
        · and_intros
        · exact hall2
        · and_intros
        · and_intros
        · intro l hl
          have la7 := la6 l hl
          and_intros
        · and_intros
        · and_intros
        · and_intros
        · and_intros
      · and_intros
    apply z_seq
    · apply z_set
      · and_intros
      · and_intros
    apply z_seq
    · apply z_set
      · and_intros
      · and_intros
    apply z_seq
    · exact e9
    apply z_seq
    · apply z_no
      · and_intros
      · rfl
      · and_intros
    apply z_seq
    · apply z_set
      · and_intros
      · and_intros
    apply z_seq
    · apply z_no
      · and_intros
      · rfl
      · and_intros
    apply z_seq
    · apply z_set
      · and_intros
      · and_intros
    apply z_seq
    · apply z_set
      · and_intros
      · and_intros
    apply z_seq
    · exact e15
    apply z_seq
    · exact e16
    · apply ret_val
      and_intros
  obtain ⟨S3, main⟩ := main
  exact ⟨_, z_run rfl main rfl⟩
end K16
open PySem PySem.W PyProof.Rows
set_option maxRecDepth 100000 in
set_option maxHeartbeats 0 in
theorem PySem.Challenge.cw_allpartings_k16_arcs_by_walking_holds : PySem.Challenge.rw_allpartings_k16_arcs_by_walking.Holds := by
  w_on; o_law; k_head; (case hw => w_witness2)
  k_fill
  refine Pz.law_endB (l := PySem.Challenge.rw_allpartings_k16_arcs_by_walking) (n := 63) (k := 4) (g := K16.g_law) rfl (by decide) rfl ⟨rfl, by decide, by decide⟩ (fun w h Y => PySem.W.kIn_of Y) ?F K16.law_true
  case F =>
    intro w mg lf h KX G hmg
    refine' K16.fin hmg ⟨Pz.txt_mk KX G ?a0 ?l0 ?c0 ?k0, Pz.txt_mk KX G ?a1 ?l1 ?c1 ?k1, Pz.txt_mk KX G ?a2 ?l2 ?c2 ?k2, Pz.txt_mk KX G ?a3 ?l3 ?c3 ?k3, Pz.txt_mk KX G ?a4 ?l4 ?c4 ?k4, Pz.txt_mk KX G ?a5 ?l5 ?c5 ?k5, Pz.txt_mk KX G ?a6 ?l6 ?c6 ?k6, Pz.txt_mk KX G ?a7 ?l7 ?c7 ?k7, Pz.txt_mk KX G ?a8 ?l8 ?c8 ?k8, Pz.txt_mk KX G ?a9 ?l9 ?c9 ?k9, Pz.txt_mk KX G ?a10 ?l10 ?c10 ?k10, Pz.txt_mk KX G ?a11 ?l11 ?c11 ?k11, Pz.txt_mk KX G ?a12 ?l12 ?c12 ?k12, Pz.txt_mk KX G ?a13 ?l13 ?c13 ?k13, Pz.txt_mk KX G ?a14 ?l14 ?c14 ?k14, Pz.txt_mk KX G ?a15 ?l15 ?c15 ?k15, Pz.txt_mk KX G ?a16 ?l16 ?c16 ?k16, Pz.txt_mk KX G ?a17 ?l17 ?c17 ?k17, PySem.W.mg_none_of KX G ?z0, PySem.W.mg_none_of KX G ?z1, PySem.W.mg_none_of KX G ?z2, PySem.W.mg_none_of KX G ?z3, PySem.W.mg_none_of KX G ?z4, PySem.W.mg_none_of KX G ?z5, PySem.W.mg_none_of KX G ?z6, PySem.W.mg_none_of KX G ?z7, PySem.W.mg_none_of KX G ?z8, PySem.W.mg_none_of KX G ?z9, PySem.W.mg_none_of KX G ?z10, Pz.con_mk KX G ?x0 ?y0, Pz.con_mk KX G ?x1 ?y1, PySem.W.mg_of KX G ?i0⟩
    (case a0 => k_is); (case l0 => k_is); (case c0 => k_is); (case k0 => k_is)
    (case a1 => k_is); (case l1 => k_is); (case c1 => k_is); (case k1 => k_is)
    (case a2 => k_is); (case l2 => k_is); (case c2 => k_is); (case k2 => k_is)
    (case a3 => k_is); (case l3 => k_is); (case c3 => k_is); (case k3 => k_is)
    (case a4 => k_is); (case l4 => k_is); (case c4 => k_is); (case k4 => k_is)
    (case a5 => k_is); (case l5 => k_is); (case c5 => k_is); (case k5 => k_is)
    (case a6 => k_is); (case l6 => k_is); (case c6 => k_is); (case k6 => k_is)
    (case a7 => k_is); (case l7 => k_is); (case c7 => k_is); (case k7 => k_is)
    (case a8 => k_is); (case l8 => k_is); (case c8 => k_is); (case k8 => k_is)
    (case a9 => k_is); (case l9 => k_is); (case c9 => k_is); (case k9 => k_is)
    (case a10 => k_is); (case l10 => k_is); (case c10 => k_is); (case k10 => k_is)
    (case a11 => k_is); (case l11 => k_is); (case c11 => k_is); (case k11 => k_is)
    (case a12 => k_is); (case l12 => k_is); (case c12 => k_is); (case k12 => k_is)
    (case a13 => k_is); (case l13 => k_is); (case c13 => k_is); (case k13 => k_is)
    (case a14 => k_is); (case l14 => k_is); (case c14 => k_is); (case k14 => k_is)
    (case a15 => k_is); (case l15 => k_is); (case c15 => k_is); (case k15 => k_is)
    (case a16 => k_is); (case l16 => k_is); (case c16 => k_is); (case k16 => k_is)
    (case a17 => k_is); (case l17 => k_is); (case c17 => k_is); (case k17 => k_is)
    (case z0 => k_is)
    (case z1 => k_is)
    (case z2 => k_is)
    (case z3 => k_is)
    (case z4 => k_is)
    (case z5 => k_is)
    (case z6 => k_is)
    (case z7 => k_is)
    (case z8 => k_is)
    (case z9 => k_is)
    (case z10 => k_is)
    (case x0 => k_is); (case y0 => kernel_rfl)
    (case x1 => k_is); (case y1 => kernel_rfl)
    (case i0 => k_is)
