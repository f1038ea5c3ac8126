import PyProof.Rows.All
import Wide.All
import OpenK.AllK
import Wide.FinOn
import HandS.ForMost
import HandS.ForExc
import HandS.IsInst
import HandS.Gcd
import HandS.Flow
import HandS.Wide
import HandS.TupMul
import HandS.TupAny
import HandS.TupLe
import HandS.Style
import HandS.Conv
import HandS.CallSlots
import HandS.Walk
import HandS.Zip
import KE.GoesMore
import KE.GoesEnum
import PySem.Challenge.RW_steadytrees_k37_whole_nearness_and_contr
set_option Elab.async false
set_option linter.all false
set_option maxRecDepth 100000
set_option maxHeartbeats 4000000
namespace Eng
open PySem PySem.Spec PyProof.Rows L2

/-! ### data -/
inductive D where
  | non | bl (b : Bool) | int (i : Int) | str (x : Str)
  | tup (ds : List D) | lst (ds : List D) | dct (ks vs : List D) | fn (x : Str) | scr (ns : List Int)
  deriving Inhabited
inductive S where
  | dat (d : D) | ml (ds : List D) | mg (rows : List (List D)) | md (ks vs : List D)
  deriving Inhabited
abbrev En := List (Option S)
def fz : S → D
  | .dat d => d | .ml ds => .lst ds | .mg rows => .lst (rows.map .lst) | .md ks vs => .dct ks vs
def kD : Key → D
  | .inl i => .int i | .inr x => .str x
def kT (l : List Key) : D := .tup (l.map kD)

section
variable (K : PySem.W.Frag) (mg : Str → Option Value)
mutual
def Den (F : Hp) : D → V → Prop
  | .non, v => v = .non
  | .bl b, v => v = .bl b
  | .int i, v => v = .int i
  | .str x, v => v = .str x
  | .tup ds, v => ∃ a vs, v = .ref a ∧ SqT K F a vs ∧ Dens F ds vs
  | .lst ds, v => ∃ a vs, v = .ref a ∧ F a = some (.lst vs) ∧ Dens F ds vs
  | .dct ks ws, v => ∃ a, v = .ref a ∧ ((∃ kvs : List (Key × V), F a = some (.dK kvs) ∧ ks = kvs.map (fun p => kD p.1) ∧ Dens F ws (kvs.map (·.2))) ∨
      ∃ kvs : List (List Key × V), F a = some (.dT kvs) ∧ ks = kvs.map (fun p => kT p.1) ∧ Dens F ws (kvs.map (·.2)))
  | .fn x, v => ∃ a, v = .ref a ∧ mg x = some (.ref a)
  | .scr ns, v => ∃ a, v = .ref a ∧ SqL K F a (ns.map V.int)
def Dens (F : Hp) : List D → List V → Prop
  | [], vs => vs = []
  | d :: ds, vs => ∃ w r, vs = w :: r ∧ Den F d w ∧ Dens F ds r
end
/-- a dict at p, its values' data frozen in F -/
def DAt (F H : Hp) (p : Addr) (ks ws : List D) : Prop :=
  (∃ kvs : List (Key × V), H p = some (.dK kvs) ∧ ks = kvs.map (fun p => kD p.1) ∧ Dens K mg F ws (kvs.map (·.2))) ∨
    ∃ kvs : List (List Key × V), H p = some (.dT kvs) ∧ ks = kvs.map (fun p => kT p.1) ∧ Dens K mg F ws (kvs.map (·.2))
def Rws (F H : Hp) : List (List D) → List Addr → Prop
  | [], qs => qs = []
  | r :: rs, qs => ∃ q t, qs = q :: t ∧ F q = none ∧ (∃ vs, H q = some (.lst vs) ∧ Dens K mg F r vs) ∧ Rws F H rs t
def Own (F H : Hp) : S → V → List Addr → Prop
  | .dat d, v, ps => ps = [] ∧ Den K mg F d v
  | .ml ds, v, ps => ∃ p vs, v = .ref p ∧ ps = [p] ∧ F p = none ∧ H p = some (.lst vs) ∧ Dens K mg F ds vs
  | .md ks ws, v, ps => ∃ p, v = .ref p ∧ ps = [p] ∧ F p = none ∧ DAt K mg F H p ks ws
  | .mg rows, v, ps => ∃ p qs, v = .ref p ∧ ps = p :: qs ∧ F p = none ∧ H p = some (.lst (qs.map V.ref)) ∧ Rws K mg F H rows qs
/-- the slots, from the left -/
def OwE (F H : Hp) : En → L2.St → List Addr → Prop
  | [], σ, A => σ = [] ∧ A = []
  | none :: en, σ, A => ∃ o r, σ = o :: r ∧ OwE F H en r A
  | some s :: en, σ, A => ∃ v r ps B, σ = some v :: r ∧ A = ps ++ B ∧ Own K mg F H s v ps ∧ OwE F H en r B
end
/-- what happened: F the frozen part, A the addresses one may write; B those one may write behind it -/
structure Go (F H : Hp) (A : List Addr) (F' H' : Hp) (B : List Addr) : Prop where
  f : ∀ a o, F a = some o → F' a = some o
  h : ∀ a o, a ∉ A → H a = some o → H' a = some o
  n : ∀ a, F' a ≠ none → F a ≠ none ∨ H a = none ∨ a ∈ A
  b : ∀ a, a ∈ B → a ∈ A ∨ H a = none

section
variable {K : PySem.W.Frag} {mg : Str → Option Value} {F H F' H' F2 H2 : Hp} {A B C : List Addr}
theorem Go.refl : Go F H A F H A := ⟨fun _ _ e => e, fun _ _ _ e => e, fun _ e => .inl e, fun _ e => .inl e⟩
theorem Go.trans (x : Go F H A F' H' B) (y : Go F' H' B F2 H2 C) : Go F H A F2 H2 C := by
  refine ⟨fun a o e => y.f a o (x.f a o e), fun a o ha e => ?_, fun a e => ?_, fun a ha => ?_⟩
  · refine y.h a o (fun hb => ?_) (x.h a o ha e)
    rcases x.b a hb with z | z
    · exact ha z
    · rw [z] at e; cases e
  · rcases y.n a e with z | z | z
    · exact x.n a z
    · cases q : H a with
      | none => exact .inr (.inl rfl)
      | some o =>
        refine .inr (.inr (Classical.byContradiction fun hn => ?_))
        rw [x.h a o hn q] at z; cases z
    · rcases x.b a z with w | w
      · exact .inr (.inr w)
      · exact .inr (.inl w)
  · rcases y.b a ha with z | z
    · exact x.b a z
    · cases q : H a with
      | none => exact .inr rfl
      | some o =>
        refine .inl (Classical.byContradiction fun hn => ?_)
        rw [x.h a o hn q] at z; cases z
theorem Go.sub (x : Go F H A F' H' B) (h : ∀ a, a ∈ C → a ∈ B) : Go F H A F' H' C := ⟨x.f, x.h, x.n, fun a ha => x.b a (h a ha)⟩
theorem Go.wide (x : Go F H A F' H' B) (h : ∀ a, a ∈ A → a ∈ C) : Go F H C F' H' B :=
  ⟨x.f, fun a o ha => x.h a o fun z => ha (h a z), fun a e => (x.n a e).imp id (.imp id (h a)), fun a ha => (x.b a ha).imp (h a) id⟩
/-- more that is not touched -/
theorem Go.frame (x : Go F H A F' H' B) : Go F H (C ++ A) F' H' (C ++ B) :=
  ⟨x.f, fun a o ha => x.h a o fun z => ha (List.mem_append_right _ z), fun a e => (x.n a e).imp id (.imp id (List.mem_append_right _)), fun a ha => by
    rcases List.mem_append.mp ha with z | z
    · exact .inl (List.mem_append_left _ z)
    · exact (x.b a z).imp (List.mem_append_right _) id⟩

theorem SqT_mono {a : Addr} {vs : List V} (f : ∀ a o, F a = some o → F' a = some o) (h : SqT K F a vs) : SqT K F' a vs := by
  rcases h with (h | ⟨o, h⟩) | h
  · exact .inl (.inl (f _ _ h))
  · exact .inl (.inr ⟨o, f _ _ h⟩)
  · exact .inr h
theorem SqL_mono {a : Addr} {vs : List V} (f : ∀ a o, F a = some o → F' a = some o) (h : SqL K F a vs) : SqL K F' a vs := by
  rcases h with (h | ⟨o, h⟩) | h
  · exact .inl (.inl (f _ _ h))
  · exact .inl (.inr ⟨o, f _ _ h⟩)
  · exact .inr h
mutual
theorem Den.mono (f : ∀ a o, F a = some o → F' a = some o) : ∀ (d : D) (v : V), Den K mg F d v → Den K mg F' d v
  | .non, v, h => by simp only [Den] at h ⊢; exact h
  | .bl b, v, h => by simp only [Den] at h ⊢; exact h
  | .int i, v, h => by simp only [Den] at h ⊢; exact h
  | .str x, v, h => by simp only [Den] at h ⊢; exact h
  | .fn x, v, h => by simp only [Den] at h ⊢; exact h
  | .tup ds, v, h => by
    simp only [Den] at h ⊢
    obtain ⟨a, vs, e, s, q⟩ := h
    exact ⟨a, vs, e, SqT_mono f s, Dens.mono f ds vs q⟩
  | .lst ds, v, h => by
    simp only [Den] at h ⊢
    obtain ⟨a, vs, e, s, q⟩ := h
    exact ⟨a, vs, e, f _ _ s, Dens.mono f ds vs q⟩
  | .scr ns, v, h => by
    simp only [Den] at h ⊢
    obtain ⟨a, e, s⟩ := h
    exact ⟨a, e, SqL_mono f s⟩
  | .dct ks ws, v, h => by
    simp only [Den] at h ⊢
    obtain ⟨a, e, ⟨kvs, s, k, q⟩ | ⟨kvs, s, k, q⟩⟩ := h
    · exact ⟨a, e, .inl ⟨kvs, f _ _ s, k, Dens.mono f ws _ q⟩⟩
    · exact ⟨a, e, .inr ⟨kvs, f _ _ s, k, Dens.mono f ws _ q⟩⟩
theorem Dens.mono (f : ∀ a o, F a = some o → F' a = some o) : ∀ (ds : List D) (vs : List V), Dens K mg F ds vs → Dens K mg F' ds vs
  | [], vs, h => by simp only [Dens] at h ⊢; exact h
  | d :: ds, vs, h => by
    simp only [Dens] at h ⊢
    obtain ⟨w, r, e, h1, h2⟩ := h
    exact ⟨w, r, e, Den.mono f d w h1, Dens.mono f ds r h2⟩
end

theorem Dens.len : ∀ {ds : List D} {vs : List V}, Dens K mg F ds vs → vs.length = ds.length
  | [], vs, h => by simp only [Dens] at h; rw [h]; rfl
  | d :: ds, vs, h => by
    simp only [Dens] at h
    obtain ⟨w, r, e, h1, h2⟩ := h
    rw [e, List.length_cons, List.length_cons, Dens.len h2]
theorem Dens.get : ∀ {ds : List D} {vs : List V} {i : Nat} {d : D}, Dens K mg F ds vs → ds[i]? = some d → ∃ v, vs[i]? = some v ∧ Den K mg F d v
  | [], _, _, _, _, e => by simp at e
  | d :: ds, vs, 0, d', h, e => by
    simp only [Dens] at h
    obtain ⟨w, r, rfl, h1, h2⟩ := h
    simp at e; subst e
    exact ⟨w, rfl, h1⟩
  | d :: ds, vs, i + 1, d', h, e => by
    simp only [Dens] at h
    obtain ⟨w, r, rfl, h1, h2⟩ := h
    obtain ⟨v, e1, e2⟩ := Dens.get (i := i) h2 (by simpa using e)
    exact ⟨v, by simpa using e1, e2⟩
theorem Dens.getV : ∀ {ds : List D} {vs : List V} {i : Nat} {v : V}, Dens K mg F ds vs → vs[i]? = some v → ∃ d, ds[i]? = some d ∧ Den K mg F d v
  | [], _, _, _, h, e => by simp only [Dens] at h; subst h; simp at e
  | d :: ds, vs, 0, v', h, e => by
    simp only [Dens] at h
    obtain ⟨w, r, rfl, h1, h2⟩ := h
    simp at e; subst e
    exact ⟨d, rfl, h1⟩
  | d :: ds, vs, i + 1, v', h, e => by
    simp only [Dens] at h
    obtain ⟨w, r, rfl, h1, h2⟩ := h
    obtain ⟨v, e1, e2⟩ := Dens.getV (i := i) h2 (by simpa using e)
    exact ⟨v, by simpa using e1, e2⟩
theorem Dens.nil : Dens K mg F [] [] := by simp only [Dens]
theorem Dens.cons {d : D} {v : V} {ds : List D} {vs : List V} (h : Den K mg F d v) (t : Dens K mg F ds vs) : Dens K mg F (d :: ds) (v :: vs) := by
  simp only [Dens]; exact ⟨v, vs, rfl, h, t⟩
theorem Dens.append : ∀ {ds es : List D} {vs ws : List V}, Dens K mg F ds vs → Dens K mg F es ws → Dens K mg F (ds ++ es) (vs ++ ws)
  | [], _, vs, _, h, q => by simp only [Dens] at h; subst h; exact q
  | d :: ds, _, vs, _, h, q => by
    simp only [Dens] at h
    obtain ⟨w, r, rfl, h1, h2⟩ := h
    exact Dens.cons h1 (Dens.append h2 q)
theorem Dens.set {d : D} {v : V} (q : Den K mg F d v) : ∀ {ds : List D} {vs : List V} (i : Nat), Dens K mg F ds vs → Dens K mg F (ds.set i d) (vs.set i v)
  | [], vs, _, h => by simp only [Dens] at h; subst h; exact Dens.nil
  | e :: ds, vs, 0, h => by
    simp only [Dens] at h
    obtain ⟨w, r, rfl, h1, h2⟩ := h
    exact Dens.cons q h2
  | e :: ds, vs, i + 1, h => by
    simp only [Dens] at h
    obtain ⟨w, r, rfl, h1, h2⟩ := h
    exact Dens.cons h1 (Dens.set q i h2)
theorem Dens.take : ∀ {ds : List D} {vs : List V} (n : Nat), Dens K mg F ds vs → Dens K mg F (ds.take n) (vs.take n)
  | _, _, 0, _ => by simp only [List.take_zero]; exact Dens.nil
  | [], vs, n + 1, h => by simp only [Dens] at h; subst h; simp only [List.take_nil]; exact Dens.nil
  | e :: ds, vs, i + 1, h => by
    simp only [Dens] at h
    obtain ⟨w, r, rfl, h1, h2⟩ := h
    exact Dens.cons h1 (Dens.take i h2)
theorem Dens.drop : ∀ {ds : List D} {vs : List V} (n : Nat), Dens K mg F ds vs → Dens K mg F (ds.drop n) (vs.drop n)
  | _, _, 0, h => h
  | [], vs, n + 1, h => by simp only [Dens] at h; subst h; simp only [List.drop_nil]; exact Dens.nil
  | e :: ds, vs, i + 1, h => by
    simp only [Dens] at h
    obtain ⟨w, r, rfl, h1, h2⟩ := h
    exact Dens.drop i h2
theorem Dens.reverse : ∀ {ds : List D} {vs : List V}, Dens K mg F ds vs → Dens K mg F ds.reverse vs.reverse
  | [], vs, h => by simp only [Dens] at h; subst h; exact Dens.nil
  | e :: ds, vs, h => by
    simp only [Dens] at h
    obtain ⟨w, r, rfl, h1, h2⟩ := h
    rw [List.reverse_cons, List.reverse_cons]
    exact Dens.append (Dens.reverse h2) (Dens.cons h1 Dens.nil)
theorem Dens.ints {ns : List Int} {vs : List V} (h : Dens K mg F (ns.map D.int) vs) : vs = ns.map V.int := by
  induction ns generalizing vs with
  | nil => simp only [List.map_nil, Dens] at h ⊢; exact h
  | cons n ns ih =>
    simp only [List.map_cons, Dens, Den] at h ⊢
    obtain ⟨w, r, rfl, rfl, h2⟩ := h
    rw [ih h2]
theorem Dens.ofInts (ns : List Int) : Dens K mg F (ns.map D.int) (ns.map V.int) := by
  induction ns with
  | nil => exact Dens.nil
  | cons n ns ih => exact Dens.cons (by simp only [Den]) ih
theorem Dens.bls {ns : List Bool} {vs : List V} (h : Dens K mg F (ns.map D.bl) vs) : vs = ns.map V.bl := by
  induction ns generalizing vs with
  | nil => simp only [List.map_nil, Dens] at h ⊢; exact h
  | cons n ns ih =>
    simp only [List.map_cons, Dens, Den] at h ⊢
    obtain ⟨w, r, rfl, rfl, h2⟩ := h
    rw [ih h2]
theorem Dens.strs {ns : List Str} {vs : List V} (h : Dens K mg F (ns.map D.str) vs) : vs = ns.map V.str := by
  induction ns generalizing vs with
  | nil => simp only [List.map_nil, Dens] at h ⊢; exact h
  | cons n ns ih =>
    simp only [List.map_cons, Dens, Den] at h ⊢
    obtain ⟨w, r, rfl, rfl, h2⟩ := h
    rw [ih h2]

/-- what is owned stands: F grows, the owned addresses stay as they are -/
theorem Rws.keep (f : ∀ a o, F a = some o → F' a = some o) : ∀ {rows : List (List D)} {qs : List Addr}, Rws K mg F H rows qs → (∀ q, q ∈ qs → F' q = none ∧ H' q = H q) → Rws K mg F' H' rows qs
  | [], qs, h, _ => by simp only [Rws] at h ⊢; exact h
  | r :: rs, qs, h, k => by
    simp only [Rws] at h ⊢
    obtain ⟨q, t, rfl, h1, ⟨vs, h2, h3⟩, h4⟩ := h
    exact ⟨q, t, rfl, (k q List.mem_cons_self).1, ⟨vs, by rw [(k q List.mem_cons_self).2]; exact h2, Dens.mono f _ _ h3⟩, Rws.keep f h4 fun z hz => k z (List.mem_cons_of_mem _ hz)⟩
theorem DAt.keep (f : ∀ a o, F a = some o → F' a = some o) {p : Addr} {ks ws : List D} (h : DAt K mg F H p ks ws) (e : H' p = H p) : DAt K mg F' H' p ks ws := by
  rcases h with ⟨kvs, s, k, q⟩ | ⟨kvs, s, k, q⟩
  · exact .inl ⟨kvs, by rw [e]; exact s, k, Dens.mono f _ _ q⟩
  · exact .inr ⟨kvs, by rw [e]; exact s, k, Dens.mono f _ _ q⟩
theorem Own.keep (f : ∀ a o, F a = some o → F' a = some o) : ∀ {s : S} {v : V} {ps : List Addr}, Own K mg F H s v ps → (∀ q, q ∈ ps → F' q = none ∧ H' q = H q) → Own K mg F' H' s v ps
  | .dat d, v, ps, h, k => ⟨h.1, Den.mono f _ _ h.2⟩
  | .ml ds, v, ps, h, k => by
    obtain ⟨p, vs, rfl, rfl, h1, h2, h3⟩ := h
    exact ⟨p, vs, rfl, rfl, (k p (by simp)).1, by rw [(k p (by simp)).2]; exact h2, Dens.mono f _ _ h3⟩
  | .md ks ws, v, ps, h, k => by
    obtain ⟨p, rfl, rfl, h1, h2⟩ := h
    exact ⟨p, rfl, rfl, (k p (by simp)).1, h2.keep f (k p (by simp)).2⟩
  | .mg rows, v, ps, h, k => by
    obtain ⟨p, qs, rfl, rfl, h1, h2, h3⟩ := h
    exact ⟨p, qs, rfl, rfl, (k p (by simp)).1, by rw [(k p (by simp)).2]; exact h2, h3.keep f fun q hq => k q (List.mem_cons_of_mem _ hq)⟩
theorem Rws.here : ∀ {rows : List (List D)} {qs : List Addr}, Rws K mg F H rows qs → ∀ q, q ∈ qs → F q = none ∧ H q ≠ none
  | [], qs, h, q, hq => by simp only [Rws] at h; subst h; cases hq
  | r :: rs, qs, h, q, hq => by
    simp only [Rws] at h
    obtain ⟨z, t, rfl, h1, ⟨vs, h2, h3⟩, h4⟩ := h
    rcases List.mem_cons.mp hq with e | e
    · subst e; exact ⟨h1, by rw [h2]; simp⟩
    · exact Rws.here h4 q e
theorem Own.here : ∀ {s : S} {v : V} {ps : List Addr}, Own K mg F H s v ps → ∀ q, q ∈ ps → F q = none ∧ H q ≠ none
  | .dat d, v, ps, h, q, hq => by rw [h.1] at hq; cases hq
  | .ml ds, v, ps, h, q, hq => by
    obtain ⟨p, vs, rfl, rfl, h1, h2, h3⟩ := h
    obtain rfl : q = p := by simpa using hq
    exact ⟨h1, by rw [h2]; simp⟩
  | .md ks ws, v, ps, h, q, hq => by
    obtain ⟨p, rfl, rfl, h1, h2⟩ := h
    obtain rfl : q = p := by simpa using hq
    refine ⟨h1, ?_⟩
    rcases h2 with ⟨kvs, s, _⟩ | ⟨kvs, s, _⟩ <;> rw [s] <;> simp
  | .mg rows, v, ps, h, q, hq => by
    obtain ⟨p, qs, rfl, rfl, h1, h2, h3⟩ := h
    rcases List.mem_cons.mp hq with e | e
    · subst e; exact ⟨h1, by rw [h2]; simp⟩
    · exact h3.here q e
/-- frozen: the owned addresses are added to F -/
def frz (F H : Hp) (ps : List Addr) : Hp := fun a => if a ∈ ps then H a else F a
theorem frz_nil : frz F H [] = F := by funext a; simp [frz]
theorem frz_f {ps : List Addr} (h : ∀ q, q ∈ ps → F q = none) : ∀ a o, F a = some o → frz F H ps a = some o := fun a o e => by
  unfold frz
  rw [if_neg (fun z => by rw [h a z] at e; cases e)]
  exact e
theorem Rws.fz (f : ∀ a o, F a = some o → F' a = some o) : ∀ {rows : List (List D)} {qs : List Addr}, Rws K mg F H rows qs → (∀ q, q ∈ qs → F' q = H q) → Dens K mg F' (rows.map .lst) (qs.map V.ref)
  | [], qs, h, _ => by simp only [Rws] at h; subst h; exact Dens.nil
  | r :: rs, qs, h, k => by
    simp only [Rws] at h
    obtain ⟨q, t, rfl, h1, ⟨vs, h2, h3⟩, h4⟩ := h
    refine Dens.cons ?_ (Rws.fz f h4 fun z hz => k z (List.mem_cons_of_mem _ hz))
    simp only [Den]
    exact ⟨q, vs, rfl, by rw [k q List.mem_cons_self]; exact h2, Dens.mono f _ _ h3⟩
theorem Own.fz : ∀ {s : S} {v : V} {ps : List Addr}, Own K mg F H s v ps → Den K mg (frz F H ps) (fz s) v
  | .dat d, v, ps, h => by rw [h.1, frz_nil]; exact h.2
  | .ml ds, v, ps, h => by
    have hq := h.here
    obtain ⟨p, vs, rfl, rfl, h1, h2, h3⟩ := h
    simp only [Eng.fz, Den]
    exact ⟨p, vs, rfl, by unfold frz; rw [if_pos (by simp)]; exact h2, Dens.mono (frz_f fun q z => (hq q z).1) _ _ h3⟩
  | .md ks ws, v, ps, h => by
    have hq := h.here
    obtain ⟨p, rfl, rfl, h1, h2⟩ := h
    simp only [Eng.fz, Den]
    have e : frz F H [p] p = H p := by unfold frz; rw [if_pos (by simp)]
    refine ⟨p, rfl, ?_⟩
    rcases h2 with ⟨kvs, s, k, q⟩ | ⟨kvs, s, k, q⟩
    · exact .inl ⟨kvs, by rw [e]; exact s, k, Dens.mono (frz_f fun q z => (hq q z).1) _ _ q⟩
    · exact .inr ⟨kvs, by rw [e]; exact s, k, Dens.mono (frz_f fun q z => (hq q z).1) _ _ q⟩
  | .mg rows, v, ps, h => by
    have hq := h.here
    obtain ⟨p, qs, rfl, rfl, h1, h2, h3⟩ := h
    simp only [Eng.fz, Den]
    refine ⟨p, qs.map V.ref, rfl, by unfold frz; rw [if_pos (by simp)]; exact h2, h3.fz (frz_f fun q z => (hq q z).1) fun q hz => ?_⟩
    unfold frz; rw [if_pos (List.mem_cons_of_mem _ hz)]
end
end Eng

set_option Elab.async false
set_option linter.all false
set_option maxRecDepth 100000
set_option maxHeartbeats 4000000
namespace Eng
open PySem PySem.Spec PyProof.Rows L2

/-! ### the small language -/
inductive IK where | seq | r1 | r2 | enum | zip
inductive Ty where | int | bool | str | tuple | list | dict | none
inductive BF where | len | abs | max1 | min1 | max2 | min2 | int | sum | all | any | list | tuple | sorted | divmod | gcd
inductive E where
  | bad | nil | cons (e es : E)
  | var (i : Nat) | int (i : Int) | bl (b : Bool) | non | str (x : Str) | gl (x : Str)
  | bin (o : Operator) (a b : E) | neg (a : E)
  | cmp (o : CmpOp) (a b : E) | chn (o p : CmpOp) (a b c : E)
  | and_ (a b : E) | or_ (a b : E) | not_ (a : E) | ife (c a b : E)
  | tup (es : E) | lst (es : E) | dic (ks vs : E) | dnt
  | ix (a i : E) | slc (a lo hi : E) | rev (a : E)
  | call (f : Str) (es : E) | callk (f : Str) (es ks : E) (perm : List Nat) | callv (i : Nat) (es : E)
  | bi (f : BF) (a : E) | bi2 (f : BF) (a b : E) | isi (a : E) (ts : List Ty) (many : Bool)
  | app (x : Nat) (e : E)
  | lrg (a b : E)
  | lc (elt : E) (tg : List Nat) (one : Bool) (k : IK) (src : E) (ifs : E) (own : List Nat)
  | lc2 (elt : E) (tg : List Nat) (one : Bool) (k : IK) (src : E) (ifs : E) (tg2 : List Nat) (one2 : Bool) (k2 : IK) (src2 : E) (ifs2 : E) (own own2 : List Nat)
  | lcg (elt : E) (tg : List Nat) (one : Bool) (k : IK) (src : E) (ifs : E) (own : List Nat)
  | mgn | gix (x : Nat) (i j : E) | gbi (f : BF) (x : Nat) (i : E) | gapp (x : Nat) (e : E)
inductive Tg where
  | nm (i : Nat) | ix (x : Nat) (i : E) | gst (x : Nat) (i j : E) | grw (x : Nat) (i : E) | tnil | tcons (t ts : Tg)
/-! ### what an evaluation gives -/
inductive R (α : Type) where
  | ok (a : α) (en : En) | exc (c : Str) (d : Option (Str × D)) (en : En) | stuck
@[simp] def R.bind {α β : Type} : R α → (α → En → R β) → R β
  | .ok a en, f => f a en
  | .exc c d en, _ => .exc c d en
  | .stuck, _ => .stuck
@[simp] def R.of {α : Type} : Option α → En → R α
  | some a, en => .ok a en
  | none, _ => .stuck
/-- nothing is raised -/
def R.nox {α : Type} : R α → R α
  | .ok a en => .ok a en
  | _ => .stuck
/-- a call's end: the value, what the parameters hold then -/
inductive FR where
  | ret (s : S) (fin : List (Option S)) | exc (c : Str) (d : Option (Str × D)) | stuck

/-! ### values -/
def vM : S → Option (List D)
  | .ml ds => some ds | .dat (.lst ds) => some ds | _ => none
def vL : S → Option (List D)
  | .ml ds => some ds | .dat (.lst ds) => some ds | .dat (.scr ns) => some (ns.map .int) | _ => none
def vT : S → Option (List D)
  | .dat (.tup ds) => some ds | _ => none
def vSq : S → Option (List D)
  | .ml ds => some ds | .dat (.lst ds) => some ds | .dat (.tup ds) => some ds | .dat (.scr ns) => some (ns.map .int) | _ => none
def SZ : Nat := 16777216
def dInt : D → Option Int | .int i => some i | _ => none
def dBl : D → Option Bool | .bl i => some i | _ => none
def dInts : List D → Option (List Int)
  | [] => some []
  | .int i :: r => (dInts r).map (i :: ·)
  | _ => none
def truI : D → Option Bool
  | .bl b => some b | .int i => some (i != 0) | _ => none
def dBls : List D → Option (List Bool)
  | [] => some []
  | d :: r => (truI d).bind fun b => (dBls r).map (b :: ·)
/-- data that == may be asked of: no dicts, no functions, not too deep -/
def shD : Nat → D → Bool
  | _, .non => true | _, .bl _ => true | _, .int _ => true | _, .str x => PyData.strOk x
  | n + 1, .tup ds => ds.all (shD n)
  | n + 1, .lst ds => ds.all (shD n)
  | _, _ => false
mutual
def eqD : D → D → Bool
  | .non, .non => true
  | .bl a, .bl b => a == b
  | .bl a, .int j => (if a then 1 else 0) == j
  | .int i, .bl b => i == (if b then 1 else 0)
  | .int i, .int j => i == j
  | .str x, .str y => x == y
  | .lst xs, .lst ys => eqDs xs ys
  | .tup xs, .tup ys => eqDs xs ys
  | _, _ => false
def eqDs : List D → List D → Bool
  | [], [] => true
  | x :: xs, y :: ys => eqD x y && eqDs xs ys
  | _, _ => false
end
def eqS (a b : S) : Option Bool := if shD 60 (fz a) && shD 60 (fz b) then some (eqD (fz a) (fz b)) else none
/-- truth -/
def truD : S → Option Bool
  | .dat .non => some false
  | .dat (.bl b) => some b
  | .dat (.int i) => some (i != 0)
  | .dat (.str x) => if x.length ≤ SZ then some ((x.length : Int) != 0) else none
  | .dat (.tup ds) => some (!ds.isEmpty)
  | .dat (.lst ds) => some (!ds.isEmpty)
  | .ml ds => some (!ds.isEmpty)
  | _ => none
def flatD : D → Bool
  | .non => true | .bl _ => true | .int _ => true | .str _ => true | _ => false
def addS : S → S → Option S
  | .dat (.int i), .dat (.int j) => some (.dat (.int (i + j)))
  | .dat (.str x), .dat (.str y) => if x.length + y.length ≤ SZ then some (.dat (.str (x ++ y))) else none
  | .dat (.tup x), .dat (.tup y) => if x.length + y.length ≤ SZ then some (.dat (.tup (x ++ y))) else none
  | a, b => match vM a, vM b with
    | some x, some y => if x.length + y.length ≤ SZ then some (.ml (x ++ y)) else none
    | _, _ => none
def subS : S → S → Option S
  | .dat (.int i), .dat (.int j) => some (.dat (.int (i - j)))
  | _, _ => none
def mulS : S → S → Option S
  | .dat (.int i), .dat (.int j) => if i.natAbs.log2 + j.natAbs.log2 < 1000000 ∨ (-(2 ^ 64) < i ∧ i < 2 ^ 64) ∨ (-(2 ^ 64) < j ∧ j < 2 ^ 64) then some (.dat (.int (i * j))) else none
  | .dat (.tup x), .dat (.int k) => if x ≠ [] ∧ 1 ≤ k ∧ k ≤ 1000 ∧ x.length ≤ 1000 then some (.dat (.tup (List.replicate k.toNat x).flatten)) else none
  | a, .dat (.int k) => match vM a with
    | some x => if 0 ≤ k ∧ k < 2 ^ 63 ∧ x.length * k.toNat ≤ SZ then some (.ml (List.replicate k.toNat x).flatten) else none
    | none => none
  | _, _ => none
def fdvS : S → S → Option S
  | .dat (.int i), .dat (.int j) => if 0 < j ∧ j.natAbs.log2 < 9000 then some (.dat (.int (i / j))) else none
  | _, _ => none
def modS : S → S → Option S
  | .dat (.int i), .dat (.int j) => if 0 < j then some (.dat (.int (i % j))) else none
  | _, _ => none
def powS : S → S → Option S
  | .dat (.int i), .dat (.int j) => if 0 ≤ j ∧ j ≤ 1000000 ∧ i.natAbs < 2 ^ 64 then some (.dat (.int (i ^ j.toNat))) else none
  | _, _ => none
def binS (o : Operator) (a b : S) : Option S := match o with
  | .Add => addS a b | .Sub => subS a b | .Mult => mulS a b | .FloorDiv => fdvS a b | .Mod => modS a b | .Pow => powS a b | _ => none
def inL (x : D) (ds : List D) : Option Bool := if flatD x && ds.all flatD then some (ds.any fun y => eqD y x) else none
def ltS : S → S → Option Bool
  | .dat (.int i), .dat (.int j) => some (decide (i < j))
  | _, _ => none
def leS : S → S → Option Bool
  | .dat (.int i), .dat (.int j) => some (decide (i ≤ j))
  | _, _ => none
def isS : S → S → Option Bool
  | .dat .non, .dat .non => some true
  | _, .dat .non => some false
  | _, _ => none
def inS : S → S → Option Bool
  | .dat x, b => (vSq b).bind (inL x)
  | _, _ => none
def cmpS (o : CmpOp) (a b : S) : Option Bool := match o with
  | .Eq => eqS a b | .NotEq => (eqS a b).map not | .Lt => ltS a b | .LtE => leS a b | .Gt => ltS b a | .GtE => leS b a
  | .Is => isS a b | .IsNot => (isS a b).map not | .In => inS a b | .NotIn => (inS a b).map not
def ixS (a i : S) : Option D := match i with
  | .dat (.int k) => (vSq a).bind fun ds => atI ds k
  | _ => none
def cutD (xs : List D) (lo hi : Option Int) : List D := (xs.drop (HT.sIx xs.length 0 lo)).take (HT.sIx xs.length xs.length hi - HT.sIx xs.length 0 lo)
def slcS (a : S) (lo hi : Option Int) : Option S := match a with
  | .dat (.tup ds) => some (.dat (.tup (cutD ds lo hi)))
  | a => (vL a).map fun ds => .ml (cutD ds lo hi)
def tyS : S → Option Ty
  | .dat .non => some .none | .dat (.bl _) => some .bool | .dat (.int _) => some .int | .dat (.str _) => some .str
  | .dat (.tup _) => some .tuple | .dat (.lst _) => some .list | .dat (.scr _) => some .list | .dat (.dct _ _) => some .dict | .ml _ => some .list | .md _ _ => some .dict | _ => none
def isT : Ty → Ty → Bool
  | .int, .int => true | .bool, .bool => true | .bool, .int => true | .str, .str => true | .tuple, .tuple => true | .list, .list => true | .dict, .dict => true | _, _ => false
def maxI : List Int → Option Int
  | [] => none
  | [a] => some a
  | a :: r => (maxI r).map fun m => if m > a then m else a
def minI : List Int → Option Int
  | [] => none
  | [a] => some a
  | a :: r => (minI r).map fun m => if m < a then m else a
def rgD (a b : Int) : List D := (List.range (b - a).toNat).map fun i => .int (a + (i : Nat))
def lenS : S → Option S
  | .dat (.str x) => if x.length ≤ SZ then some (.dat (.int x.length)) else none
  | a => (vSq a).map fun ds => .dat (.int ds.length)
def absS : S → Option S
  | .dat (.int i) => some (.dat (.int (if i < 0 then -i else i)))
  | _ => none
def max2S : S → S → Option S
  | .dat (.int i), .dat (.int j) => some (.dat (.int (if j > i then j else i)))
  | _, _ => none
def min2S : S → S → Option S
  | .dat (.int i), .dat (.int j) => some (.dat (.int (if j < i then j else i)))
  | _, _ => none
def intS : S → Option S
  | .dat (.int i) => some (.dat (.int i))
  | .dat (.bl b) => some (.dat (.int (if b then 1 else 0)))
  | _ => none
def dvmS : S → S → Option S
  | .dat (.int i), .dat (.int j) => if 0 < j ∧ j < 1073741824 then some (.dat (.tup [.int (i / j), .int (i % j)])) else none
  | _, _ => none
def gcdS : S → S → Option S
  | .dat (.int i), .dat (.int j) => some (.dat (.int (Int.gcd i j)))
  | _, _ => none
def numsS (a : S) : Option (List Int) := (vSq a).bind dInts
def blsS (a : S) : Option (List Bool) := (vSq a).bind dBls
def biS1 (f : BF) (a : S) : Option S := match f with
  | .len => lenS a | .abs => absS a | .int => intS a
  | .max1 => (numsS a).bind fun ns => (maxI ns).map fun m => .dat (.int m)
  | .min1 => (numsS a).bind fun ns => (minI ns).map fun m => .dat (.int m)
  | .sum => (numsS a).map fun ns => .dat (.int ns.sum)
  | .all => (blsS a).map fun bs => .dat (.bl (bs.all id))
  | .any => (blsS a).map fun bs => .dat (.bl (bs.any id))
  | .list => (vSq a).map .ml
  | .tuple => (vSq a).map fun ds => .dat (.tup ds)
  | _ => none
def biS2 (f : BF) (a b : S) : Option S := match f with
  | .max2 => max2S a b | .min2 => min2S a b | .divmod => dvmS a b | .gcd => gcdS a b | _ => none
/-- the items of a walk -/
def zipD : List D → List D → List D
  | x :: xs, y :: ys => .tup [x, y] :: zipD xs ys
  | _, _ => []
def enumD : Nat → List D → List D
  | _, [] => []
  | n, x :: xs => .tup [.int n, x] :: enumD (n + 1) xs
def rgOk (a b : Int) : Bool := decide (-(2 ^ 62) ≤ a ∧ a < 2 ^ 62 ∧ -(2 ^ 62) ≤ b ∧ b < 2 ^ 62)
def itD : IK → List S → Option (List D)
  | .seq, [a] => vSq a
  | .r1, [.dat (.int b)] => if rgOk 0 b then some (rgD 0 b) else none
  | .r2, [.dat (.int a), .dat (.int b)] => if rgOk a b then some (rgD a b) else none
  | .enum, [a] => (vSq a).map (enumD 0)
  | .zip, [a, b] => match vL a, vL b, vT a, vT b with
    | some x, some y, _, _ => some (zipD x y)
    | _, _, some x, some y => some (zipD x y)
    | _, _, _, _ => none
  | _, _ => none

/-! ### slots -/
def getE (en : En) (i : Nat) : Option S := (en[i]?).getD none
def setD (en : En) (tg : List Nat) (one : Bool) (d : D) : Option En := match one, tg, d with
  | true, [i], d => some (en.set i (some (.dat d)))
  | false, tg, .tup ds => if tg.length = ds.length then some ((tg.zip ds).foldl (fun en p => en.set p.1 (some (.dat p.2))) en) else none
  | _, _, _ => none
def wipeE (en : En) : List Nat → En
  | [] => en
  | v :: vs => (wipeE en vs).set v none
/-- the slots at own as they were: data only -/
def restD (old en : En) : List Nat → En
  | [] => en
  | v :: vs => (restD old en vs).set v (match getE old v with
    | some (.dat d) => some (.dat d)
    | _ => none)
def restE (old en : En) (vs : List Nat) : En := restD old (wipeE en vs) vs
def loopL {α : Type} (f : α → D → En → R α) : List D → α → En → R α
  | [], a, en => .ok a en
  | x :: xs, a, en => (f a x en).bind fun a en => loopL f xs a en

def pmL {α : Type} (perm : List Nat) (l : List α) : List α := perm.filterMap (l[·]?)
/-- a display's keys -/
def keyE : E → Option (List Key)
  | .nil => some []
  | .cons (.int i) es => (keyE es).map (.inl i :: ·)
  | .cons (.str x) es => (keyE es).map (.inr x :: ·)
  | _ => none
/-- one turn of a comprehension -/
def lcF (st : En → D → Option En) (ti : En → R Bool) (te : En → R S) (own : List Nat) (acc : List D) (x : D) (en1 : En) : R (List D) := match st en1 x with
  | some en2 => (ti en2).bind fun ok en3 => if ok then (te en3).bind fun s en4 => if acc.length < SZ then .ok (acc ++ [fz s]) (wipeE en4 own) else .stuck else .ok acc (wipeE en3 own)
  | none => .stuck
/-- one turn of a comprehension whose items stay owned lists -/
def lgF (st : En → D → Option En) (ti : En → R Bool) (te : En → R S) (own : List Nat) (acc : List (List D)) (x : D) (en1 : En) : R (List (List D)) := match st en1 x with
  | some en2 => (ti en2).bind fun ok en3 => if ok then (te en3).bind fun s en4 => match s with
      | .ml ds => if acc.length < SZ then .ok (acc ++ [ds]) (wipeE en4 own) else .stuck
      | _ => .stuck
    else .ok acc (wipeE en3 own)
  | none => .stuck
/-- the outer turn of a comprehension with two sources -/
def l2F (st : En → D → Option En) (ti : En → R Bool) (ts : En → R (List S)) (k2 : IK) (tn : List D → D → En → R (List D)) (own own2 : List Nat) (acc : List D) (x : D) (en1 : En) : R (List D) := match st en1 x with
  | some en2 => (ti en2).bind fun ok en3 => if ok then (ts en3).bind fun ss en4 => match itD k2 ss with
      | some ys => (loopL tn ys acc (wipeE en4 own2)).bind fun acc en5 => .ok acc (wipeE en5 own)
      | none => .stuck
    else .ok acc (wipeE en3 own)
  | none => .stuck
/-- a row of a grid -/
def gRow (rows : List (List D)) : S → Option (Nat × List D)
  | .dat (.int k) => (ixN rows.length k).bind fun i => (rows[i]?).map fun r => (i, r)
  | _ => none
def gAt (r : List D) : S → Option D
  | .dat (.int l) => atI r l
  | _ => none
section
variable (Φ : Str → List S → FR) (G : Str → Option D)
/-- what stays readable in place -/
def reg (e : E) (s : S) (en : En) : Option S := match e with
  | .var i => getE en i
  | _ => some s
def oi : Option S → Option Int
  | some (.dat (.int i)) => some i
  | _ => none
/-- behind a call: the names that were handed on -/
def back : E → List S → List (Option S) → En → En
  | .cons (.var i) es, .dat _ :: ss, _ :: fs, en => back es ss fs en
  | .cons (.var i) es, _ :: ss, f :: fs, en => back es ss fs (en.set i f)
  | .cons _ es, _ :: ss, _ :: fs, en => back es ss fs en
  | _, _, _, en => en
/-- second turn: a name that is owned is handed on -/
def takeE : E → List (Option S) → En → Option (List S × En)
  | .nil, [], en => some ([], en)
  | .cons (.var i) es, none :: os, en => match getE en i with
    | some (.dat d) => (takeE es os en).map fun r => (.dat d :: r.1, r.2)
    | some s => (takeE es os (en.set i none)).map fun r => (s :: r.1, r.2)
    | none => none
  | .cons _ es, some s :: os, en => (takeE es os en).map fun r => (s :: r.1, r.2)
  | _, _, _ => none
def tkR : Option (List S × En) → R (List S)
  | some r => .ok r.1 r.2
  | none => .stuck
mutual
/-- an expression's value -/
def ev : E → En → R S
  | .bad, _ => .stuck
  | .nil, _ => .stuck
  | .cons _ _, _ => .stuck
  | .var i, en => match getE en i with
    | some (.dat d) => .ok (.dat d) en
    | some s => .ok (.dat (fz s)) (en.set i (some (.dat (fz s))))
    | none => .stuck
  | .int i, en => .ok (.dat (.int i)) en
  | .bl b, en => .ok (.dat (.bl b)) en
  | .non, en => .ok (.dat .non) en
  | .str x, en => .ok (.dat (.str x)) en
  | .gl x, en => R.of ((G x).map .dat) en
  | .bin o a b, en => (opn a en).bind fun x en => (opn b en).bind fun y en => R.of ((reg a x en).bind fun x => binS o x y) en
  | .neg a, en => (ev a en).bind fun x en => match x with
    | .dat (.int i) => .ok (.dat (.int (-i))) en
    | _ => .stuck
  | .cmp o a b, en => (opn a en).bind fun x en => (opn b en).bind fun y en => R.of ((reg a x en).bind fun x => (cmpS o x y).map fun b => .dat (.bl b)) en
  | .chn o p a b c, en => (ev a en).bind fun x en => (ev b en).bind fun y en => match cmpS o x y with
    | some true => (ev c en).bind fun z en => R.of ((cmpS p y z).map fun b => .dat (.bl b)) en
    | some false => .ok (.dat (.bl false)) en
    | none => .stuck
  | .and_ a b, en => (ev a en).bind fun x en => match truD x with
    | some true => ev b en
    | some false => .ok x en
    | none => .stuck
  | .or_ a b, en => (ev a en).bind fun x en => match truD x with
    | some true => .ok x en
    | some false => ev b en
    | none => .stuck
  | .not_ a, en => (ev a en).bind fun x en => R.of ((truD x).map fun b => .dat (.bl !b)) en
  | .ife c a b, en => (evT c en).bind fun k en => if k then ev a en else ev b en
  | .tup es, en => (evs es en).bind fun ss en => if ss.length ≤ SZ then .ok (.dat (.tup (ss.map fz))) en else .stuck
  | .lst es, en => (evs es en).bind fun ss en => if ss.length ≤ SZ then .ok (.ml (ss.map fz)) en else .stuck
  | .dic ks vs, en => match keyE ks with
    | some kk => if kk.Nodup ∧ kk.length ≤ 15 then (evs vs en).bind fun ss en => if ss.length = kk.length then .ok (.md (kk.map kD) (ss.map fz)) en else .stuck else .stuck
    | none => .stuck
  | .dnt, en => .ok (.md [] []) en
  | .ix a i, en => (opn a en).bind fun x en => (opn i en).bind fun y en => R.of ((reg a x en).bind fun x => (ixS x y).map .dat) en
  | .slc a lo hi, en => (opn a en).bind fun x en => (evo lo en).bind fun l en => (evo hi en).bind fun h en => R.of ((reg a x en).bind fun x => slcS x l h) en
  | .rev a, en => (opn a en).bind fun x en => R.of ((reg a x en).bind fun x => (vL x).map fun ds => .ml ds.reverse) en
  | .call f es, en => ((evq es en).bind fun os en => tkR (takeE es os en)).bind fun ss en => match Φ f ss with
    | .ret s fin => .ok s (back es ss fin en)
    | .exc c d => .exc c d en
    | .stuck => .stuck
  | .callk f es ks perm, en => (evs es en).bind fun ss en => (evs ks en).bind fun ss2 en => match Φ f ((pmL perm (ss ++ ss2)).map fun s => .dat (fz s)) with
    | .ret s _ => .ok s en
    | .exc c d => .exc c d en
    | .stuck => .stuck
  | .callv i es, en => match getE en i with
    | some (.dat (.fn f)) => (R.nox ((evq es en).bind fun os en => tkR (takeE es os en))).bind fun ss en => match Φ f ss with
      | .ret s fin => .ok s (back es ss fin en)
      | .exc c d => .exc c d en
      | .stuck => .stuck
    | _ => .stuck
  | .bi f a, en => (opn a en).bind fun x en => R.of ((reg a x en).bind fun x => biS1 f x) en
  | .bi2 f a b, en => (opn a en).bind fun x en => (opn b en).bind fun y en => R.of ((reg a x en).bind fun x => biS2 f x y) en
  | .isi a ts _, en => (opn a en).bind fun x en => R.of ((reg a x en).bind fun x => (tyS x).map fun t => .dat (.bl (ts.any (isT t)))) en
  | .app x e, en => match getE en x with
    | some (.ml _) => (ev e en).bind fun s en => match getE en x with
      | some (.ml ds) => if ds.length < SZ then .ok (.dat .non) (en.set x (some (.ml (ds ++ [fz s])))) else .stuck
      | _ => .stuck
    | _ => .stuck
  | .lrg a b, en => (ev a en).bind fun x en => (ev b en).bind fun y en => match x, y with
    | .dat (.int i), .dat (.int j) => if rgOk i j ∧ (j - i).toNat ≤ SZ then .ok (.ml (rgD i j)) en else .stuck
    | _, _ => .stuck
  | .lc elt tg one k src ifs own, en => (evs src en).bind fun ss en => match itD k ss with
    | some xs => (R.nox (loopL (lcF (setD · tg one ·) (fun en2 => evi ifs en2) (fun en3 => ev elt en3) own) xs [] (wipeE en own))).bind fun acc en5 => .ok (.ml acc) (restE en en5 own)
    | none => .stuck
  | .lc2 elt tg one k src ifs tg2 one2 k2 src2 ifs2 own own2, en => (evs src en).bind fun ss en => match itD k ss with
    | some xs => (R.nox (loopL (l2F (setD · tg one ·) (fun en2 => evi ifs en2) (fun en3 => evs src2 en3) k2 (lcF (setD · tg2 one2 ·) (fun en2 => evi ifs2 en2) (fun en3 => ev elt en3) own2) own own2) xs [] (wipeE en own))).bind fun acc en5 => .ok (.ml acc) (restE en en5 own)
    | none => .stuck
  | .lcg elt tg one k src ifs own, en => (evs src en).bind fun ss en => match itD k ss with
    | some xs => (R.nox (loopL (lgF (setD · tg one ·) (fun en2 => evi ifs en2) (fun en3 => ev elt en3) own) xs [] (wipeE en own))).bind fun acc en5 => .ok (.mg acc) (restE en en5 own)
    | none => .stuck
  | .mgn, en => .ok (.mg []) en
  | .gix x i j, en => match getE en x with
    | some (.mg rows) => (opn i (en.set x none)).bind fun a en1 => match gRow rows a with
      | some r => (opn j en1).bind fun b en2 => R.of ((gAt r.2 b).map .dat) (en2.set x (some (.mg rows)))
      | none => .stuck
    | _ => .stuck
  | .gbi f x i, en => match getE en x with
    | some (.mg rows) => (opn i (en.set x none)).bind fun a en1 => match gRow rows a with
      | some r => R.of (biS1 f (.ml r.2)) (en1.set x (some (.mg rows)))
      | none => .stuck
    | _ => .stuck
  | .gapp x e, en => match getE en x with
    | some (.mg _) => (ev e en).bind fun s en => match s, getE en x with
      | .ml ds, some (.mg rows) => if rows.length < SZ then .ok (.dat .non) (en.set x (some (.mg (rows ++ [ds])))) else .stuck
      | _, _ => .stuck
    | _ => .stuck
/-- an operand: a name is read in place -/
def opn : E → En → R S
  | .var i, en => R.of (getE en i) en
  | e, en => ev e en
/-- several, from the left -/
def evs : E → En → R (List S)
  | .nil, en => .ok [] en
  | .cons e es, en => (ev e en).bind fun s en => (evs es en).bind fun ss en => .ok (s :: ss) en
  | _, _ => .stuck
/-- arguments, first turn: a name is only looked at -/
def evq : E → En → R (List (Option S))
  | .nil, en => .ok [] en
  | .cons (.var i) es, en => match getE en i with
    | some _ => (evq es en).bind fun os en => .ok (none :: os) en
    | none => .stuck
  | .cons e es, en => (ev e en).bind fun s en => (evq es en).bind fun os en => .ok (some s :: os) en
  | _, _ => .stuck
/-- a part of a slice -/
def evo : E → En → R (Option Int)
  | .nil, en => .ok none en
  | e, en => (ev e en).bind fun s en => match s with
    | .dat (.int i) => .ok (some i) en
    | _ => .stuck
/-- a comprehension's tests: none or one -/
def evi : E → En → R Bool
  | .nil, en => .ok true en
  | .cons e .nil, en => evT e en
  | _, _ => .stuck
/-- a test -/
def evT : E → En → R Bool
  | .and_ a b, en => (evT a en).bind fun x en => if x then evT b en else .ok false en
  | .or_ a b, en => (evT a en).bind fun x en => if x then .ok true en else evT b en
  | .not_ a, en => (evT a en).bind fun x en => .ok (!x) en
  | .cmp o a b, en => (opn a en).bind fun x en => (opn b en).bind fun y en => R.of ((reg a x en).bind fun x => cmpS o x y) en
  | .chn o p a b c, en => (ev a en).bind fun x en => (ev b en).bind fun y en => match cmpS o x y with
    | some true => (ev c en).bind fun z en => R.of (cmpS p y z) en
    | some false => .ok false en
    | none => .stuck
  | e, en => (opn e en).bind fun x en => R.of (truD x) en
end
def eva (es : E) (en : En) : R (List S) := (evq Φ G es en).bind fun os en => tkR (takeE es os en)
end
end Eng

set_option Elab.async false
set_option linter.all false
set_option maxRecDepth 100000
set_option maxHeartbeats 4000000
namespace Eng
open PySem PySem.Spec PyProof.Rows L2
section
variable {K : PySem.W.Frag} {mg : Str → Option Value} {F H F' H' F2 H2 : Hp} {A B C ps : List Addr} {σ : L2.St} {en : En} {i : Nat} {s : S} {v : V}

theorem OwE.len : ∀ {en : En} {σ : L2.St} {A : List Addr}, OwE K mg F H en σ A → σ.length = en.length
  | [], σ, A, h => by simp only [OwE] at h; rw [h.1]; rfl
  | none :: en, σ, A, h => by
    simp only [OwE] at h
    obtain ⟨o, r, rfl, h⟩ := h
    rw [List.length_cons, List.length_cons, OwE.len h]
  | some s :: en, σ, A, h => by
    simp only [OwE] at h
    obtain ⟨v, r, ps, B, rfl, rfl, _, h⟩ := h
    rw [List.length_cons, List.length_cons, OwE.len h]
theorem OwE.here : ∀ {en : En} {σ : L2.St} {A : List Addr}, OwE K mg F H en σ A → ∀ q, q ∈ A → F q = none ∧ H q ≠ none
  | [], σ, A, h, q, hq => by simp only [OwE] at h; rw [h.2] at hq; cases hq
  | none :: en, σ, A, h, q, hq => by
    simp only [OwE] at h
    obtain ⟨o, r, rfl, h⟩ := h
    exact OwE.here h q hq
  | some s :: en, σ, A, h, q, hq => by
    simp only [OwE] at h
    obtain ⟨v, r, ps, B, rfl, rfl, h1, h⟩ := h
    rcases List.mem_append.mp hq with z | z
    · exact h1.here q z
    · exact OwE.here h q z
theorem OwE.keep (f : ∀ a o, F a = some o → F' a = some o) : ∀ {en : En} {σ : L2.St} {A : List Addr}, OwE K mg F H en σ A → (∀ q, q ∈ A → F' q = none ∧ H' q = H q) → OwE K mg F' H' en σ A
  | [], σ, A, h, k => by simp only [OwE] at h ⊢; exact h
  | none :: en, σ, A, h, k => by
    simp only [OwE] at h ⊢
    obtain ⟨o, r, rfl, h⟩ := h
    exact ⟨o, r, rfl, OwE.keep f h k⟩
  | some s :: en, σ, A, h, k => by
    simp only [OwE] at h ⊢
    obtain ⟨v, r, ps, B, rfl, rfl, h1, h⟩ := h
    exact ⟨v, r, ps, B, rfl, rfl, h1.keep f fun q hq => k q (List.mem_append_left _ hq), OwE.keep f h fun q hq => k q (List.mem_append_right _ hq)⟩
theorem OwE.take : ∀ {en : En} {σ : L2.St} {A : List Addr} {i : Nat} {s : S}, OwE K mg F H en σ A → en[i]? = some (some s) → ∃ v ps B, σ[i]? = some (some v) ∧ A.Perm (ps ++ B) ∧ Own K mg F H s v ps ∧ OwE K mg F H (en.set i none) σ B
  | [], _, _, _, _, _, e => by simp at e
  | none :: en, σ, A, 0, s, h, e => by simp at e
  | none :: en, σ, A, i + 1, s, h, e => by
    simp only [OwE] at h
    obtain ⟨o, r, rfl, h⟩ := h
    obtain ⟨v, ps, B, e1, e2, e3, e4⟩ := OwE.take (i := i) h (by simpa using e)
    exact ⟨v, ps, B, by simpa using e1, e2, e3, by simp only [List.set_cons_succ, OwE]; exact ⟨o, r, rfl, e4⟩⟩
  | some t :: en, σ, A, 0, s, h, e => by
    simp only [OwE] at h
    obtain ⟨v, r, ps, B, rfl, rfl, h1, h⟩ := h
    obtain rfl : t = s := by simpa using e
    exact ⟨v, ps, B, rfl, .refl _, h1, by simp only [List.set_cons_zero, OwE]; exact ⟨_, _, rfl, h⟩⟩
  | some t :: en, σ, A, i + 1, s, h, e => by
    simp only [OwE] at h
    obtain ⟨v, r, qs, B, rfl, rfl, h1, h⟩ := h
    obtain ⟨w, ps, C, e1, e2, e3, e4⟩ := OwE.take (i := i) h (by simpa using e)
    refine ⟨w, ps, qs ++ C, by simpa using e1, ?_, e3, by simp only [List.set_cons_succ, OwE]; exact ⟨v, r, qs, C, rfl, rfl, h1, e4⟩⟩
    refine (List.Perm.append_left qs e2).trans ?_
    rw [← List.append_assoc, ← List.append_assoc]
    exact List.Perm.append_right C List.perm_append_comm
theorem OwE.put : ∀ {en : En} {σ : L2.St} {B : List Addr} {i : Nat}, OwE K mg F H en σ B → en[i]? = some none → Own K mg F H s v ps → ∃ A, A.Perm (ps ++ B) ∧ OwE K mg F H (en.set i (some s)) (σ.set i (some v)) A
  | [], _, _, _, _, e, _ => by simp at e
  | some t :: en, σ, A, 0, h, e, _ => by simp at e
  | none :: en, σ, B, 0, h, e, q => by
    simp only [OwE] at h
    obtain ⟨o, r, rfl, h⟩ := h
    exact ⟨ps ++ B, .refl _, by simp only [List.set_cons_zero, OwE]; exact ⟨v, r, ps, B, rfl, rfl, q, h⟩⟩
  | none :: en, σ, B, i + 1, h, e, q => by
    simp only [OwE] at h
    obtain ⟨o, r, rfl, h⟩ := h
    obtain ⟨A, e1, e2⟩ := OwE.put (i := i) h (by simpa using e) q
    exact ⟨A, e1, by simp only [List.set_cons_succ, OwE]; exact ⟨o, _, rfl, e2⟩⟩
  | some t :: en, σ, B, i + 1, h, e, q => by
    simp only [OwE] at h
    obtain ⟨w, r, qs, C, rfl, rfl, h1, h⟩ := h
    obtain ⟨A, e1, e2⟩ := OwE.put (i := i) h (by simpa using e) q
    refine ⟨qs ++ A, ?_, by simp only [List.set_cons_succ, OwE]; exact ⟨w, _, qs, A, rfl, rfl, h1, e2⟩⟩
    refine (List.Perm.append_left qs e1).trans ?_
    rw [← List.append_assoc, ← List.append_assoc]
    exact List.Perm.append_right C List.perm_append_comm
theorem OwE.drop : ∀ {en : En} {σ : L2.St} {A : List Addr} {i : Nat}, OwE K mg F H en σ A → ∃ B, B.Sublist A ∧ OwE K mg F H (en.set i none) σ B
  | [], σ, A, i, h => ⟨A, .refl _, by simpa using h⟩
  | none :: en, σ, A, 0, h => ⟨A, .refl _, by simpa using h⟩
  | none :: en, σ, A, i + 1, h => by
    simp only [OwE] at h
    obtain ⟨o, r, rfl, h⟩ := h
    obtain ⟨B, e1, e2⟩ := OwE.drop (i := i) h
    exact ⟨B, e1, by simp only [List.set_cons_succ, OwE]; exact ⟨o, r, rfl, e2⟩⟩
  | some t :: en, σ, A, 0, h => by
    simp only [OwE] at h
    obtain ⟨v, r, ps, B, rfl, rfl, h1, h⟩ := h
    exact ⟨B, List.sublist_append_right _ _, by simp only [List.set_cons_zero, OwE]; exact ⟨_, _, rfl, h⟩⟩
  | some t :: en, σ, A, i + 1, h => by
    simp only [OwE] at h
    obtain ⟨v, r, ps, B, rfl, rfl, h1, h⟩ := h
    obtain ⟨C, e1, e2⟩ := OwE.drop (i := i) h
    exact ⟨ps ++ C, List.Sublist.append (.refl _) e1, by simp only [List.set_cons_succ, OwE]; exact ⟨v, r, ps, C, rfl, rfl, h1, e2⟩⟩
theorem OwE.setσ : ∀ {en : En} {σ : L2.St} {A : List Addr} {i : Nat} {o : Option V}, OwE K mg F H en σ A → en[i]? = some none → OwE K mg F H en (σ.set i o) A
  | [], _, _, _, _, _, e => by simp at e
  | some t :: en, σ, A, 0, _, h, e => by simp at e
  | none :: en, σ, B, 0, o', h, e => by
    simp only [OwE] at h ⊢
    obtain ⟨o, r, rfl, h⟩ := h
    exact ⟨o', r, rfl, h⟩
  | none :: en, σ, B, i + 1, o', h, e => by
    simp only [OwE] at h ⊢
    obtain ⟨o, r, rfl, h⟩ := h
    exact ⟨o, _, rfl, OwE.setσ (i := i) h (by simpa using e)⟩
  | some t :: en, σ, B, i + 1, o', h, e => by
    simp only [OwE] at h ⊢
    obtain ⟨w, r, qs, C, rfl, rfl, h1, h⟩ := h
    exact ⟨w, _, qs, C, rfl, rfl, h1, OwE.setσ (i := i) h (by simpa using e)⟩
theorem OwE.append : ∀ {en en2 : En} {σ σ2 : L2.St} {A B : List Addr}, OwE K mg F H en σ A → OwE K mg F H en2 σ2 B → OwE K mg F H (en ++ en2) (σ ++ σ2) (A ++ B)
  | [], en2, σ, σ2, A, B, h, q => by
    simp only [OwE] at h
    obtain ⟨rfl, rfl⟩ := h
    exact q
  | none :: en, en2, σ, σ2, A, B, h, q => by
    simp only [OwE] at h
    obtain ⟨o, r, rfl, h⟩ := h
    simp only [List.cons_append, OwE]
    exact ⟨o, _, rfl, OwE.append h q⟩
  | some t :: en, en2, σ, σ2, A, B, h, q => by
    simp only [OwE] at h
    obtain ⟨v, r, ps, C, rfl, rfl, h1, h⟩ := h
    simp only [List.cons_append, OwE]
    exact ⟨v, _, ps, C ++ B, rfl, by rw [List.append_assoc], h1, OwE.append h q⟩
theorem OwE.nones : ∀ n : Nat, OwE K mg F H (List.replicate n none) (List.replicate n none) []
  | 0 => by simp [OwE]
  | n + 1 => by simp only [List.replicate_succ, OwE]; exact ⟨_, _, rfl, OwE.nones n⟩

/-- the state, read as data -/
structure Sok (K : PySem.W.Frag) (mg : Str → Option Value) (F H : Hp) (σ : L2.St) (en : En) (A : List Addr) : Prop where
  sub : ∀ a o, F a = some o → H a = some o
  ow : ∃ A0 : List Addr, A0.Perm A ∧ OwE K mg F H en σ A0
  nd : A.Nodup
theorem Sok.len (x : Sok K mg F H σ en A) : σ.length = en.length := let ⟨_, _, h⟩ := x.ow; h.len
theorem Sok.here (x : Sok K mg F H σ en A) : ∀ q, q ∈ A → F q = none ∧ H q ≠ none := fun q hq => by
  obtain ⟨A0, p, h⟩ := x.ow
  exact h.here q (p.mem_iff.mpr hq)
theorem getE_some {en : En} {i : Nat} {s : S} (h : getE en i = some s) : en[i]? = some (some s) := by
  unfold getE at h
  cases e : en[i]? with
  | none => rw [e] at h; cases h
  | some o => rw [e] at h; simp at h; rw [h]
theorem Sok.own (x : Sok K mg F H σ en A) (e : getE en i = some s) : ∃ v ps, σ[i]? = some (some v) ∧ Own K mg F H s v ps ∧ ∀ q, q ∈ ps → q ∈ A := by
  obtain ⟨A0, p, h⟩ := x.ow
  obtain ⟨v, ps, B, e1, e2, e3, e4⟩ := h.take (getE_some e)
  exact ⟨v, ps, e1, e3, fun q hq => p.mem_iff.mp (e2.mem_iff.mpr (List.mem_append_left _ hq))⟩
theorem Sok.take (x : Sok K mg F H σ en A) (e : getE en i = some s) : ∃ v ps B, σ[i]? = some (some v) ∧ Own K mg F H s v ps ∧ Sok K mg F H σ (en.set i none) B ∧ A.Perm (ps ++ B) := by
  obtain ⟨A0, p, h⟩ := x.ow
  obtain ⟨v, ps, B, e1, e2, e3, e4⟩ := h.take (getE_some e)
  have pp := p.symm.trans e2
  exact ⟨v, ps, B, e1, e3, ⟨x.sub, ⟨B, .refl _, e4⟩, (List.nodup_append.mp (pp.nodup_iff.mp x.nd)).2.1⟩, pp⟩
theorem Sok.drop (x : Sok K mg F H σ en A) (i : Nat) : ∃ B, Sok K mg F H σ (en.set i none) B ∧ ∀ q, q ∈ B → q ∈ A := by
  obtain ⟨A0, p, h⟩ := x.ow
  obtain ⟨B, e1, e2⟩ := h.drop (i := i)
  exact ⟨B, ⟨x.sub, ⟨B, .refl _, e2⟩, e1.nodup (p.nodup_iff.mpr x.nd)⟩, fun q hq => p.mem_iff.mp (e1.subset hq)⟩
/-- a name is stored -/
theorem Sok.set (x : Sok K mg F H σ en A) (q : Own K mg F H s v ps) (nd : (ps ++ A).Nodup) (hi : i < en.length) :
    ∃ B, Sok K mg F H (σ.set i (some v)) (en.set i (some s)) B ∧ ∀ a, a ∈ B → a ∈ ps ++ A := by
  obtain ⟨A0, p, h⟩ := x.ow
  obtain ⟨B, e1, e2⟩ := h.drop (i := i)
  obtain ⟨C, e3, e4⟩ := e2.put (i := i) (s := s) (v := v) (ps := ps) (by rw [List.getElem?_set_self hi]) q
  have nd0 : (ps ++ A0).Nodup := (List.Perm.append_left ps p).nodup_iff.mpr nd
  have sl : (ps ++ B).Sublist (ps ++ A0) := List.Sublist.append (.refl _) e1
  refine ⟨C, ⟨x.sub, ⟨C, .refl _, by rw [List.set_set] at e4; exact e4⟩, e3.nodup_iff.mpr (sl.nodup nd0)⟩, fun a ha => ?_⟩
  have z := sl.subset (e3.mem_iff.mp ha)
  rcases List.mem_append.mp z with z | z
  · exact List.mem_append_left _ z
  · exact List.mem_append_right _ (p.mem_iff.mp z)
/-- .. where the slot's value stays -/
theorem Sok.setD (x : Sok K mg F H σ en A) (q : Own K mg F H s v ps) (nd : (ps ++ A).Nodup) (hv : σ[i]? = some (some v)) :
    ∃ B, Sok K mg F H σ (en.set i (some s)) B ∧ ∀ a, a ∈ B → a ∈ ps ++ A := by
  have hi : i < en.length := by rw [← x.len]; exact (List.getElem?_eq_some_iff.mp hv).1
  obtain ⟨B, e1, e2⟩ := x.set q nd hi
  have e : σ.set i (some v) = σ := by
    apply List.ext_getElem?
    intro j
    by_cases hj : i = j
    · subst hj; rw [List.getElem?_set_self (by rw [x.len]; exact hi), hv]
    · rw [List.getElem?_set_ne hj]
  rw [e] at e1
  exact ⟨B, e1, e2⟩
theorem Sok.gone (x : Sok K mg F H σ en A) (i : Nat) (o : Option V) : ∃ B, Sok K mg F H (σ.set i o) (en.set i none) B ∧ ∀ q, q ∈ B → q ∈ A := by
  obtain ⟨B, e1, e2⟩ := x.drop i
  obtain ⟨A0, p, h⟩ := e1.ow
  by_cases hi : i < en.length
  · exact ⟨B, ⟨e1.sub, ⟨A0, p, h.setσ (by rw [List.getElem?_set_self hi])⟩, e1.nd⟩, e2⟩
  · refine ⟨B, ?_, e2⟩
    rw [List.set_eq_of_length_le (by rw [x.len]; omega)]
    exact e1
/-- behind work elsewhere -/
theorem Sok.go (x : Sok K mg F H σ en A) (g : Go F H C F' H' B) (sub : ∀ a o, F' a = some o → H' a = some o) (dis : ∀ a, a ∈ A → a ∉ C) : Sok K mg F' H' σ en A := by
  obtain ⟨A0, p, h⟩ := x.ow
  refine ⟨sub, ⟨A0, p, h.keep g.f fun q hq => ?_⟩, x.nd⟩
  have hA := p.mem_iff.mp hq
  obtain ⟨f0, h0⟩ := x.here q hA
  obtain ⟨o, ho⟩ := Option.ne_none_iff_exists'.mp h0
  refine ⟨?_, by rw [ho]; exact g.h q o (dis q hA) ho⟩
  cases e : F' q with
  | none => rfl
  | some u =>
    rcases g.n q (by rw [e]; simp) with z | z | z
    · exact absurd f0 z
    · exact absurd z h0
    · exact absurd z (dis q hA)
theorem Own.go (x : Own K mg F H s v ps) (g : Go F H C F' H' B) (dis : ∀ a, a ∈ ps → a ∉ C) : Own K mg F' H' s v ps := by
  refine x.keep g.f fun q hq => ?_
  obtain ⟨f0, h0⟩ := x.here q hq
  obtain ⟨o, ho⟩ := Option.ne_none_iff_exists'.mp h0
  refine ⟨?_, by rw [ho]; exact g.h q o (dis q hq) ho⟩
  cases e : F' q with
  | none => rfl
  | some u =>
    rcases g.n q (by rw [e]; simp) with z | z | z
    · exact absurd f0 z
    · exact absurd z h0
    · exact absurd z (dis q hq)
theorem OwE.go (x : OwE K mg F H en σ A) (g : Go F H C F' H' B) (dis : ∀ a, a ∈ A → a ∉ C) : OwE K mg F' H' en σ A := by
  refine x.keep g.f fun q hq => ?_
  obtain ⟨f0, h0⟩ := x.here q hq
  obtain ⟨o, ho⟩ := Option.ne_none_iff_exists'.mp h0
  refine ⟨?_, by rw [ho]; exact g.h q o (dis q hq) ho⟩
  cases e : F' q with
  | none => rfl
  | some u =>
    rcases g.n q (by rw [e]; simp) with z | z | z
    · exact absurd f0 z
    · exact absurd z h0
    · exact absurd z (dis q hq)
/-- what is owned elsewhere is not among what is owned now -/
theorem dis_go (g : Go F H A F' H' B) (hq : ∀ a, a ∈ ps → a ∉ A) (hh : ∀ a, a ∈ ps → H a ≠ none) : ∀ a, a ∈ ps → a ∉ B := fun a ha hb => by
  rcases g.b a hb with z | z
  · exact hq a ha z
  · exact hh a ha z
theorem nodup_dis {l m : List Addr} (h : (l ++ m).Nodup) : ∀ a, a ∈ l → a ∉ m := fun a h1 h2 => (List.nodup_append.mp h).2.2 a h1 a h2 rfl
theorem nodup_mk {l m : List Addr} (h1 : l.Nodup) (h2 : m.Nodup) (h : ∀ a, a ∈ l → a ∉ m) : (l ++ m).Nodup :=
  List.nodup_append.mpr ⟨h1, h2, fun a ha b hb e => h a ha (e ▸ hb)⟩
/-- a name is frozen -/
theorem Sok.freeze (x : Sok K mg F H σ en A) (e : getE en i = some s) : ∃ v F' B, σ[i]? = some (some v) ∧ Den K mg F' (fz s) v ∧ Sok K mg F' H σ (en.set i (some (.dat (fz s)))) B ∧ Go F H A F' H B := by
  obtain ⟨v, ps, B, e1, e2, e3, e4⟩ := x.take e
  have hq := e2.here
  have nd := e4.nodup_iff.mp x.nd
  have g : Go F H A (frz F H ps) H B := by
    refine ⟨frz_f fun q z => (hq q z).1, fun _ _ _ z => z, fun a z => ?_, fun a z => .inl (e4.mem_iff.mpr (List.mem_append_right _ z))⟩
    by_cases ha : a ∈ ps
    · exact .inr (.inr (e4.mem_iff.mpr (List.mem_append_left _ ha)))
    · unfold frz at z; rw [if_neg ha] at z; exact .inl z
  have d := e2.fz
  have sub : ∀ a o, frz F H ps a = some o → H a = some o := fun a o z => by
    unfold frz at z
    by_cases ha : a ∈ ps
    · rw [if_pos ha] at z; exact z
    · rw [if_neg ha] at z; exact x.sub a o z
  have g2 : Go F H ps (frz F H ps) H [] := by
    refine ⟨g.f, fun _ _ _ z => z, fun a z => ?_, fun a z => nomatch z⟩
    by_cases ha : a ∈ ps
    · exact .inr (.inr ha)
    · unfold frz at z; rw [if_neg ha] at z; exact .inl z
  have y : Sok K mg (frz F H ps) H σ (en.set i none) B := e3.go g2 sub fun a ha hb => nodup_dis nd a hb ha
  have o : Own K mg (frz F H ps) H (.dat (fz s)) v [] := ⟨rfl, d⟩
  obtain ⟨C, e5, e6⟩ := y.setD o (by simpa using y.nd) e1
  rw [List.set_set] at e5
  exact ⟨v, frz F H ps, C, e1, d, e5, g.sub fun a ha => by simpa using e6 a ha⟩
/-- new objects beside the state -/
theorem Sok.grown (x : Sok K mg F H σ en A) (g : Go F H [] F' H' ps) (sub : ∀ a o, F' a = some o → H' a = some o) (nd : ps.Nodup) : Sok K mg F' H' σ en A ∧ (ps ++ A).Nodup ∧ Go F H A F' H' (ps ++ A) := by
  refine ⟨x.go g sub fun _ _ z => (nomatch z), nodup_mk nd x.nd fun a h1 h2 => ?_, ?_⟩
  · rcases g.b a h1 with z | z
    · cases z
    · exact (x.here a h2).2 z
  · have := g.frame (C := A)
    rw [List.append_nil] at this
    exact this.sub fun a ha => by
      rcases List.mem_append.mp ha with z | z
      · exact List.mem_append_right _ z
      · exact List.mem_append_left _ z
end
end Eng

set_option Elab.async false
set_option linter.all false
set_option maxRecDepth 100000
set_option maxHeartbeats 4000000
namespace Eng
open PySem PySem.Spec PyProof.Rows L2
/-! ### the library's level: what was lacking -/
theorem tuple_mul1 (l : Addr) (items : Array Value) (n : Nat) (dd : Option Addr) (sl : Array (Option Value)) (u : Tok) :
    Meets (Builtin.«tuple.__mul__» ⟨[.ref l, .int 1 u], []⟩) (fun _ R s => s.heap.get? l = some { cls := .type "tuple", dict := dd, data := .seq items n, slots := sl } ∧ R (.ok (.ret (Value.ref l))) s) :=
  .of_wp fun prog w A R s h => by
    obtain ⟨hp, g, d, tk, os⟩ := s
    obtain ⟨hl, h⟩ := h
    have f1 := AutoSeq1.idx_int
    have c1 : (items.isEmpty || (1 : Int) == 1) = true := by simp
    wp_walk using wpAny_loadPart' hl
    repeat (first
      | (refine wpAny_ite_false (decide_eq_false (by decide)) ?_; wp_walk using wpAny_loadPart' hl)
      | (refine wpAny_ite_true (decide_eq_true c1) ?_; wp_walk using wpAny_loadPart' hl))
    exact ⟨_, rfl, h⟩
section
variable {prog : Program} {w : World} {A : Around} {E : Value → Shared → Prop} {s : Shared} {l : Addr} {xs : Array (Int × Tok)} {its : List Value} {ns : List Int}
theorem iter_intTup {Q : Value → Shared → Prop} (hl : s.heap.IsTuple l (intItems xs))
    (h : ∀ s₂ : Shared, s₂ = { s with heap := s.heap.push { cls := .type "tuple_iterator", data := .fields #[.ref l, .int 0 0] } } →
      (IsTupIter s₂.heap s.heap.objs.size l 0 ∧ s₂.heap.IsTuple l (intItems xs)) → (∀ b ∈ [s.heap.objs.size, l], b < s₂.heap.objs.size) → l ≠ s.heap.objs.size → Q (.ref s.heap.objs.size) s₂) :
    wpAny (model prog w) A (pyIter (.ref l)) Q E s := by
  have hlt : l < s.heap.objs.size := by obtain ⟨_, e, _⟩ := hl; exact Heap.lt_size e
  refine wpAny_pyIter_tuple hl (h _ rfl ⟨⟨_, Heap.get?_push_size _ rfl, rfl, rfl⟩, IsTup.push hl _⟩ (fun b hb => ?_) (Nat.ne_of_lt hlt))
  show b < (s.heap.push _).objs.size
  rw [Heap.size_push]
  rcases List.mem_cons.mp hb with rfl | hb
  · exact Nat.lt_succ_self _
  · rcases List.mem_cons.mp hb with rfl | hb
    · exact Nat.lt_succ_of_lt hlt
    · cases hb
theorem old_keptT {h' : Heap} (hk : ∀ b o, b ∉ [s.heap.objs.size] → (s.heap.push { cls := .type "tuple_iterator", data := .fields #[.ref l, .int 0 0] }).get? b = some o → h'.get? b = some o) :
    ∀ b o, s.heap.get? b = some o → h'.get? b = some o := fun b o e => by
  refine hk b o (fun hm => ?_) (Heap.get?_push_of_some _ e)
  rcases List.mem_cons.mp hm with e1 | hm
  · exact absurd (e1 ▸ Heap.lt_size e) (Nat.lt_irrefl _)
  · cases hm
theorem sum_rawT {Q : Value → Shared → Prop} (hh : A.handled = none) (hl : s.heap.IsTuple l its.toArray) (hi : IntsAre its ns)
    (h : ∀ h' tk t', (∀ b o, s.heap.get? b = some o → h'.get? b = some o) → Q (.int ns.sum t') { s with heap := h', toks := tk }) : wpAny (model prog w) A (call (.builtin "sum") [.ref l]) Q E s := by
  obtain ⟨xs, e⟩ := hi.allInts.items
  have hn : numsOf (intItems xs).toList = ns := by rw [← e]; exact hi.numsOf
  rw [nums_intItems] at hn
  rw [e] at hl
  refine call_sum_walkG (iter_intTup hl fun s₂ e st hfp hlI => ?_)
  subst e
  refine ⟨_, _, _, _, _, _, numAt xs, rfl, Walks.tuple (A := A.in1) hh _ l hlI (intItems xs), st, hfp, (fun _ _ => intItems_at), fun h' tk t' hk => ?_⟩
  have := h h' tk t' (old_keptT hk)
  rw [← hn] at this
  have e2 : preSum (numAt xs) xs.size = (xs.toList.map (·.1)).sum := by rw [preSum_eq, List.take_of_length_le (by simp)]
  rw [show (intItems xs).size = xs.size by simp [intItems], e2]
  exact this
theorem max_rawT {Q : Value → Shared → Prop} (hh : A.handled = none) (hl : s.heap.IsTuple l its.toArray) (hi : IntsAre its ns) (hne : 0 < ns.length)
    (h : ∀ h' tk M t', (∀ b o, s.heap.get? b = some o → h'.get? b = some o) → M ∈ ns → (∀ a, a ∈ ns → a ≤ M) → Q (.int M t') { s with heap := h', toks := tk }) : wpAny (model prog w) A (call (.builtin "max") [.ref l]) Q E s := by
  obtain ⟨xs, e⟩ := hi.allInts.items
  have hn : numsOf (intItems xs).toList = ns := by rw [← e]; exact hi.numsOf
  rw [nums_intItems] at hn
  subst hn
  rw [e] at hl
  have hsz : 0 < xs.size := by simpa using hne
  refine call_max_walk (iter_intTup hl fun s₂ e st hfp hlI => ?_)
  subst e
  refine ⟨_, _, _, _, _, _, _, rfl, Walks.tuple (A := A.in1) hh _ l hlI (intItems xs), st, hfp, by simpa [intItems] using hsz, CmpOf.ints_gt (numAt xs) (fun _ _ => intItems_at), fun v h' tk hP hk => ?_⟩
  have hP : (intItems xs)[argBest (fun i j => decide (numAt xs i > numAt xs j)) (xs.size - 1)]? = some v := by simpa [intItems] using hP
  obtain ⟨t, rfl⟩ := intItems_at hP
  obtain ⟨h1, h2⟩ := argBest_gt (numAt xs) (xs.size - 1)
  refine h h' tk _ t (old_keptT hk) ?_ fun a ha => ?_
  · rw [numAt_eq]; exact PySem.getD_mem (by rw [List.length_map, Array.length_toList]; omega)
  · obtain ⟨j, hj, rfl⟩ := mem_getD ha
    rw [List.length_map, Array.length_toList] at hj
    rw [← numAt_eq]; exact h2 j (by omega)
theorem min_rawT {Q : Value → Shared → Prop} (hh : A.handled = none) (hl : s.heap.IsTuple l its.toArray) (hi : IntsAre its ns) (hne : 0 < ns.length)
    (h : ∀ h' tk M t', (∀ b o, s.heap.get? b = some o → h'.get? b = some o) → M ∈ ns → (∀ a, a ∈ ns → M ≤ a) → Q (.int M t') { s with heap := h', toks := tk }) : wpAny (model prog w) A (call (.builtin "min") [.ref l]) Q E s := by
  obtain ⟨xs, e⟩ := hi.allInts.items
  have hn : numsOf (intItems xs).toList = ns := by rw [← e]; exact hi.numsOf
  rw [nums_intItems] at hn
  subst hn
  rw [e] at hl
  have hsz : 0 < xs.size := by simpa using hne
  refine call_min_walk (iter_intTup hl fun s₂ e st hfp hlI => ?_)
  subst e
  refine ⟨_, _, _, _, _, _, _, rfl, Walks.tuple (A := A.in1) hh _ l hlI (intItems xs), st, hfp, by simpa [intItems] using hsz, CmpOf.ints_lt (numAt xs) (fun _ _ => intItems_at), fun v h' tk hP hk => ?_⟩
  have hP : (intItems xs)[argBest (fun i j => decide (numAt xs i < numAt xs j)) (xs.size - 1)]? = some v := by simpa [intItems] using hP
  obtain ⟨t, rfl⟩ := intItems_at hP
  obtain ⟨h1, h2⟩ := argBest_lt (numAt xs) (xs.size - 1)
  refine h h' tk _ t (old_keptT hk) ?_ fun a ha => ?_
  · rw [numAt_eq]; exact PySem.getD_mem (by rw [List.length_map, Array.length_toList]; omega)
  · obtain ⟨j, hj, rfl⟩ := mem_getD ha
    rw [List.length_map, Array.length_toList] at hj
    rw [← numAt_eq]; exact h2 j (by omega)
end
abbrev Sub (F H : Hp) : Prop := ∀ a o, F a = some o → H a = some o
section
variable {K : PySem.W.Frag} {mg : Str → Option Value} {F H F' H' : Hp} {A ps : List Addr} {s : S} {v : V} {ds : List D}

theorem SZ_eq : SZ = sizeLine := by rw [sizeLine_eq]; rfl
theorem upd_sub (n : H p = none) (sb : Sub F H) (o : HO) : Sub (upd F p o) (upd H p o) := fun a u e => by
  by_cases h : a = p
  · subst h; rw [upd_same] at e ⊢; exact e
  · rw [upd_ne h] at e ⊢; exact sb a u e
theorem sub_none (n : H p = none) (sb : Sub F H) : F p = none := by
  cases e : F p with
  | none => rfl
  | some o => rw [sb p o e] at n; cases n
theorem upd_f (n : F p = none) (o : HO) : ∀ a u, F a = some u → upd F p o a = some u := fun a u e => by
  rw [upd_ne (ne_of_none e n)]; exact e
/-- a new frozen object -/
theorem go_frz {p : Addr} (n : H p = none) (sb : Sub F H) (o : HO) : Go F H [] (upd F p o) (upd H p o) [] :=
  ⟨upd_f (sub_none n sb) o, fun a u _ e => upd_f n o a u e, fun a e => by
    by_cases h : a = p
    · subst h; exact .inr (.inl n)
    · rw [upd_ne h] at e; exact .inl e, fun a z => nomatch z⟩
/-- a new owned object -/
theorem go_own {p : Addr} (n : H p = none) (o : HO) : Go F H [] F (upd H p o) [p] :=
  ⟨fun _ _ e => e, fun a u _ e => upd_f n o a u e, fun a e => .inl e, fun a z => by
    obtain rfl : a = p := by simpa using z
    exact .inr n⟩
theorem sub_own {p : Addr} (n : H p = none) (sb : Sub F H) (o : HO) : Sub F (upd H p o) := fun a u e => upd_f n o a u (sb a u e)
theorem new_tup {p : Addr} {vs : List V} (n : H p = none) (sb : Sub F H) (d : Dens K mg F ds vs) : Own K mg (upd F p (.tup vs)) (upd H p (.tup vs)) (.dat (.tup ds)) (.ref p) [] :=
  ⟨rfl, by simp only [Den]; exact ⟨p, vs, rfl, .of upd_same, Dens.mono (upd_f (sub_none n sb) _) _ _ d⟩⟩
theorem new_lst {p : Addr} {vs : List V} (n : H p = none) (sb : Sub F H) (d : Dens K mg F ds vs) : Own K mg F (upd H p (.lst vs)) (.ml ds) (.ref p) [p] :=
  ⟨p, vs, rfl, rfl, sub_none n sb, upd_same, d⟩

/-- wanted of a value r that an operation gives -/
def Out (K : PySem.W.Frag) (mg : Str → Option Value) (F H : Hp) (r : S) (Q : VK) : Prop :=
  ∀ v F' H' ps, Go F H [] F' H' ps → Sub F' H' → Own K mg F' H' r v ps → ps.Nodup → Q v H'
theorem Out.here {r : S} {Q : VK} {v : V} (q : Out K mg F H r Q) (sb : Sub F H) (o : Own K mg F H r v []) : Q v H := q v F H [] ⟨fun _ _ e => e, fun _ _ _ e => e, fun _ e => .inl e, fun _ e => nomatch e⟩ sb o List.nodup_nil
theorem Out.dat {d : D} {Q : VK} {v : V} (q : Out K mg F H (.dat d) Q) (sb : Sub F H) (o : Den K mg F d v) : Q v H := q.here sb ⟨rfl, o⟩
theorem Out.tup {Q : VK} {vs : List V} (q : Out K mg F H (.dat (.tup ds)) Q) (sb : Sub F H) (d : Dens K mg F ds vs) : ∀ p, H p = none → Q (.ref p) (upd H p (.tup vs)) := fun p n =>
  q _ _ _ _ (go_frz n sb _) (upd_sub n sb _) (new_tup n sb d) List.nodup_nil
theorem Out.lst {Q : VK} {vs : List V} (q : Out K mg F H (.ml ds) Q) (sb : Sub F H) (d : Dens K mg F ds vs) : ∀ p, H p = none → Q (.ref p) (upd H p (.lst vs)) := fun p n =>
  q _ _ _ _ (go_own n _) (sub_own n sb _) (new_lst n sb d) (by simp)

theorem Own.vM (h : Own K mg F H s v ps) (sb : Sub F H) (e : vM s = some ds) : ∃ a vs, v = .ref a ∧ H a = some (.lst vs) ∧ Dens K mg F ds vs := by
  cases s with
  | ml es =>
    obtain ⟨p, vs, rfl, rfl, h1, h2, h3⟩ := h
    simp only [Eng.vM, Option.some.injEq] at e; subst e
    exact ⟨p, vs, rfl, h2, h3⟩
  | dat d =>
    obtain ⟨rfl, h⟩ := h
    cases d with
    | lst es =>
      simp only [Eng.vM, Option.some.injEq] at e; subst e
      simp only [Den] at h
      obtain ⟨a, vs, rfl, h1, h2⟩ := h
      exact ⟨a, vs, rfl, sb _ _ h1, h2⟩
    | _ => simp [Eng.vM] at e
  | _ => simp [Eng.vM] at e
theorem Own.vL (h : Own K mg F H s v ps) (sb : Sub F H) (e : vL s = some ds) : ∃ a vs, v = .ref a ∧ SqL K H a vs ∧ Dens K mg F ds vs := by
  cases s with
  | ml es =>
    obtain ⟨p, vs, rfl, rfl, h1, h2, h3⟩ := h
    simp only [Eng.vL, Option.some.injEq] at e; subst e
    exact ⟨p, vs, rfl, .of h2, h3⟩
  | dat d =>
    obtain ⟨rfl, h⟩ := h
    cases d with
    | lst es =>
      simp only [Eng.vL, Option.some.injEq] at e; subst e
      simp only [Den] at h
      obtain ⟨a, vs, rfl, h1, h2⟩ := h
      exact ⟨a, vs, rfl, .of (sb _ _ h1), h2⟩
    | scr ns =>
      simp only [Eng.vL, Option.some.injEq] at e; subst e
      simp only [Den] at h
      obtain ⟨a, rfl, h1⟩ := h
      exact ⟨a, _, rfl, SqL_mono sb h1, Dens.ofInts ns⟩
    | _ => simp [Eng.vL] at e
  | _ => simp [Eng.vL] at e
theorem Own.vT (h : Own K mg F H s v ps) (sb : Sub F H) (e : vT s = some ds) : ∃ a vs, v = .ref a ∧ SqT K H a vs ∧ Dens K mg F ds vs := by
  cases s with
  | dat d =>
    obtain ⟨rfl, h⟩ := h
    cases d with
    | tup es =>
      simp only [Eng.vT, Option.some.injEq] at e; subst e
      simp only [Den] at h
      obtain ⟨a, vs, rfl, h1, h2⟩ := h
      exact ⟨a, vs, rfl, SqT_mono sb h1, h2⟩
    | _ => simp [Eng.vT] at e
  | _ => simp [Eng.vT] at e
theorem Own.vSq (h : Own K mg F H s v ps) (sb : Sub F H) (e : vSq s = some ds) : ∃ a vs, v = .ref a ∧ (SqL K H a vs ∨ SqT K H a vs) ∧ Dens K mg F ds vs := by
  cases s with
  | ml es =>
    obtain ⟨a, vs, h1, h2, h3⟩ := h.vL sb (ds := ds) (by simpa [Eng.vSq, Eng.vL] using e)
    exact ⟨a, vs, h1, .inl h2, h3⟩
  | dat d =>
    cases d with
    | lst es =>
      obtain ⟨a, vs, h1, h2, h3⟩ := h.vL sb (ds := ds) (by simpa [Eng.vSq, Eng.vL] using e)
      exact ⟨a, vs, h1, .inl h2, h3⟩
    | scr es =>
      obtain ⟨a, vs, h1, h2, h3⟩ := h.vL sb (ds := ds) (by simpa [Eng.vSq, Eng.vL] using e)
      exact ⟨a, vs, h1, .inl h2, h3⟩
    | tup es =>
      obtain ⟨a, vs, h1, h2, h3⟩ := h.vT sb (ds := ds) (by simpa [Eng.vSq, Eng.vT] using e)
      exact ⟨a, vs, h1, .inr h2, h3⟩
    | _ => simp [Eng.vSq] at e
  | _ => simp [Eng.vSq] at e
theorem Own.int {i : Int} (h : Own K mg F H (.dat (.int i)) v ps) : v = .int i := by
  have := h.2; simp only [Den] at this; exact this
theorem Own.bl {i : Bool} (h : Own K mg F H (.dat (.bl i)) v ps) : v = .bl i := by
  have := h.2; simp only [Den] at this; exact this
theorem Own.str {i : Str} (h : Own K mg F H (.dat (.str i)) v ps) : v = .str i := by
  have := h.2; simp only [Den] at this; exact this
theorem Own.non (h : Own K mg F H (.dat .non) v ps) : v = .non := by
  have := h.2; simp only [Den] at this; exact this
theorem denI {i : Int} : Den K mg F (.int i) (.int i) := by simp only [Den]
theorem denB {i : Bool} : Den K mg F (.bl i) (.bl i) := by simp only [Den]
theorem denS {i : Str} : Den K mg F (.str i) (.str i) := by simp only [Den]
theorem denN : Den K mg F .non .non := by simp only [Den]
end

/-! ### binary operators -/
def r2 (K : PySem.W.Frag) (mg : Str → Option Value) (f : S → S → Option S) : R2 := fun x y H Q => ∃ F s1 s2 ps1 ps2 r, Sub F H ∧ Own K mg F H s1 x ps1 ∧ Own K mg F H s2 y ps2 ∧ f s1 s2 = some r ∧ Out K mg F H r Q
section
variable {X : Cx} {mg : Str → Option Value}
theorem OpR.cases {f : Value → Value → Sem Value} {r : R2} (h : ∀ x y H Q, r x y H Q → ∃ r', OpR X f r' ∧ r' x y H Q) : OpR X f r := by
  intro pins s σ H x y v u Q I rx ry q
  obtain ⟨r', h1, h2⟩ := h x y H Q q
  exact h1 pins s σ H x y v u Q I rx ry h2
theorem log2_bound {i : Int} : i.natAbs < 2 ^ (i.natAbs.log2 + 1) := Nat.lt_log2_self
theorem Dens.flat {K : PySem.W.Frag} {F : Hp} {ds : List D} {vs : List V} (h : Dens K mg F ds vs) : ∀ k : Nat, Dens K mg F (List.replicate k ds).flatten (List.replicate k vs).flatten
  | 0 => Dens.nil
  | k + 1 => by
    rw [List.replicate_succ, List.replicate_succ, List.flatten_cons, List.flatten_cons]
    exact Dens.append h (Dens.flat h k)
theorem ifs {c : Prop} [Decidable c] {α : Type} {a : Option α} {r : α} (h : (if c then a else none) = some r) : c ∧ a = some r := by
  split at h
  · rename_i hc; exact ⟨hc, h⟩
  · cases h
theorem op_add1 : OpR X (binaryOp .Add) (r2 X.K mg addS) := by
  refine OpR.cases fun x y H Q ⟨F, s1, s2, ps1, ps2, r, sb, o1, o2, e, q⟩ => ?_
  unfold addS at e
  split at e
  · cases e
    rw [o1.int, o2.int]
    exact ⟨_, op_add, _, _, rfl, rfl, q.dat sb denI⟩
  · obtain ⟨hc, e⟩ := ifs e
    cases e
    rw [o1.str, o2.str]
    exact ⟨_, op_add_str, _, _, rfl, rfl, by rw [← SZ_eq]; exact hc, q.dat sb denS⟩
  · rename_i i j
    obtain ⟨hc, e⟩ := ifs e
    cases e
    obtain ⟨a, vs, rfl, h1, d1⟩ := o1.vT sb rfl
    obtain ⟨b, ws, rfl, h2, d2⟩ := o2.vT sb rfl
    refine ⟨_, op_catA, a, b, vs, ws, rfl, rfl, h1, h2, by rw [d1.len, d2.len, ← SZ_eq]; exact hc, fun e0 => ?_, fun _ e0 => ?_, fun _ _ => q.tup sb (d1.append d2)⟩
    · have : i = [] := by have := d1.len; rw [e0] at this; simpa using this.symm
      subst this
      exact q.dat sb o2.2
    · have : j = [] := by have := d2.len; rw [e0] at this; simpa using this.symm
      subst this
      rw [List.append_nil] at q
      exact q.dat sb o1.2
  · split at e
    · rename_i xs ys e1 e2
      obtain ⟨hc, e⟩ := ifs e
      cases e
      obtain ⟨a, vs, rfl, h1, d1⟩ := o1.vM sb e1
      obtain ⟨b, ws, rfl, h2, d2⟩ := o2.vM sb e2
      exact ⟨_, op_cat, a, b, vs, ws, rfl, rfl, h1, h2, by rw [d1.len, d2.len, ← SZ_eq]; exact hc, q.lst sb (d1.append d2)⟩
    · cases e
theorem op_repT1 : OpR X (binaryOp .Mult) (fun x y H Q => ∃ l xs, x = .ref l ∧ y = .int 1 ∧ SqT X.K H l xs ∧ Q (.ref l) H) := by
  intro pins s σ H x y v u Q I rx ry h
  obtain ⟨l, xs, rfl, rfl, hT, q⟩ := h
  cases rx
  obtain ⟨t, rfl⟩ := ry
  obtain ⟨its, r, ⟨⟨cls, dd, data, sl⟩, ho, hc, n, hd⟩, hs⟩ := I.tuple hT
  simp only at hc hd
  subst hc hd
  refine wpAny_binaryOp_repeat_ref (T := "tuple") (U := "int") (by decide) ⟨_, ho, rfl⟩ (fun s' => typeIs_int s' 1 t) noFill_tuple_mul F.fills_int_mul F.slot_int_rmul repeat_tuple F.slot_int_index.lookup
    (call_meets F.slot_int_rmul (typeIs_int s 1 t) F.entry_int_rmul (F.args_int_rmul_2 _ _) (int_rmul_tuple 1 t l its.toArray n dd sl)
      ⟨ho, rfl, ⟨_, ho, rfl⟩, call_meets F.slot_tuple_mul ⟨_, ho, rfl⟩ F.entry_tuple_mul (F.args_tuple_mul_2 _ _) (tuple_mul1 l its.toArray n dd sl t) ⟨ho, ⟨.ref l, H, I, rfl, q⟩⟩⟩)
theorem rep_one {α : Type} (l : List α) : (List.replicate (1 : Int).toNat l).flatten = l := by simp
theorem op_mul1 : OpR X (binaryOp .Mult) (r2 X.K mg mulS) := by
  refine OpR.cases fun x y H Q ⟨F, s1, s2, ps1, ps2, r, sb, o1, o2, e, q⟩ => ?_
  unfold mulS at e
  split at e
  · obtain ⟨hc, e⟩ := ifs e
    cases e
    rw [o1.int, o2.int]
    rcases hc with hc | hc
    · exact ⟨_, op_mulW, _, _, rfl, rfl, hc, q.dat sb denI⟩
    · exact ⟨_, op_mul, _, _, rfl, rfl, hc, q.dat sb denI⟩
  · rename_i i k
    obtain ⟨⟨h1, h2, h3, h4⟩, e⟩ := ifs e
    cases e
    obtain ⟨a, vs, rfl, s1, d1⟩ := o1.vT sb rfl
    rw [o2.int]
    have hv : vs ≠ [] := fun z => h1 (by have := d1.len; rw [z] at this; simpa using this.symm)
    by_cases hk : k = 1
    · subst hk
      rw [rep_one] at q
      exact ⟨_, op_repT1, a, vs, rfl, rfl, s1, q.dat sb o1.2⟩
    exact ⟨_, op_repT, a, k, vs, rfl, rfl, s1, hv, by omega, h3, by rw [d1.len]; exact h4, q.tup sb (d1.flat _)⟩
  · split at e
    · rename_i xs e1
      obtain ⟨⟨h1, h2, h3⟩, e⟩ := ifs e
      cases e
      obtain ⟨a, vs, rfl, s1, d1⟩ := o1.vM sb e1
      rw [o2.int]
      exact ⟨_, op_rep, a, _, vs, rfl, rfl, s1, by omega, h2, by rw [d1.len, ← SZ_eq]; exact h3, q.lst sb (d1.flat _)⟩
    · cases e
  · cases e
theorem op_bin {o : Operator} : OpR X (binaryOp o) (r2 X.K mg (binS o)) := by
  cases o with
  | Add => exact op_add1
  | Mult => exact op_mul1
  | Sub =>
    refine OpR.cases fun x y H Q ⟨F, s1, s2, ps1, ps2, r, sb, o1, o2, e, q⟩ => ?_
    simp only [binS] at e
    unfold subS at e
    split at e <;> (first | (cases e; done) | skip)
    cases e
    rw [o1.int, o2.int]
    exact ⟨_, op_sub, _, _, rfl, rfl, q.dat sb denI⟩
  | FloorDiv =>
    refine OpR.cases fun x y H Q ⟨F, s1, s2, ps1, ps2, r, sb, o1, o2, e, q⟩ => ?_
    simp only [binS] at e
    unfold fdvS at e
    split at e <;> (first | (cases e; done) | skip)
    obtain ⟨hc, e⟩ := ifs e
    cases e
    rw [o1.int, o2.int]
    exact ⟨_, op_fdivW, _, _, rfl, rfl, hc, q.dat sb denI⟩
  | Mod =>
    refine OpR.cases fun x y H Q ⟨F, s1, s2, ps1, ps2, r, sb, o1, o2, e, q⟩ => ?_
    simp only [binS] at e
    unfold modS at e
    split at e <;> (first | (cases e; done) | skip)
    obtain ⟨hc, e⟩ := ifs e
    cases e
    rw [o1.int, o2.int]
    exact ⟨_, op_mod, _, _, rfl, rfl, hc, q.dat sb denI⟩
  | Pow =>
    refine OpR.cases fun x y H Q ⟨F, s1, s2, ps1, ps2, r, sb, o1, o2, e, q⟩ => ?_
    simp only [binS] at e
    unfold powS at e
    split at e <;> (first | (cases e; done) | skip)
    obtain ⟨hc, e⟩ := ifs e
    cases e
    rw [o1.int, o2.int]
    exact ⟨_, op_pow, _, _, rfl, rfl, hc, q.dat sb denI⟩
  | _ => exact OpR.cases fun x y H Q ⟨F, s1, s2, ps1, ps2, r, sb, o1, o2, e, q⟩ => by simp [binS] at e
end

/-! ### comparisons -/
def rc (K : PySem.W.Frag) (mg : Str → Option Value) (f : S → S → Option Bool) : R2 := fun x y H Q => ∃ F s1 s2 ps1 ps2 b, Sub F H ∧ Own K mg F H s1 x ps1 ∧ Own K mg F H s2 y ps2 ∧ f s1 s2 = some b ∧ Q (.bl b) H
def pyD : D → PyData
  | .non => .none | .bl b => .bool b | .int i => .int i | .str x => .str x
  | .tup ds => .tuple (ds.map pyD) | .lst ds => .list (ds.map pyD) | .dct _ _ => .none | .fn _ => .none | .scr _ => .none
theorem shD_lay : ∀ (n : Nat) (d : D), shD n d = true → (pyD d).canLay0 = true ∧ (pyD d).depth ≤ n
  | n, .non, _ => by simp [pyD, PyData.canLay0, PyData.depth]
  | n, .bl _, _ => by simp [pyD, PyData.canLay0, PyData.depth]
  | n, .int _, _ => by simp [pyD, PyData.canLay0, PyData.depth]
  | n, .str x, h => by simp [pyD, PyData.canLay0, PyData.depth]; simpa [shD] using h
  | 0, .tup ds, h => by simp [shD] at h
  | 0, .lst ds, h => by simp [shD] at h
  | n + 1, .tup ds, h => by
    simp only [shD] at h
    have all : ∀ l : List D, (∀ d, d ∈ l → shD n d = true) → PyData.canLayAll0 (l.map pyD) = true ∧ PyData.depthAll (l.map pyD) ≤ n := by
      intro l
      induction l with
      | nil => intro _; simp [PyData.canLayAll0, PyData.depthAll]
      | cons a r ih =>
        intro hl
        obtain ⟨h1, h2⟩ := shD_lay n a (hl a List.mem_cons_self)
        obtain ⟨h3, h4⟩ := ih fun d hd => hl d (List.mem_cons_of_mem _ hd)
        simp only [List.map_cons, PyData.canLayAll0, PyData.depthAll, h1, h3, Bool.and_self, true_and]
        omega
    obtain ⟨h1, h2⟩ := all ds fun d hd => List.all_eq_true.mp h d hd
    rw [pyD, PyData.canLay0, PyData.depth]
    exact ⟨h1, by omega⟩
  | n + 1, .lst ds, h => by
    simp only [shD] at h
    have all : ∀ l : List D, (∀ d, d ∈ l → shD n d = true) → PyData.canLayAll0 (l.map pyD) = true ∧ PyData.depthAll (l.map pyD) ≤ n := by
      intro l
      induction l with
      | nil => intro _; simp [PyData.canLayAll0, PyData.depthAll]
      | cons a r ih =>
        intro hl
        obtain ⟨h1, h2⟩ := shD_lay n a (hl a List.mem_cons_self)
        obtain ⟨h3, h4⟩ := ih fun d hd => hl d (List.mem_cons_of_mem _ hd)
        simp only [List.map_cons, PyData.canLayAll0, PyData.depthAll, h1, h3, Bool.and_self, true_and]
        omega
    obtain ⟨h1, h2⟩ := all ds fun d hd => List.all_eq_true.mp h d hd
    rw [pyD, PyData.canLay0, PyData.depth]
    exact ⟨h1, by omega⟩
  | n, .dct _ _, h => by cases n <;> simp [shD] at h
  | n, .fn _, h => by cases n <;> simp [shD] at h
  | n, .scr _, h => by cases n <;> simp [shD] at h
mutual
theorem eqv_eqD : ∀ (a b : D) (n : Nat), shD n a = true → shD n b = true → PyData.eqv (pyD a) (pyD b) = eqD a b
  | .tup xs, b, n, h, h' => by
    cases b <;> cases n <;> simp only [shD, Bool.false_eq_true] at h h' <;> simp only [pyD, PyData.eqv, eqD]
    rename_i ys n
    exact eqv_eqDs xs ys n (fun d hd => List.all_eq_true.mp h d hd) fun d hd => List.all_eq_true.mp h' d hd
  | .lst xs, b, n, h, h' => by
    cases b <;> cases n <;> simp only [shD, Bool.false_eq_true] at h h' <;> simp only [pyD, PyData.eqv, eqD]
    rename_i ys n
    exact eqv_eqDs xs ys n (fun d hd => List.all_eq_true.mp h d hd) fun d hd => List.all_eq_true.mp h' d hd
  | .non, b, n, h, h' => by cases b <;> cases n <;> simp only [shD, Bool.false_eq_true] at h' <;> simp only [pyD, PyData.eqv, eqD]
  | .bl _, b, n, h, h' => by cases b <;> cases n <;> simp only [shD, Bool.false_eq_true] at h' <;> simp only [pyD, PyData.eqv, eqD]
  | .int _, b, n, h, h' => by cases b <;> cases n <;> simp only [shD, Bool.false_eq_true] at h' <;> simp only [pyD, PyData.eqv, eqD]
  | .str _, b, n, h, h' => by cases b <;> cases n <;> simp only [shD, Bool.false_eq_true] at h' <;> simp only [pyD, PyData.eqv, eqD]
  | .dct _ _, b, n, h, h' => by cases n <;> simp [shD] at h
  | .fn _, b, n, h, h' => by cases n <;> simp [shD] at h
  | .scr _, b, n, h, h' => by cases n <;> simp [shD] at h
theorem eqv_eqDs : ∀ (xs ys : List D) (n : Nat), (∀ d, d ∈ xs → shD n d = true) → (∀ d, d ∈ ys → shD n d = true) → PyData.eqvAll (xs.map pyD) (ys.map pyD) = eqDs xs ys
  | [], [], n, h, h' => by simp [PyData.eqvAll, eqDs]
  | [], _ :: _, n, h, h' => by simp [PyData.eqvAll, eqDs]
  | _ :: _, [], n, h, h' => by simp [PyData.eqvAll, eqDs]
  | x :: xs, y :: ys, n, h, h' => by
    simp only [List.map_cons, PyData.eqvAll, eqDs]
    rw [eqv_eqD x y n (h x List.mem_cons_self) (h' y List.mem_cons_self), eqv_eqDs xs ys n (fun d hd => h d (List.mem_cons_of_mem _ hd)) fun d hd => h' d (List.mem_cons_of_mem _ hd)]
end
section
variable {K : PySem.W.Frag} {mg : Str → Option Value} {F H : Hp}
mutual
theorem Den.dp (sb : Sub F H) : ∀ (d : D) (n : Nat) (v : V), shD n d = true → Den K mg F d v → Dp K H v (pyD d)
  | .non, n, v, h, d => by simp only [Den] at d; subst d; rw [pyD]; exact .non
  | .bl _, n, v, h, d => by simp only [Den] at d; subst d; rw [pyD]; exact .bl _
  | .int _, n, v, h, d => by simp only [Den] at d; subst d; rw [pyD]; exact .int _
  | .str _, n, v, h, d => by simp only [Den] at d; subst d; rw [pyD]; exact .str _
  | .tup ds, n, v, h, d => by
    cases n with
    | zero => simp [shD] at h
    | succ n =>
      simp only [Den] at d
      simp only [shD] at h
      obtain ⟨a, vs, rfl, s, q⟩ := d
      rw [pyD]
      exact .tup (SqT_mono sb s) (Dens.dp sb ds n vs (fun d hd => List.all_eq_true.mp h d hd) q)
  | .lst ds, n, v, h, d => by
    cases n with
    | zero => simp [shD] at h
    | succ n =>
      simp only [Den] at d
      simp only [shD] at h
      obtain ⟨a, vs, rfl, s, q⟩ := d
      rw [pyD]
      exact .lst (.of (sb _ _ s)) (Dens.dp sb ds n vs (fun d hd => List.all_eq_true.mp h d hd) q)
  | .dct _ _, n, v, h, d => by cases n <;> simp [shD] at h
  | .fn _, n, v, h, d => by cases n <;> simp [shD] at h
  | .scr _, n, v, h, d => by cases n <;> simp [shD] at h
theorem Dens.dp (sb : Sub F H) : ∀ (ds : List D) (n : Nat) (vs : List V), (∀ d, d ∈ ds → shD n d = true) → Dens K mg F ds vs → DpAll K H vs (ds.map pyD)
  | [], n, vs, h, d => by simp only [Dens] at d; subst d; exact .nil
  | x :: ds, n, vs, h, d => by
    simp only [Dens] at d
    obtain ⟨w, r, rfl, h1, h2⟩ := d
    exact .cons (Den.dp sb x n w (h x List.mem_cons_self) h1) (Dens.dp sb ds n r (fun d hd => h d (List.mem_cons_of_mem _ hd)) h2)
end
theorem Own.dp {s : S} {v : V} {ps : List Addr} (sb : Sub F H) (o : Own K mg F H s v ps) (h : shD 60 (Eng.fz s) = true) : Dp K H v (pyD (Eng.fz s)) := by
  cases s with
  | dat d => exact o.2.dp sb d 60 v h
  | ml ds =>
    obtain ⟨p, vs, rfl, rfl, h1, h2, h3⟩ := o
    simp only [Eng.fz, shD] at h
    rw [Eng.fz, pyD]
    exact .lst (.of h2) (Dens.dp sb ds 59 vs (fun d hd => List.all_eq_true.mp h d hd) h3)
  | md _ _ => simp [Eng.fz, shD] at h
  | mg rows =>
    obtain ⟨p, qs, rfl, rfl, h1, h2, h3⟩ := o
    simp only [Eng.fz, shD, List.all_map] at h
    rw [Eng.fz, pyD]
    refine .lst (.of h2) ?_
    have all : ∀ (rows : List (List D)) (qs : List Addr), (∀ r, r ∈ rows → shD 59 (.lst r) = true) → Rws K mg F H rows qs → DpAll K H (qs.map V.ref) ((rows.map D.lst).map pyD) := by
      intro rows
      induction rows with
      | nil => intro qs _ z; simp only [Rws] at z; subst z; exact .nil
      | cons r rs ih =>
        intro qs hl z
        simp only [Rws] at z
        obtain ⟨q, t, rfl, h1, ⟨vs, h2, h3⟩, h4⟩ := z
        refine .cons ?_ (ih t (fun r hr => hl r (List.mem_cons_of_mem _ hr)) h4)
        have hr := hl r List.mem_cons_self
        simp only [shD] at hr
        rw [pyD]
        exact .lst (.of h2) (Dens.dp sb r 58 vs (fun d hd => List.all_eq_true.mp hr d hd) h3)
    exact all rows qs (fun r hr => List.all_eq_true.mp h r hr) h3
end
theorem shaped_of {d : D} (h : shD 60 d = true) : SeqAt.shaped (pyD d) = true := by
  obtain ⟨h1, h2⟩ := shD_lay 60 d h
  unfold SeqAt.shaped
  rw [h1, Bool.true_and]
  exact decide_eq_true (by omega)
section
variable {X : Cx} {mg : Str → Option Value}
theorem eqS_some {a b : S} {r : Bool} (h : eqS a b = some r) : shD 60 (fz a) = true ∧ shD 60 (fz b) = true ∧ r = eqD (fz a) (fz b) := by
  unfold eqS at h
  split at h
  · rename_i hc
    simp only [Bool.and_eq_true] at hc
    exact ⟨hc.1, hc.2, (Option.some.inj h).symm⟩
  · cases h
theorem op_eq1 (hu : X.A.units + 64 < cLine) : OpR X (compareOp .Eq) (rc X.K mg eqS) := by
  refine OpR.cases fun x y H Q ⟨F, s1, s2, ps1, ps2, b, sb, o1, o2, e, q⟩ => ?_
  obtain ⟨h1, h2, rfl⟩ := eqS_some e
  refine ⟨_, op_eqD hu, _, _, o1.dp sb h1, o2.dp sb h2, shaped_of h1, shaped_of h2, ?_⟩
  rw [eqv_eqD _ _ 60 h1 h2]; exact q
theorem op_ne1 (hu : X.A.units + 64 < cLine) : OpR X (compareOp .NotEq) (rc X.K mg fun a b => (eqS a b).map not) := by
  refine OpR.cases fun x y H Q ⟨F, s1, s2, ps1, ps2, b, sb, o1, o2, e, q⟩ => ?_
  obtain ⟨r, e', rfl⟩ := Option.map_eq_some_iff.mp e
  obtain ⟨h1, h2, rfl⟩ := eqS_some e'
  refine ⟨_, op_neD hu, _, _, o1.dp sb h1, o2.dp sb h2, shaped_of h1, shaped_of h2, ?_⟩
  rw [eqv_eqD _ _ 60 h1 h2]; exact q
theorem flat_V {K : PySem.W.Frag} {F : Hp} {d : D} {v : V} (h : Den K mg F d v) (f : flatD d = true) : flatV v = true := by
  cases d <;> simp only [flatD, Bool.false_eq_true] at f <;> simp only [Den] at h <;> subst h <;> rfl
theorem eqV_D {K : PySem.W.Frag} {F : Hp} {d e : D} {v w : V} (h : Den K mg F d v) (h' : Den K mg F e w) (f : flatD d = true) (f' : flatD e = true) : eqV v w = eqD d e := by
  cases d <;> simp only [flatD, Bool.false_eq_true] at f <;> cases e <;> simp only [flatD, Bool.false_eq_true] at f' <;> simp only [Den] at h h' <;> subst h <;> subst h' <;> simp [eqV, eqD]
theorem in_V {K : PySem.W.Frag} {F : Hp} {x : D} {v : V} (h : Den K mg F x v) (f : flatD x = true) : ∀ {ds : List D} {vs : List V}, Dens K mg F ds vs → ds.all flatD = true → vs.all flatV = true ∧ inV v vs = ds.any fun y => eqD y x
  | [], vs, d, _ => by simp only [Dens] at d; subst d; simp [inV]
  | y :: ds, vs, d, fa => by
    simp only [Dens] at d
    obtain ⟨w, r, rfl, h1, h2⟩ := d
    simp only [List.all_cons, Bool.and_eq_true] at fa
    obtain ⟨a, b⟩ := in_V h f h2 fa.2
    refine ⟨by simp only [List.all_cons, flat_V h1 fa.1, a, Bool.and_self], ?_⟩
    unfold inV at b ⊢
    rw [List.any_cons, List.any_cons, b, eqV_D h1 h fa.1 f]
theorem inS_some {a b : S} {r : Bool} (h : inS a b = some r) : ∃ x ds, a = .dat x ∧ vSq b = some ds ∧ flatD x = true ∧ ds.all flatD = true ∧ r = ds.any fun y => eqD y x := by
  cases a with
  | dat x =>
    simp only [inS] at h
    obtain ⟨ds, e, h⟩ := Option.bind_eq_some_iff.mp h
    unfold inL at h
    split at h
    · rename_i hc
      simp only [Bool.and_eq_true] at hc
      exact ⟨x, ds, rfl, e, hc.1, hc.2, (Option.some.inj h).symm⟩
    · cases h
  | _ => simp [inS] at h
theorem op_in1 : OpR X (compareOp .In) (rc X.K mg inS) := by
  refine OpR.cases fun x y H Q ⟨F, s1, s2, ps1, ps2, b, sb, o1, o2, e, q⟩ => ?_
  obtain ⟨z, ds, rfl, e1, f1, f2, rfl⟩ := inS_some e
  obtain ⟨a, vs, rfl, hs, d⟩ := o2.vSq sb e1
  obtain ⟨g1, g2⟩ := in_V o1.2 f1 d f2
  exact ⟨_, op_in_seq, a, vs, rfl, hs, flat_V o1.2 f1, g1, by simp only [Bool.false_eq_true, if_false]; rw [g2]; exact q⟩
theorem op_ni1 : OpR X (compareOp .NotIn) (rc X.K mg fun a b => (inS a b).map not) := by
  refine OpR.cases fun x y H Q ⟨F, s1, s2, ps1, ps2, b, sb, o1, o2, e, q⟩ => ?_
  obtain ⟨r, e', rfl⟩ := Option.map_eq_some_iff.mp e
  obtain ⟨z, ds, rfl, e1, f1, f2, rfl⟩ := inS_some e'
  obtain ⟨a, vs, rfl, hs, d⟩ := o2.vSq sb e1
  obtain ⟨g1, g2⟩ := in_V o1.2 f1 d f2
  exact ⟨_, op_notIn_seq, a, vs, rfl, hs, flat_V o1.2 f1, g1, by simp only [if_true]; rw [g2]; exact q⟩
theorem isS_some {K : PySem.W.Frag} {F H : Hp} {a b : S} {r : Bool} {x y : V} {ps1 ps2 : List Addr} (h : isS a b = some r) (o1 : Own K mg F H a x ps1) (o2 : Own K mg F H b y ps2) : y = .non ∧ decide (x = .non) = r := by
  unfold isS at h
  split at h
  · cases h
    exact ⟨o2.non, by rw [o1.non]; rfl⟩
  · rename_i n
    cases h
    refine ⟨o2.non, decide_eq_false fun z => ?_⟩
    subst z
    cases a with
    | dat d =>
      have := o1.2
      cases d <;> simp only [Den] at this <;> first | (cases this; done) | (obtain ⟨_, this, _⟩ := this; cases this; done) | (obtain ⟨_, _, this, _⟩ := this; cases this; done) | skip
      exact n rfl
    | ml ds => obtain ⟨_, _, z, _⟩ := o1; cases z
    | mg ds => obtain ⟨_, _, z, _⟩ := o1; cases z
    | md ks ds => obtain ⟨_, z, _⟩ := o1; cases z
  · cases h
theorem op_cmp {o : CmpOp} (hu : X.A.units + 64 < cLine) : OpR X (compareOp o) (rc X.K mg (cmpS o)) := by
  have lt : ∀ {a b : S} {r : Bool}, ltS a b = some r → ∃ i j, a = .dat (.int i) ∧ b = .dat (.int j) ∧ r = decide (i < j) := fun {a b r} h => by
    unfold ltS at h
    split at h
    · exact ⟨_, _, rfl, rfl, (Option.some.inj h).symm⟩
    · cases h
  have le : ∀ {a b : S} {r : Bool}, leS a b = some r → ∃ i j, a = .dat (.int i) ∧ b = .dat (.int j) ∧ r = decide (i ≤ j) := fun {a b r} h => by
    unfold leS at h
    split at h
    · exact ⟨_, _, rfl, rfl, (Option.some.inj h).symm⟩
    · cases h
  cases o with
  | Eq => exact op_eq1 hu
  | NotEq => exact op_ne1 hu
  | In => exact op_in1
  | NotIn => exact op_ni1
  | Lt =>
    refine OpR.cases fun x y H Q ⟨F, s1, s2, ps1, ps2, b, sb, o1, o2, e, q⟩ => ?_
    obtain ⟨i, j, rfl, rfl, rfl⟩ := lt e
    rw [o1.int, o2.int]
    exact ⟨_, op_lt, _, _, rfl, rfl, q⟩
  | LtE =>
    refine OpR.cases fun x y H Q ⟨F, s1, s2, ps1, ps2, b, sb, o1, o2, e, q⟩ => ?_
    obtain ⟨i, j, rfl, rfl, rfl⟩ := le e
    rw [o1.int, o2.int]
    exact ⟨_, op_le, _, _, rfl, rfl, q⟩
  | Gt =>
    refine OpR.cases fun x y H Q ⟨F, s1, s2, ps1, ps2, b, sb, o1, o2, e, q⟩ => ?_
    obtain ⟨i, j, rfl, rfl, rfl⟩ := lt e
    rw [o1.int, o2.int]
    exact ⟨_, op_gt, _, _, rfl, rfl, q⟩
  | GtE =>
    refine OpR.cases fun x y H Q ⟨F, s1, s2, ps1, ps2, b, sb, o1, o2, e, q⟩ => ?_
    obtain ⟨i, j, rfl, rfl, rfl⟩ := le e
    rw [o1.int, o2.int]
    exact ⟨_, op_ge, _, _, rfl, rfl, q⟩
  | Is =>
    refine OpR.cases fun x y H Q ⟨F, s1, s2, ps1, ps2, b, sb, o1, o2, e, q⟩ => ?_
    obtain ⟨e1, e2⟩ := isS_some e o1 o2
    exact ⟨_, op_isN, e1, by rw [e2]; exact q⟩
  | IsNot =>
    refine OpR.cases fun x y H Q ⟨F, s1, s2, ps1, ps2, b, sb, o1, o2, e, q⟩ => ?_
    obtain ⟨r, e', rfl⟩ := Option.map_eq_some_iff.mp e
    obtain ⟨e1, e2⟩ := isS_some e' o1 o2
    exact ⟨_, op_notN, e1, by rw [e2]; exact q⟩
end
end Eng

set_option Elab.async false
set_option linter.all false
set_option maxRecDepth 100000
set_option maxHeartbeats 4000000
namespace Eng
open PySem PySem.Spec PyProof.Rows L2
/-! ### enumerate(tuple) -/
theorem enum_newT (l : Addr) (items : Array Value) (n : Nat) (dct : Option Addr) (sl : Array (Option Value)) :
    Meets (Builtin.«enumerate.__new__» ⟨[.type "enumerate", .ref l], []⟩) (fun _ R s => s.heap.get? l = some { cls := .type "tuple", dict := dct, data := .seq items n, slots := sl } ∧
      R (.ok (.ret (.ref (s.heap.push { cls := .type "tuple_iterator", data := .fields #[.ref l, .int 0 0] }).objs.size)))
        { s with heap := (s.heap.push { cls := .type "tuple_iterator", data := .fields #[.ref l, .int 0 0] }).push { cls := .type "enumerate", data := .fields #[.none, .bool false, .ref s.heap.objs.size, rawInt 0, .none, .none] } }) :=
  .of_wp fun prog w A R s h => by
    obtain ⟨hp, g, d, tk, os⟩ := s; obtain ⟨hl, h⟩ := h
    have hsub := sub_enumerate
    have hL : Heap.IsTuple (Shared.heap ⟨hp, g, d, tk, os⟩) l items := ⟨_, hl, rfl, n, rfl⟩
    wp_walk using AutoSeq1.wpAny_loadPart' hl
    refine wpAny_stack_any fun st => wpAny_pure ?_
    split
    · rename_i c _ _ _ _ _
      cases (c == Value.type "enumerate")
      · wp_walk using AutoSeq1.wpAny_loadPart' hl, wpAny_pyIter_tuple hL
        exact ⟨_, rfl, h⟩
      · wp_walk using AutoSeq1.wpAny_loadPart' hl, wpAny_pyIter_tuple hL
        exact ⟨_, rfl, h⟩
    · wp_walk using AutoSeq1.wpAny_loadPart' hl, wpAny_pyIter_tuple hL
      exact ⟨_, rfl, h⟩
theorem call_enumT {prog : Program} {w : World} {A : Around} {E : Value → Shared → Prop} {s : Shared} {l : Addr} {items : Array Value} {Q : Value → Shared → Prop} (hL : s.heap.IsTuple l items)
    (h : ∀ h', IsEnum h' (s.heap.objs.size + 1) s.heap.objs.size 0 .none → h'.IsTupleIter s.heap.objs.size l 0 → h'.objs.size = s.heap.objs.size + 2 →
      (∀ b o, s.heap.get? b = some o → h'.get? b = some o) → Q (.ref (s.heap.objs.size + 1)) { s with heap := h' }) :
    wpAny (model prog w) A (call (.type "enumerate") [.ref l]) Q E s := by
  obtain ⟨⟨c, dct, dt, sl⟩, hl, hc, n, hd⟩ := hL
  replace hc : c = .type "tuple" := hc
  replace hd : dt = .seq items n := hd
  subst hc hd
  refine callType_new F.called_enumerate (by decide) (F.typeCall_enumerate_1 _) (F.newCall_enumerate_1 _) (fun obj => F.args_object_init_2 obj _) F.entry_enumerate_new
    (enum_newT l items n dct sl) ⟨hl, ?_⟩
  have hz : (s.heap.push { cls := .type "tuple_iterator", data := .fields #[.ref l, .int 0 0] }).objs.size = s.heap.objs.size + 1 := Heap.size_push ..
  show _ ∧ _
  rw [hz]
  have he : IsEnum ((s.heap.push { cls := .type "tuple_iterator", data := .fields #[.ref l, .int 0 0] }).push
      { cls := .type "enumerate", data := .fields #[.none, .bool false, .ref s.heap.objs.size, rawInt 0, .none, .none] }) (s.heap.objs.size + 1) s.heap.objs.size 0 .none := by
    have := Heap.get?_push_size (s.heap.push { cls := .type "tuple_iterator", data := .fields #[.ref l, .int 0 0] })
      (o := { cls := .type "enumerate", data := .fields #[.none, .bool false, .ref s.heap.objs.size, rawInt 0, .none, .none] }) rfl
    rw [hz] at this; exact this
  refine ⟨⟨_, he, rfl⟩, h _ he ⟨_, Heap.get?_push_of_some _ (Heap.get?_push_size _ rfl), rfl, rfl⟩ (by rw [Heap.size_push, hz]) fun b o x => Heap.get?_push_of_some _ (Heap.get?_push_of_some _ x)⟩
def IteT (K : PySem.W.Frag) (a : Addr) : It :=
  ⟨fun i H => ∃ (xs : List V) (x : V), SqT K H a xs ∧ xs[i]? = some x, fun i H v H' => ∃ T x, v = .ref T ∧ H T = none ∧ H' = upd H T (.tup [.int (i : Nat), x]) ∧ ∀ xs, SqT K H a xs → xs[i]? = some x, fun i H => ∃ xs : List V, SqT K H a xs ∧ xs.length = i⟩
theorem turn_enumT {P : Program} {w : World} {K : PySem.W.Frag} {elts : List Expr} {kk : Nat} {tpos : Pos} (a e it : Addr) :
    Turn P w K (.Tuple elts kk tpos) (IteT K a) [e, it] e (fun i h => (∃ old, IsEnum h e it ((i : Nat) : Int) old) ∧ h.IsTupleIter it a i ∧ e ≠ it ∧ a ≠ it ∧ a ≠ e) where
  mem := by simp
  obj := fun i h st b hb => by
    obtain ⟨⟨old, he⟩, ⟨o, ho, hc, hd⟩, _⟩ := st
    have e' : b = e ∨ b = it := by simpa using hb
    rcases e' with z | z
    · rw [z]; exact ⟨_, he, fun v q => nomatch q⟩
    · rw [z]; exact ⟨o, ho, fun v q => by rw [hd] at q; cases q⟩
  keep := fun i h h' st k => let ⟨⟨old, he⟩, hi, hne⟩ := st; ⟨⟨old, k e (by simp) _ he⟩, hi.at fun o q => k it (by simp) o q, hne⟩
  item := by
    intro X hP hw hK hc i pins s σ H E I hf st hg
    subst hP hw hK
    obtain ⟨⟨old, he⟩, hit, hne, hai, hae⟩ := st
    obtain ⟨xs, x, hq, hx⟩ := hg
    obtain ⟨its, rv, p, hz⟩ := I.tuple hq
    obtain ⟨u, hu, ru⟩ := rv.get hx
    have hel : e < s.heap.objs.size := Heap.lt_size he
    have hil : it < s.heap.objs.size := by obtain ⟨_, q, _⟩ := hit; exact Heap.lt_size q
    have hlt : i < its.toArray.size := by
      have := (List.getElem?_eq_some_iff.mp hu).1
      simpa using this
    refine wpAny_pyNext_enum_itemD (Draws.tuple (A := X.A.in1) (I.ok.hd hc) it a hai its.toArray) he ⟨hit, p⟩ hlt hne (by simp [hne, Ne.symm hae]) fun y h' tk hP ho hit' hT hsz hk => ?_
    have hP : its.toArray[i]? = some y := hP
    have hyu : y = u := by
      have : its[i]? = some y := by simpa using hP
      rw [hu] at this
      exact (Option.some.inj this).symm
    subst hyu
    refine ⟨_, rfl, wpAny_letOwnedTupleGo_enum (s := { s with heap := h', toks := tk + 1 }) ho fun h'' he' sb => ?_⟩
    have hT2 : h''.get? s.heap.objs.size = some { cls := .type "tuple", data := .seq #[.int i tk, y] } := (sb.2 _ (Nat.ne_of_gt hel)).trans hT
    have new : ObjOk X.prog X.w (upd H s.heap.objs.size (.tup [.int (i : Nat), x])) h'' s.heap.objs.size (.tup [.int (i : Nat), x]) :=
      ⟨by show 2 ≤ sizeLine; decide, [.int i tk, y], .cons ⟨_, rfl⟩ (.cons ru .nil), ⟨_, hT2, rfl, _, rfl⟩⟩
    have I1 : Inv X pins σ (upd H s.heap.objs.size (.tup [.int (i : Nat), x])) { s with heap := h'', toks := tk + 1 } :=
      I.turnedNew (ch := [e, it]) (fun b ob hb q => (sb.2 b (fun z => hb (by simp [z]))).trans (hk b ob (fun z => hb (by simp [z])) (fun z => hb (by simp [z])) q)) hf (Nat.le_refl _) new
    refine ⟨.ref s.heap.objs.size, _, I1, rfl, ⟨_, x, rfl, I.hok.fresh (Nat.le_refl _), rfl, fun ys hy => by rw [I.tuple_inj hy hq]; exact hx⟩, ⟨⟨y, ?_⟩, hit'.1.at fun o q => (sb.2 it (Ne.symm hne)).trans q, hne, hai, hae⟩, fun b hb => ?_⟩
    · have e1 : ((i + 1 : Nat) : Int) = (i : Int) + 1 := by omega
      rw [e1]; exact he'
    · have hb' : b < s.heap.objs.size := by
        have e' : b = e ∨ b = it := by simpa using hb
        rcases e' with z | z
        · rw [z]; exact hel
        · rw [z]; exact hil
      rw [upd_ne (Nat.ne_of_lt hb')]
      exact (hf b hb).1
  done := by
    intro X hP hw hK hc i pins s σ H E I hf st hg
    subst hP hw hK
    obtain ⟨⟨old, he⟩, hit, hne, hai, hae⟩ := st
    obtain ⟨xs, hq, hx⟩ := hg
    obtain ⟨its, rv, p, hz⟩ := I.tuple hq
    obtain ⟨f0, f1, f2, f3, f4, f5⟩ := hf it (by simp)
    have hl := rv.length
    have hi : i = its.toArray.size := by simp; omega
    subst hi
    exact wpAny_pyNext_enum_endD (Draws.tuple (A := X.A.in1) (I.ok.hd hc) it a hai its.toArray) he ⟨hit, p⟩ fun h' eb => ⟨rfl, I.turned (t' := s.toks) (fun b o hb q => eb b o hb q) f0 f1 f3 f4 f5⟩
  self := fun A i s Q E st h => let ⟨⟨_, he⟩, _⟩ := st; wpAny_pyIter_enum he h
def iEnumT (K : PySem.W.Frag) (ta : TA) : TI := fun σ H R => ta σ H fun vs H1 => ∃ a xs, vs = [.ref a] ∧ SqT K H1 a xs ∧ R (IteT K a) H1
theorem pi_enumT {X : Cx} {e : Expr} {ta : TA} {p pos tpos : Pos} {elts : List Expr} {kk : Nat} (hg : Gl X "enumerate") (hm : X.mg "enumerate" = none) (ha : PA X [e] ta) (hs : starEach [e] X.env = [(false, eval e X.env)] := by rfl) :
    PI X (.Tuple elts kk tpos) (.Call (.Name "enumerate" p) [e] [] pos) (iEnumT X.K ta) := by
  refine ⟨fun pins s σ H R I h => ?_⟩
  refine Call_ (ld_blt I hg hm boot_enumerate (PyProof.Rows.callWith_type1 (thn (ha.run pos pins s σ H _ I h) fun us s1 ⟨vs, H1, I1, r1, q1⟩ => ?_) hs rfl))
  obtain ⟨a, xs, ex, hq, q⟩ := q1
  subst ex
  cases r1 with
  | cons r rr =>
    cases rr
    cases r
    obtain ⟨its, rv, p', hz⟩ := I1.tuple hq
    have hal : a < s1.heap.objs.size := by obtain ⟨_, q, _⟩ := p'; exact Heap.lt_size q
    refine call_enumT p' fun h' he hit hsz hk => wpAny_pyIter_enum he ?_
    have I2 : Inv X pins σ H1 { s1 with heap := h' } := I1.kept (t' := s1.toks) hk
    refine ⟨s1.heap.objs.size + 1, [s1.heap.objs.size + 1, s1.heap.objs.size], _, _, H1, rfl, I2, turn_enumT a (s1.heap.objs.size + 1) s1.heap.objs.size, ⟨⟨.none, he⟩, hit, Nat.succ_ne_self _, Nat.ne_of_lt hal, Nat.ne_of_lt (Nat.lt_succ_of_lt hal)⟩, fun b hb => ?_, q⟩
    have e' : b = s1.heap.objs.size + 1 ∨ b = s1.heap.objs.size := by simpa using hb
    have hle : s1.heap.objs.size ≤ b := by
      rcases e' with z | z
      · rw [z]; exact Nat.le_add_right _ _
      · rw [z]; exact Nat.le_refl _
    exact I1.fpOk hle (I1.hok.fresh hle)
theorem walk_enumT {K : PySem.W.Frag} {a : Addr} {xs : List V} : Walk (IteT K a) xs.length (fun H => SqT K H a xs) (YPair (fun i => some (.int (i : Nat))) (fun i => xs[i]?)) := by
  refine ⟨fun i _ hi q => ⟨xs, xs[i], q, by simp [hi]⟩, fun _ q => ⟨xs, q, rfl⟩, fun i H v H' _ q y => ?_⟩
  obtain ⟨T, x, h1, h2, h3, h4⟩ := y
  exact ⟨T, .int (i : Nat), x, h1, h2, h3, rfl, h4 xs q⟩
end Eng

set_option Elab.async false
set_option linter.all false
set_option maxRecDepth 100000
set_option maxHeartbeats 4000000
namespace Eng
open PySem PySem.Spec PyProof.Rows L2
section
variable {X : Cx} {mg : Str → Option Value}
/-! ### subscripts, slices -/
theorem IxR.cases {r : R2} (h : ∀ x y H Q, r x y H Q → ∃ r', IxR X r' ∧ r' x y H Q) : IxR X r := by
  intro value slice pins s σ H x y v u Q I rx ry q hs
  obtain ⟨r', h1, h2⟩ := h x y H Q q
  exact h1 value slice pins s σ H x y v u Q I rx ry h2 hs
theorem Dens.at {K : PySem.W.Frag} {F : Hp} {ds : List D} {vs : List V} {k : Int} {d : D} (h : Dens K mg F ds vs) (e : atI ds k = some d) : ∃ v, atI vs k = some v ∧ Den K mg F d v := by
  unfold atI at e ⊢
  rw [h.len]
  obtain ⟨j, e1, e2⟩ := Option.bind_eq_some_iff.mp e
  obtain ⟨v, e3, e4⟩ := h.get e2
  exact ⟨v, Option.bind_eq_some_iff.mpr ⟨j, e1, e3⟩, e4⟩
theorem ix_1 : IxR X (r2 X.K mg fun a b => (ixS a b).map .dat) := by
  refine IxR.cases fun x y H Q ⟨F, s1, s2, ps1, ps2, r, sb, o1, o2, e, q⟩ => ?_
  obtain ⟨d, e', rfl⟩ := Option.map_eq_some_iff.mp e
  unfold ixS at e'
  split at e'
  · rename_i k
    obtain ⟨ds, e1, e2⟩ := Option.bind_eq_some_iff.mp e'
    obtain ⟨a, vs, rfl, hs, dd⟩ := o1.vSq sb e1
    obtain ⟨v, e3, e4⟩ := dd.at e2
    rw [o2.int]
    rcases hs with hs | hs
    · exact ⟨_, ix_list, a, vs, k, v, rfl, rfl, hs, e3, q.dat sb e4⟩
    · exact ⟨_, ix_tup, a, vs, k, v, rfl, rfl, hs, e3, q.dat sb e4⟩
  · cases e'
def rsl (K : PySem.W.Frag) (mg : Str → Option Value) : V → Option Int → Option Int → Hp → VK → Prop := fun x lo hi H Q => ∃ F s ps r, Sub F H ∧ Own K mg F H s x ps ∧ slcS s lo hi = some r ∧ Out K mg F H r Q
theorem cutD_ok {K : PySem.W.Frag} {F : Hp} {ds : List D} {vs : List V} (h : Dens K mg F ds vs) (lo hi : Option Int) : Dens K mg F (cutD ds lo hi) (cutV vs lo hi) := by
  unfold cutD cutV
  rw [h.len]
  exact (h.drop _).take _
theorem sl_1 : SlR X (rsl X.K mg) := by
  intro pins s σ H x v vl vu lo hi sl Q I rx hs pl pu h
  obtain ⟨F, s1, ps, r, sb, o, e, q⟩ := h
  unfold slcS at e
  split at e
  · rename_i ds
    cases e
    obtain ⟨a, vs, rfl, h1, d⟩ := o.vT sb rfl
    refine sl_tupA pins s σ H _ v vl vu lo hi sl Q I rx hs pl pu ⟨a, vs, rfl, h1, fun hw => ?_, fun _ => q.tup sb (cutD_ok d lo hi)⟩
    have e2 : cutD ds lo hi = ds := by
      unfold cutD
      rw [← d.len, hw.1, hw.2, List.drop_zero, Nat.sub_zero, List.take_of_length_le (by rw [d.len]; exact Nat.le_refl _)]
    rw [e2] at q
    exact q.dat sb o.2
  · obtain ⟨ds, e1, rfl⟩ := Option.map_eq_some_iff.mp e
    obtain ⟨a, vs, rfl, h1, d⟩ := o.vL sb e1
    exact sl_list pins s σ H _ v vl vu lo hi sl Q I rx hs pl pu ⟨a, vs, rfl, h1, q.lst sb (cutD_ok d lo hi)⟩

/-! ### isinstance -/
def Ty.nm : Ty → String
  | .int => "int" | .bool => "bool" | .str => "str" | .tuple => "tuple" | .list => "list" | .dict => "dict" | .none => "NoneType"
theorem kit_Ty {K : PySem.W.Frag} (a b : Ty) (h : b ≠ .none) : PySem.W.kitOne K (.type a.nm) (.type b.nm) = some (isT a b) := by
  refine kit_ty ?_
  cases a <;> cases b <;> first | exact absurd rfl h | decide +kernel
theorem kit_any {K : PySem.W.Frag} (a : Ty) : ∀ ts : List Ty, (∀ t, t ∈ ts → t ≠ .none) → PySem.W.kitAny K (.type a.nm) (ts.map fun t => Value.type t.nm) = some (ts.any (isT a))
  | [], _ => kitAny_nil
  | t :: ts, h => kitAny_cons (kit_Ty a t (h t List.mem_cons_self)) (fun e => by
      rw [List.any_cons, e, Bool.false_or]
      exact kit_any a ts fun u hu => h u (List.mem_cons_of_mem _ hu)) fun e => by rw [List.any_cons, e, Bool.true_or]
theorem sqL_ty {K : PySem.W.Frag} {H : Hp} {a : Addr} {xs : List V} (h : SqL K H a xs) : TyX K H (.ref a) (.type "list") := by
  rcases h with (h | ⟨o, h⟩) | ⟨o, its, n, h, c, _⟩
  · exact .base (.lst h)
  · exact .base (.frz h)
  · exact .kList h c
theorem sqT_ty {K : PySem.W.Frag} {H : Hp} {a : Addr} {xs : List V} (h : SqT K H a xs) : TyX K H (.ref a) (.type "tuple") := by
  rcases h with (h | ⟨o, h⟩) | ⟨o, its, n, h, c, _⟩
  · exact .base (.tup h)
  · exact .fTuple h
  · exact .kTuple h c
theorem Own.ty {K : PySem.W.Frag} {F H : Hp} {s : S} {v : V} {ps : List Addr} {t : Ty} (o : Own K mg F H s v ps) (sb : Sub F H) (e : tyS s = some t) : TyX K H v (.type t.nm) := by
  cases s with
  | dat d =>
    have q := o.2
    cases d with
    | non => simp only [tyS, Option.some.injEq] at e; subst e; rw [o.non]; exact .base .non
    | bl b => simp only [tyS, Option.some.injEq] at e; subst e; rw [o.bl]; exact .base (.bl b)
    | int b => simp only [tyS, Option.some.injEq] at e; subst e; rw [o.int]; exact .base (.int b)
    | str b => simp only [tyS, Option.some.injEq] at e; subst e; rw [o.str]; exact .base (.str b)
    | tup ds =>
      simp only [tyS, Option.some.injEq] at e; subst e
      obtain ⟨a, vs, rfl, h1, d⟩ := o.vT sb rfl
      exact sqT_ty h1
    | lst ds =>
      simp only [tyS, Option.some.injEq] at e; subst e
      obtain ⟨a, vs, rfl, h1, d⟩ := o.vL sb rfl
      exact sqL_ty h1
    | scr ds =>
      simp only [tyS, Option.some.injEq] at e; subst e
      obtain ⟨a, vs, rfl, h1, d⟩ := o.vL sb rfl
      exact sqL_ty h1
    | dct ks ds =>
      simp only [tyS, Option.some.injEq] at e; subst e
      simp only [Den] at q
      obtain ⟨a, rfl, ⟨kvs, h, _⟩ | ⟨kvs, h, _⟩⟩ := q
      · exact .base (.dK (sb _ _ h))
      · exact .base (.dT (sb _ _ h))
    | fn x => simp [tyS] at e
  | ml ds =>
    simp only [tyS, Option.some.injEq] at e; subst e
    obtain ⟨a, vs, rfl, h1, d⟩ := o.vL sb rfl
    exact sqL_ty h1
  | md ks ds =>
    simp only [tyS, Option.some.injEq] at e; subst e
    obtain ⟨p, rfl, rfl, _, ⟨kvs, h, _⟩ | ⟨kvs, h, _⟩⟩ := o
    · exact .base (.dK h)
    · exact .base (.dT h)
  | mg rows => simp [tyS] at e

/-! ### built-in functions -/
def bfV : BF → Value
  | .len => .builtin "len" | .abs => .builtin "abs" | .max1 => .builtin "max" | .min1 => .builtin "min" | .max2 => .builtin "max" | .min2 => .builtin "min"
  | .int => .type "int" | .sum => .builtin "sum" | .all => .builtin "all" | .any => .builtin "any" | .list => .type "list" | .tuple => .type "tuple"
  | .sorted => .builtin "sorted" | .divmod => .builtin "divmod" | .gcd => .builtin "math.gcd"
def rb1 (K : PySem.W.Frag) (mg : Str → Option Value) (f : BF) : List V → Hp → VK → Prop := fun xs H Q => ∃ F s x ps r, xs = [x] ∧ Sub F H ∧ Own K mg F H s x ps ∧ biS1 f s = some r ∧ Out K mg F H r Q
def rb2 (K : PySem.W.Frag) (mg : Str → Option Value) (f : BF) : List V → Hp → VK → Prop := fun xs H Q => ∃ F s t x y ps qs r, xs = [x, y] ∧ Sub F H ∧ Own K mg F H s x ps ∧ Own K mg F H t y qs ∧ biS2 f s t = some r ∧ Out K mg F H r Q
theorem CallR.cases {f : Value} {r : List V → Hp → VK → Prop} (h : ∀ xs H Q, r xs H Q → ∃ r', CallR X f r' ∧ r' xs H Q) : CallR X f r := by
  intro pins s σ H xs us Q I rx q
  obtain ⟨r', h1, h2⟩ := h xs H Q q
  exact h1 pins s σ H xs us Q I rx h2
theorem cr_sumT (hc : X.calm = true) : CallR X (.builtin "sum") (fun vs H Q => ∃ (a : Addr) (ns : List Int), vs = [V.ref a] ∧ SqT X.K H a (ns.map V.int) ∧ Q (.int ns.sum) H) := by
  intro pins s σ H vs us Q I r h
  obtain ⟨a, ns, rfl, hs, q⟩ := h
  obtain ⟨its, rv, hl, _⟩ := I.tuple hs
  rw [Vals.ref1 r]
  exact sum_rawT (I.ok.hd hc) hl rv.ints fun h' tk t' hk => ⟨.int _, H, I.kept hk, ⟨_, rfl⟩, q⟩
theorem cr_maxT (hc : X.calm = true) : CallR X (.builtin "max") (fun vs H Q => ∃ (a : Addr) (ns : List Int), vs = [V.ref a] ∧ SqT X.K H a (ns.map V.int) ∧ 0 < ns.length ∧ ∀ m, m ∈ ns → (∀ y, y ∈ ns → y ≤ m) → Q (.int m) H) := by
  intro pins s σ H vs us Q I r h
  obtain ⟨a, ns, rfl, hs, hne, q⟩ := h
  obtain ⟨its, rv, hl, _⟩ := I.tuple hs
  rw [Vals.ref1 r]
  exact max_rawT (I.ok.hd hc) hl rv.ints hne fun h' tk m t' hk h1 h2 => ⟨.int _, H, I.kept hk, ⟨_, rfl⟩, q m h1 h2⟩
theorem cr_minT (hc : X.calm = true) : CallR X (.builtin "min") (fun vs H Q => ∃ (a : Addr) (ns : List Int), vs = [V.ref a] ∧ SqT X.K H a (ns.map V.int) ∧ 0 < ns.length ∧ ∀ m, m ∈ ns → (∀ y, y ∈ ns → m ≤ y) → Q (.int m) H) := by
  intro pins s σ H vs us Q I r h
  obtain ⟨a, ns, rfl, hs, hne, q⟩ := h
  obtain ⟨its, rv, hl, _⟩ := I.tuple hs
  rw [Vals.ref1 r]
  exact min_rawT (I.ok.hd hc) hl rv.ints hne fun h' tk m t' hk h1 h2 => ⟨.int _, H, I.kept hk, ⟨_, rfl⟩, q m h1 h2⟩
theorem dInts_eq : ∀ {ds : List D} {ns : List Int}, dInts ds = some ns → ds = ns.map .int
  | [], ns, h => by simp only [dInts, Option.some.injEq] at h; subst h; rfl
  | .int i :: r, ns, h => by
    simp only [dInts] at h
    obtain ⟨m, e, rfl⟩ := Option.map_eq_some_iff.mp h
    rw [dInts_eq e]; rfl
  | .non :: _, _, h => by simp [dInts] at h
  | .bl _ :: _, _, h => by simp [dInts] at h
  | .str _ :: _, _, h => by simp [dInts] at h
  | .tup _ :: _, _, h => by simp [dInts] at h
  | .lst _ :: _, _, h => by simp [dInts] at h
  | .dct _ _ :: _, _, h => by simp [dInts] at h
  | .fn _ :: _, _, h => by simp [dInts] at h
  | .scr _ :: _, _, h => by simp [dInts] at h
/-- truth of what stands in a list -/
def TrU (u : Value) (b : Bool) : Prop := u = .bool b ∨ ∃ i t, u = .int i t ∧ b = (i != 0)
theorem tru_get : ∀ {its : List Value} {bs : List Bool} {i : Nat} {v : Value}, Paired TrU its bs → its[i]? = some v → ∃ b, bs[i]? = some b ∧ TrU v b
  | _, _, _, _, .nil, e => by simp at e
  | _, _, 0, _, .cons h r, e => by
    simp at e; subst e
    exact ⟨_, rfl, h⟩
  | _, _, i + 1, _, .cons h r, e => by
    obtain ⟨b, e1, e2⟩ := tru_get (i := i) r (by simpa using e)
    exact ⟨b, by simpa using e1, e2⟩
theorem truth_mix {prog : Program} {w : World} {A : Around} {bs : List Bool} {its : List Value} (e : Paired TrU its bs) : TruthOf prog w A (fun i v => its.toArray[i]? = some v) (fun i => bs.getD i false) := fun i v s Q E hv hq => by
  have hv' : its[i]? = some v := by simpa using hv
  obtain ⟨b, hb, r⟩ := tru_get e hv'
  have hg : bs.getD i false = b := by rw [List.getD_eq_getElem?_getD, hb]; rfl
  have hq' : Q (bs.getD i false) s := hq
  rw [hg] at hq'
  rcases r with rfl | ⟨i, t, rfl, rfl⟩
  · exact wpAny_truthy_bool hq'
  · exact PyProof.Rows.truthy_int hq'
theorem iter_tup0 {prog : Program} {w : World} {A : Around} {E : Value → Shared → Prop} {s : Shared} {l : Addr} {items : Array Value} {Q : Value → Shared → Prop} (hl : s.heap.IsTuple l items)
    (h : ∀ s₂ : Shared, s₂ = { s with heap := s.heap.push { cls := .type "tuple_iterator", data := .fields #[.ref l, .int 0 0] } } →
      (IsTupIter s₂.heap s.heap.objs.size l 0 ∧ s₂.heap.IsTuple l items) → l ≠ s.heap.objs.size → Q (.ref s.heap.objs.size) s₂) : wpAny (model prog w) A (pyIter (.ref l)) Q E s := by
  have hlt : l < s.heap.objs.size := by obtain ⟨_, e, _⟩ := hl; exact Heap.lt_size e
  exact wpAny_pyIter_tuple hl (h _ rfl ⟨⟨_, Heap.get?_push_size _ rfl, rfl, rfl⟩, IsTup.push hl _⟩ (Nat.ne_of_lt hlt))
def TrV (v : V) (b : Bool) : Prop := v = .bl b ∨ ∃ i, v = .int i ∧ b = (i != 0)
theorem tru_vals : ∀ {vs : List V} {its : List Value} {bs : List Bool}, Paired TrV vs bs → Vals vs its → Paired TrU its bs
  | _, _, _, .nil, .nil => .nil
  | _, _, _, .cons h r, .cons h2 r2 => .cons (by
      rcases h with rfl | ⟨i, rfl, rfl⟩
      · exact .inl h2
      · obtain ⟨t, rfl⟩ := h2
        exact .inr ⟨i, t, rfl, rfl⟩) (tru_vals r r2)
def rTru (K : PySem.W.Frag) (f : List Bool → Bool) : List V → Hp → VK → Prop := fun vs H Q => ∃ (a : Addr) (us : List V) (bs : List Bool), vs = [V.ref a] ∧ (SqL K H a us ∨ SqT K H a us) ∧ Paired TrV us bs ∧ Q (.bl (f bs)) H
theorem cr_anyM (hc : X.calm = true) : CallR X (.builtin "any") (rTru X.K fun bs => bs.any id) := by
  intro pins s σ H vs us Q I r h
  obtain ⟨a, ws, bs, rfl, hs, hp, q⟩ := h
  rw [Vals.ref1 r]
  rcases hs with hs | hs
  · obtain ⟨its, rv, hl, _⟩ := I.list hs
    have hb := tru_vals hp rv
    refine call_any_walk (iter_any hl.isList fun s₂ e2 st hne => ?_)
    subst e2
    refine ⟨_, _, _, _, _, _, _, rfl, Walks.list (A := X.A.in1) (I.ok.hd hc) _ a hne its.toArray, st, truth_mix hb, fun h' tk hk => ?_⟩
    refine ⟨.bl _, H, I.kept fun b o eo => hk b o (fun hmem => ?_) (Heap.get?_push_of_some _ eo), ?_, q⟩
    · rcases List.mem_cons.mp hmem with e1 | hmem
      · exact absurd (e1 ▸ Heap.lt_size eo) (Nat.lt_irrefl _)
      · cases hmem
    · show Value.bool _ = Value.bool (bs.any id)
      rw [← L2.any_range, List.size_toArray, hb.length]
  · obtain ⟨its, rv, hl, _⟩ := I.tuple hs
    have hb := tru_vals hp rv
    refine call_any_walk (iter_tup0 hl fun s₂ e2 st hne => ?_)
    subst e2
    refine ⟨_, _, _, _, _, _, _, rfl, Walks.tuple (A := X.A.in1) (I.ok.hd hc) _ a hne its.toArray, st, truth_mix hb, fun h' tk hk => ?_⟩
    refine ⟨.bl _, H, I.kept fun b o eo => hk b o (fun hmem => ?_) (Heap.get?_push_of_some _ eo), ?_, q⟩
    · rcases List.mem_cons.mp hmem with e1 | hmem
      · exact absurd (e1 ▸ Heap.lt_size eo) (Nat.lt_irrefl _)
      · cases hmem
    · show Value.bool _ = Value.bool (bs.any id)
      rw [← L2.any_range, List.size_toArray, hb.length]
theorem cr_allM (hc : X.calm = true) : CallR X (.builtin "all") (rTru X.K fun bs => bs.all id) := by
  intro pins s σ H vs us Q I r h
  obtain ⟨a, ws, bs, rfl, hs, hp, q⟩ := h
  rw [Vals.ref1 r]
  rcases hs with hs | hs
  · obtain ⟨its, rv, hl, _⟩ := I.list hs
    have hb := tru_vals hp rv
    refine call_all_walk (iter_any hl.isList fun s₂ e2 st hne => ?_)
    subst e2
    refine ⟨_, _, _, _, _, _, _, rfl, Walks.list (A := X.A.in1) (I.ok.hd hc) _ a hne its.toArray, st, truth_mix hb, fun h' tk hk => ?_⟩
    refine ⟨.bl _, H, I.kept fun b o eo => hk b o (fun hmem => ?_) (Heap.get?_push_of_some _ eo), ?_, q⟩
    · rcases List.mem_cons.mp hmem with e1 | hmem
      · exact absurd (e1 ▸ Heap.lt_size eo) (Nat.lt_irrefl _)
      · cases hmem
    · show Value.bool _ = Value.bool (bs.all id)
      rw [← L2.all_range, List.size_toArray, hb.length]
  · obtain ⟨its, rv, hl, _⟩ := I.tuple hs
    have hb := tru_vals hp rv
    refine call_all_walk (iter_tup0 hl fun s₂ e2 st hne => ?_)
    subst e2
    refine ⟨_, _, _, _, _, _, _, rfl, Walks.tuple (A := X.A.in1) (I.ok.hd hc) _ a hne its.toArray, st, truth_mix hb, fun h' tk hk => ?_⟩
    refine ⟨.bl _, H, I.kept fun b o eo => hk b o (fun hmem => ?_) (Heap.get?_push_of_some _ eo), ?_, q⟩
    · rcases List.mem_cons.mp hmem with e1 | hmem
      · exact absurd (e1 ▸ Heap.lt_size eo) (Nat.lt_irrefl _)
      · cases hmem
    · show Value.bool _ = Value.bool (bs.all id)
      rw [← L2.all_range, List.size_toArray, hb.length]
theorem dBls_tr {K : PySem.W.Frag} {F : Hp} : ∀ {ds : List D} {bs : List Bool} {vs : List V}, dBls ds = some bs → Dens K mg F ds vs → Paired TrV vs bs
  | [], bs, vs, h, d => by
    simp only [dBls, Option.some.injEq] at h
    subst h
    simp only [Dens] at d
    subst d
    exact .nil
  | e :: ds, bs, vs, h, d => by
    simp only [dBls] at h
    obtain ⟨b, e1, h2⟩ := Option.bind_eq_some_iff.mp h
    obtain ⟨r, e2, rfl⟩ := Option.map_eq_some_iff.mp h2
    simp only [Dens] at d
    obtain ⟨w, t, rfl, d1, d2⟩ := d
    refine .cons ?_ (dBls_tr e2 d2)
    cases e with
    | bl c =>
      simp only [truI, Option.some.injEq] at e1
      subst e1
      simp only [Den] at d1
      exact .inl d1
    | int i =>
      simp only [truI, Option.some.injEq] at e1
      subst e1
      simp only [Den] at d1
      exact .inr ⟨i, d1, rfl⟩
    | _ => cases e1
theorem maxI_ok : ∀ {ns : List Int} {m : Int}, maxI ns = some m → m ∈ ns ∧ ∀ y, y ∈ ns → y ≤ m
  | [], _, h => by simp [maxI] at h
  | [a], m, h => by simp [maxI] at h; subst h; simp
  | a :: b :: r, m, h => by
    rw [maxI] at h
    · obtain ⟨k, e, rfl⟩ := Option.map_eq_some_iff.mp h
      obtain ⟨h1, h2⟩ := maxI_ok e
      split
      · rename_i hk
        refine ⟨List.mem_cons_of_mem _ h1, fun y hy => ?_⟩
        rcases List.mem_cons.mp hy with rfl | hy
        · omega
        · exact h2 y hy
      · rename_i hk
        refine ⟨List.mem_cons_self, fun y hy => ?_⟩
        rcases List.mem_cons.mp hy with rfl | hy
        · omega
        · have := h2 y hy; omega
    · simp
theorem minI_ok : ∀ {ns : List Int} {m : Int}, minI ns = some m → m ∈ ns ∧ ∀ y, y ∈ ns → m ≤ y
  | [], _, h => by simp [minI] at h
  | [a], m, h => by simp [minI] at h; subst h; simp
  | a :: b :: r, m, h => by
    rw [minI] at h
    · obtain ⟨k, e, rfl⟩ := Option.map_eq_some_iff.mp h
      obtain ⟨h1, h2⟩ := minI_ok e
      split
      · rename_i hk
        refine ⟨List.mem_cons_of_mem _ h1, fun y hy => ?_⟩
        rcases List.mem_cons.mp hy with rfl | hy
        · omega
        · exact h2 y hy
      · rename_i hk
        refine ⟨List.mem_cons_self, fun y hy => ?_⟩
        rcases List.mem_cons.mp hy with rfl | hy
        · omega
        · have := h2 y hy; omega
    · simp
theorem nums_ok {K : PySem.W.Frag} {F H : Hp} {s : S} {v : V} {ps : List Addr} {ns : List Int} (o : Own K mg F H s v ps) (sb : Sub F H) (e : numsS s = some ns) : ∃ a, v = .ref a ∧ (SqL K H a (ns.map V.int) ∨ SqT K H a (ns.map V.int)) := by
  obtain ⟨ds, e1, e2⟩ := Option.bind_eq_some_iff.mp e
  rw [dInts_eq e2] at e1
  obtain ⟨a, vs, rfl, hs, d⟩ := o.vSq sb e1
  rw [d.ints] at hs
  exact ⟨a, rfl, hs⟩
theorem bls_ok {K : PySem.W.Frag} {F H : Hp} {s : S} {v : V} {ps : List Addr} {ns : List Bool} (o : Own K mg F H s v ps) (sb : Sub F H) (e : blsS s = some ns) : ∃ a us, v = .ref a ∧ (SqL K H a us ∨ SqT K H a us) ∧ Paired TrV us ns := by
  obtain ⟨ds, e1, e2⟩ := Option.bind_eq_some_iff.mp e
  obtain ⟨a, vs, rfl, hs, d⟩ := o.vSq sb e1
  exact ⟨a, vs, rfl, hs, dBls_tr e2 d⟩
theorem vSq_or {s : S} {ds : List D} (e : vSq s = some ds) : vL s = some ds ∨ s = .dat (.tup ds) := by
  cases s with
  | dat d => cases d <;> simp [vSq] at e <;> subst e <;> first | exact .inr rfl | exact .inl rfl
  | ml es => exact .inl e
  | _ => simp [vSq] at e
theorem call_b1 {f : BF} (hc : X.calm = true) : CallR X (bfV f) (rb1 X.K mg f) := by
  refine CallR.cases fun xs H Q ⟨F, s, x, ps, r, hx, sb, o, e, q⟩ => ?_
  subst hx
  cases f with
  | len =>
    simp only [biS1] at e
    unfold lenS at e
    split at e
    · obtain ⟨h, e⟩ := ifs e
      cases e
      rw [o.str]
      exact ⟨_, call_len_str, _, rfl, by rw [← SZ_eq]; exact h, q.dat sb denI⟩
    · obtain ⟨ds, e1, rfl⟩ := Option.map_eq_some_iff.mp e
      obtain ⟨a, vs, rfl, hs, d⟩ := o.vSq sb e1
      exact ⟨_, call_len_seq, a, vs, rfl, hs, by rw [d.len]; exact q.dat sb denI⟩
  | abs =>
    simp only [biS1] at e
    unfold absS at e
    split at e
    · cases e
      rw [o.int]
      exact ⟨_, call_abs, _, rfl, q.dat sb denI⟩
    · cases e
  | int =>
    simp only [biS1] at e
    unfold intS at e
    split at e
    · cases e
      rw [o.int]
      exact ⟨_, call_int1, .inl ⟨_, rfl, q.dat sb denI⟩⟩
    · cases e
      rw [o.bl]
      exact ⟨_, call_int1, .inr ⟨_, rfl, q.dat sb denI⟩⟩
    · cases e
  | max1 =>
    simp only [biS1] at e
    obtain ⟨ns, e1, e2⟩ := Option.bind_eq_some_iff.mp e
    obtain ⟨m, e3, rfl⟩ := Option.map_eq_some_iff.mp e2
    obtain ⟨a, rfl, hs⟩ := nums_ok o sb e1
    obtain ⟨h1, h2⟩ := maxI_ok e3
    have hl : 0 < ns.length := List.length_pos_of_mem h1
    have fin : ∀ m', m' ∈ ns → (∀ y, y ∈ ns → y ≤ m') → Q (.int m') H := fun m' g1 g2 => by
      have : m' = m := Int.le_antisymm (h2 _ g1) (g2 _ h1)
      subst this
      exact q.dat sb denI
    rcases hs with hs | hs
    · exact ⟨_, cr_max hc, a, ns, rfl, hs, hl, fin⟩
    · exact ⟨_, cr_maxT hc, a, ns, rfl, hs, hl, fin⟩
  | min1 =>
    simp only [biS1] at e
    obtain ⟨ns, e1, e2⟩ := Option.bind_eq_some_iff.mp e
    obtain ⟨m, e3, rfl⟩ := Option.map_eq_some_iff.mp e2
    obtain ⟨a, rfl, hs⟩ := nums_ok o sb e1
    obtain ⟨h1, h2⟩ := minI_ok e3
    have hl : 0 < ns.length := List.length_pos_of_mem h1
    have fin : ∀ m', m' ∈ ns → (∀ y, y ∈ ns → m' ≤ y) → Q (.int m') H := fun m' g1 g2 => by
      have : m' = m := Int.le_antisymm (g2 _ h1) (h2 _ g1)
      subst this
      exact q.dat sb denI
    rcases hs with hs | hs
    · exact ⟨_, cr_min hc, a, ns, rfl, hs, hl, fin⟩
    · exact ⟨_, cr_minT hc, a, ns, rfl, hs, hl, fin⟩
  | sum =>
    simp only [biS1] at e
    obtain ⟨ns, e1, rfl⟩ := Option.map_eq_some_iff.mp e
    obtain ⟨a, rfl, hs⟩ := nums_ok o sb e1
    rcases hs with hs | hs
    · exact ⟨_, cr_sum hc, a, ns, rfl, hs, q.dat sb denI⟩
    · exact ⟨_, cr_sumT hc, a, ns, rfl, hs, q.dat sb denI⟩
  | all =>
    simp only [biS1] at e
    obtain ⟨ns, e1, rfl⟩ := Option.map_eq_some_iff.mp e
    obtain ⟨a, us, rfl, hs, hp⟩ := bls_ok o sb e1
    exact ⟨_, cr_allM hc, a, us, ns, rfl, hs, hp, q.dat sb denB⟩
  | any =>
    simp only [biS1] at e
    obtain ⟨ns, e1, rfl⟩ := Option.map_eq_some_iff.mp e
    obtain ⟨a, us, rfl, hs, hp⟩ := bls_ok o sb e1
    exact ⟨_, cr_anyM hc, a, us, ns, rfl, hs, hp, q.dat sb denB⟩
  | list =>
    simp only [biS1] at e
    obtain ⟨ds, e1, rfl⟩ := Option.map_eq_some_iff.mp e
    obtain ⟨a, vs, rfl, hs, d⟩ := o.vSq sb e1
    exact ⟨_, call_list_of, a, vs, rfl, hs, q.lst sb d⟩
  | tuple =>
    simp only [biS1] at e
    obtain ⟨ds, e1, rfl⟩ := Option.map_eq_some_iff.mp e
    rcases vSq_or e1 with e1 | rfl
    · obtain ⟨a, vs, rfl, hs, d⟩ := o.vL sb e1
      exact ⟨_, call_tuple_of, a, vs, rfl, .inl ⟨hs, q.tup sb d⟩⟩
    · obtain ⟨a, vs, rfl, hs, d⟩ := o.vT sb rfl
      exact ⟨_, call_tuple_of, a, vs, rfl, .inr ⟨hs, q.dat sb o.2⟩⟩
  | _ => simp [biS1] at e
theorem call_b2 {f : BF} (hc : X.calm = true) : CallR X (bfV f) (rb2 X.K mg f) := by
  refine CallR.cases fun xs H Q ⟨F, s, t, x, y, ps, qs, r, hx, sb, o1, o2, e, q⟩ => ?_
  subst hx
  cases f with
  | max2 =>
    simp only [biS2] at e
    unfold max2S at e
    split at e
    · cases e
      rw [o1.int, o2.int]
      exact ⟨_, call_max2 hc, _, _, rfl, q.dat sb denI⟩
    · cases e
  | min2 =>
    simp only [biS2] at e
    unfold min2S at e
    split at e
    · cases e
      rw [o1.int, o2.int]
      exact ⟨_, call_min2 hc, _, _, rfl, q.dat sb denI⟩
    · cases e
  | divmod =>
    simp only [biS2] at e
    unfold dvmS at e
    split at e
    · obtain ⟨h, e⟩ := ifs e
      cases e
      rw [o1.int, o2.int]
      exact ⟨_, call_divmod, _, _, rfl, h, q.tup sb (Dens.cons denI (Dens.cons denI Dens.nil))⟩
    · cases e
  | gcd =>
    simp only [biS2] at e
    unfold gcdS at e
    split at e
    · cases e
      rw [o1.int, o2.int]
      exact ⟨_, cr_gcd, _, _, rfl, q.dat sb denI⟩
    · cases e
  | _ => simp [biS2] at e
end
end Eng

set_option Elab.async false
set_option linter.all false
set_option maxRecDepth 100000
set_option maxHeartbeats 4000000
namespace Eng
open PySem PySem.Spec PyProof.Rows L2

/-! ### the judgements -/
def XOk (K : PySem.W.Frag) (mg : Str → Option Value) (c : Str) (d : Option (Str × D)) (cls : Value) (ad : Option Addr) (F H : Hp) : Prop :=
  ∃ C, mg c = some (.ref C) ∧ cls = .ref C ∧ match d with
    | none => True
    | some (f, d) => ∃ dd v, ad = some dd ∧ H dd = some (.xd [(f, v)]) ∧ Den K mg F d v
/-- a promise by the small language -/
def spF (K : PySem.W.Frag) (mg : Str → Option Value) (Φ : List S → FR) (n : Nat) : Sp := fun vs H Q E => ∃ F ss A, vs.length = n ∧ Sub F H ∧ OwE K mg F H (ss.map some) (vs.map some) A ∧ A.Nodup ∧ match Φ ss with
  | .ret s fin => ∀ v F' H' ps B, Go F H A F' H' (ps ++ B) → Sub F' H' → Own K mg F' H' s v ps → OwE K mg F' H' fin (vs.map some) B → (ps ++ B).Nodup → Q v H'
  | .exc c d => ∀ cls ad F' H' B, Go F H A F' H' B → Sub F' H' → XOk K mg c d cls ad F' H' → E cls ad H'
  | .stuck => False
/-- a call with keywords: np by place, then by these names; where each goes -/
structure KwP where
  f : Str
  ks : List Str
  np : Nat
  perm : List Nat
structure Fs where
  l : List (Str × Nat)
  kw : List KwP
instance : Membership (Str × Nat) Fs := ⟨fun fs p => p ∈ fs.l⟩
def pmF {α : Type} (q : KwP) (us ws : List α) : List α := if us.length = q.np ∧ ws.length = q.ks.length then pmL q.perm (us ++ ws) else []
/-- the names that a law's text has: functions with the number of their parameters -/
structure Wd (Φ : Str → List S → FR) (G : Str → Option D) (fs : Fs) (bs : List Str) (k : Nat) (P : Program) (w : World) (K : PySem.W.Frag) (mg : Str → Option Value) (base : Heap) : Prop where
  fn : ∀ f n, (f, n) ∈ fs → (∀ ss, Φ f ss ≠ .stuck → ss.length = n) ∧ ∃ fa fd ps, FnOk P w K mg base (L2.CX P w) k fa fd ps (spF K mg (Φ f) n) ∧ mg f = some (.ref fa) ∧ PySem.W.keepIn K (.ref fa) = true ∧ Binds K fd ps [] ∧ ∀ q, q ∈ fs.kw → q.f = f → KBinds K fd ps q.ks (pmF q) (pmF q)
  gl : ∀ x d, G x = some d → ∃ v u, mg x = some u ∧ RelV v u ∧ ∀ F, Den K mg F d v
  bl : ∀ x, x ∈ bs → mg x = none
  ex : ∀ f ss, Φ f ss ≠ .stuck → ∃ n, (f, n) ∈ fs
  gcd : ("gcd" : Str) ∈ bs ∨ mg "gcd" = some (.builtin "math.gcd")
structure Cok (Φ : Str → List S → FR) (G : Str → Option D) (fs : Fs) (bs : List Str) (k : Nat) (X : Cx) (W : WX) : Prop where
  nd : X.N.Nodup
  calm : X.calm = true
  room : Room k X.A
  tk : Takes X W
  wd : Wd Φ G fs bs k X.prog X.w X.K X.mg X.base
theorem Cok.hu {Φ : Str → List S → FR} {G : Str → Option D} {fs : Fs} {bs : List Str} {k : Nat} {X : Cx} {W : WX} (c : Cok Φ G fs bs k X W) : X.A.units + 64 < cLine := c.room.units

def Rn (K : PySem.W.Frag) (mg : Str → Option Value) (W : WX) (σ : L2.St) (F H : Hp) (A : List Addr) {α : Type} (r : R α) (Q : α → En → Prop) : Prop := match r with
  | .ok a en => Q a en
  | .exc c d en => ∀ cls ad F' H' A', Go F H A F' H' A' → Sok K mg F' H' σ en A' → XOk K mg c d cls ad F' H' → W cls ad σ H'
  | .stuck => False
section
variable {K : PySem.W.Frag} {mg : Str → Option Value} {W : WX} {σ : L2.St} {F H F' H' : Hp} {A A' : List Addr} {α β : Type}
theorem Rn.mono {r : R α} {Q Q' : α → En → Prop} (h : Rn K mg W σ F H A r Q) (m : ∀ a en, Q a en → Q' a en) : Rn K mg W σ F H A r Q' := by
  cases r with
  | ok a en => exact m a en h
  | exc c d en => exact h
  | stuck => exact h
theorem Rn.go {r : R α} {Q : α → En → Prop} (h : Rn K mg W σ F H A r Q) (g : Go F H A F' H' A') : Rn K mg W σ F' H' A' r Q := by
  cases r with
  | ok a en => exact h
  | exc c d en => exact fun cls ad F2 H2 A2 g2 s x => h cls ad F2 H2 A2 (g.trans g2) s x
  | stuck => exact h
theorem Rn.next {r : R α} {f : α → En → R β} {Q : β → En → Prop} (h : Rn K mg W σ F H A (r.bind f) Q) : Rn K mg W σ F H A r (fun a en => Rn K mg W σ F H A (f a en) Q) := by
  cases r with
  | ok a en => exact h
  | exc c d en => exact h
  | stuck => exact h
end

section
variable (Φ : Str → List S → FR) (G : Str → Option D) (W : WX) (K : PySem.W.Frag) (mg : Str → Option Value)
/-- an expression -/
def tI (e : E) : TE := fun σ H Q => ∃ F en A, Sok K mg F H σ en A ∧ Rn K mg W σ F H A (ev Φ G e en) fun s en' =>
  ∀ v F' H' A' ps, Go F H A F' H' (ps ++ A') → Sok K mg F' H' σ en' A' → Own K mg F' H' s v ps → (ps ++ A').Nodup → Q v H'
/-- an operand: what it has, read in place where it is a name -/
def HasO (e : E) (F H : Hp) (σ : L2.St) (en : En) (s : S) (v : V) (ps : List Addr) : Prop := match e with
  | .var i => getE en i = some s ∧ σ[i]? = some (some v) ∧ ps = []
  | _ => Own K mg F H s v ps
def tO (e : E) : TE := fun σ H Q => ∃ F en A, Sok K mg F H σ en A ∧ Rn K mg W σ F H A (opn Φ G e en) fun s en' =>
  ∀ v F' H' A' ps, Go F H A F' H' (ps ++ A') → Sok K mg F' H' σ en' A' → HasO K mg e F' H' σ en' s v ps → (ps ++ A').Nodup → Q v H'
def tIs (e : E) : TA := fun σ H Q => ∃ F en A, Sok K mg F H σ en A ∧ Rn K mg W σ F H A (evs Φ G e en) fun ss en' =>
  ∀ vs F' H' A' ps, Go F H A F' H' (ps ++ A') → Sok K mg F' H' σ en' A' → OwE K mg F' H' (ss.map some) (vs.map some) ps → (ps ++ A').Nodup → Q vs H'
/-- which names were handed on -/
def ArgV : E → L2.St → List V → Prop
  | .cons (.var i) es, σ, vs => ∃ v r, vs = v :: r ∧ σ[i]? = some (some v) ∧ ArgV es σ r
  | .cons _ es, σ, vs => ∃ v r, vs = v :: r ∧ ArgV es σ r
  | _, _, _ => True
def tIa (e : E) : TA := fun σ H Q => ∃ F en A, Sok K mg F H σ en A ∧ Rn K mg W σ F H A (eva Φ G e en) fun ss en' =>
  ∀ vs F' H' A' ps, Go F H A F' H' (ps ++ A') → Sok K mg F' H' σ en' A' → OwE K mg F' H' (ss.map some) (vs.map some) ps → (ps ++ A').Nodup → ArgV e σ vs → Q vs H'
def tIq (e : E) : TA := fun σ H Q => ∃ F en A, Sok K mg F H σ en A ∧ Rn K mg W σ F H A (evq Φ G e en) fun os en' =>
  ∀ vs F' H' A' ps, Go F H A F' H' (ps ++ A') → Sok K mg F' H' σ en' A' → OwE K mg F' H' os (vs.map some) ps → (ps ++ A').Nodup → ArgV e σ vs → Q vs H'
def tIo (e : E) : TO := fun σ H Q => ∃ F en A, Sok K mg F H σ en A ∧ Rn K mg W σ F H A (evo Φ G e en) fun o en' =>
  ∀ F' H' A', Go F H A F' H' A' → Sok K mg F' H' σ en' A' → Q o H'
def tIT (e : E) : TT := fun σ H Q => ∃ F en A, Sok K mg F H σ en A ∧ Rn K mg W σ F H A (evT Φ G e en) fun b en' =>
  ∀ F' H' A', Go F H A F' H' A' → Sok K mg F' H' σ en' A' → Q b H'
def tIi (e : E) : TT := fun σ H Q => ∃ F en A, Sok K mg F H σ en A ∧ Rn K mg W σ F H A (evi Φ G e en) fun b en' =>
  ∀ F' H' A', Go F H A F' H' A' → Sok K mg F' H' σ en' A' → Q b H'
end
theorem peC {X : Cx} {e : Expr} {t : TE} (h : ∀ σ H Q, t σ H Q → ∃ t', PE X e t' ∧ t' σ H Q) : PE X e t := ⟨fun pins s σ H Q I q => by
  obtain ⟨t', h1, h2⟩ := h σ H Q q
  exact h1.run pins s σ H Q I h2⟩
theorem ptC {X : Cx} {e : Expr} {t : TT} (h : ∀ σ H Q, t σ H Q → ∃ t', PT X e t' ∧ t' σ H Q) : PT X e t := ⟨fun pins s σ H Q I q => by
  obtain ⟨t', h1, h2⟩ := h σ H Q q
  exact h1.run pins s σ H Q I h2⟩
theorem peI {X : Cx} {e : Expr} {t t' : TE} (h : PE X e t') (m : ∀ σ H Q, t σ H Q → t' σ H Q) : PE X e t := peC fun σ H Q q => ⟨t', h, m σ H Q q⟩
theorem ptI {X : Cx} {e : Expr} {t t' : TT} (h : PT X e t') (m : ∀ σ H Q, t σ H Q → t' σ H Q) : PT X e t := ptC fun σ H Q q => ⟨t', h, m σ H Q q⟩

section
variable {Φ : Str → List S → FR} {G : Str → Option D} {fs : Fs} {bs : List Str} {k : Nat} {X : Cx} {W : WX}
variable {a b c : Expr} {ea eb ec : E} {pos : Pos}
/-- a value in hand is stored nowhere yet: new objects beside the state -/
theorem out_done {K : PySem.W.Frag} {mg : Str → Option Value} {σ : L2.St} {F H F1 H1 F' H' : Hp} {A A1 ps : List Addr} {en : En} (g : Go F H A F1 H1 A1) (x : Sok K mg F1 H1 σ en A1) (g2 : Go F1 H1 [] F' H' ps) (sb : Sub F' H') (nd : ps.Nodup) :
    Go F H A F' H' (ps ++ A1) ∧ Sok K mg F' H' σ en A1 ∧ (ps ++ A1).Nodup := by
  obtain ⟨y, n2, g3⟩ := x.grown g2 sb nd
  exact ⟨g.trans g3, y, n2⟩
theorem go_tail {F H F' H' : Hp} {A ps A' : List Addr} (g : Go F H A F' H' (ps ++ A')) : Go F H A F' H' A' := g.sub fun _ h => List.mem_append_right _ h
/-- constants -/
theorem so_const {d : D} {v : V} {x : Expr} {e : E} (h : PE X x (tC v)) (he : ∀ en, ev Φ G e en = .ok (.dat d) en) (hd : ∀ F, Den X.K X.mg F d v) : PE X x (tI Φ G W X.K X.mg e) :=
  peI h fun σ H Q ⟨F, en, A, s, q⟩ => by
    rw [he] at q
    exact q v F H A [] Go.refl s ⟨rfl, hd F⟩ (by simpa using s.nd)
theorem so_var {i : Nat} {x : Str} (hN : X.N[i]? = some x) (hv : Vis X.env.scope x) (hd : (x == ("__debug__" : Str)) = false) (hcd : (x == ("__classdict__" : Str)) = false) : PE X (.Name x pos) (tI Φ G W X.K X.mg (.var i)) :=
  peI (pe_var hN hv hd hcd) fun σ H Q ⟨F, en, A, s, q⟩ => by
    simp only [ev] at q
    split at q
    · rename_i d e
      obtain ⟨v, ps, e1, o, _⟩ := s.own e
      refine ⟨v, e1, q v F H A [] Go.refl s ⟨rfl, o.2⟩ (by simpa using s.nd)⟩
    · rename_i t _ e
      obtain ⟨v, F', B, e1, dn, s2, g⟩ := s.freeze e
      exact ⟨v, e1, q v F' H B [] g s2 ⟨rfl, dn⟩ (by simpa using s2.nd)⟩
    · exact q.elim
theorem so_opv {i : Nat} {x : Str} (hN : X.N[i]? = some x) (hv : Vis X.env.scope x) (hd : (x == ("__debug__" : Str)) = false) (hcd : (x == ("__classdict__" : Str)) = false) : PE X (.Name x pos) (tO Φ G W X.K X.mg (.var i)) :=
  peI (pe_var hN hv hd hcd) fun σ H Q ⟨F, en, A, s, q⟩ => by
    simp only [opn] at q
    cases e : getE en i with
    | none => rw [e] at q; exact q.elim
    | some t =>
      rw [e] at q
      obtain ⟨v, ps, e1, o, _⟩ := s.own e
      exact ⟨v, e1, q v F H A [] Go.refl s ⟨e, e1, rfl⟩ (by simpa using s.nd)⟩
theorem opn_ev {e : E} (h : ∀ i, e ≠ .var i) (en : En) : opn Φ G e en = ev Φ G e en := by
  cases e <;> simp only [opn] <;> exact absurd rfl (h _)
theorem has_own {K : PySem.W.Frag} {mg : Str → Option Value} {e : E} (h : ∀ i, e ≠ .var i) {F H : Hp} {σ : L2.St} {en : En} {s : S} {v : V} {ps : List Addr} : HasO K mg e F H σ en s v ps = Own K mg F H s v ps := by
  cases e <;> simp only [HasO] <;> exact absurd rfl (h _)
theorem so_op {x : Expr} {e : E} (h : ∀ i, e ≠ .var i) (p : PE X x (tI Φ G W X.K X.mg e)) : PE X x (tO Φ G W X.K X.mg e) :=
  peI p fun σ H Q ⟨F, en, A, s, q⟩ => by
    rw [opn_ev h] at q
    refine ⟨F, en, A, s, q.mono fun t en' z v F' H' A' ps g s' o nd => z v F' H' A' ps g s' ?_ nd⟩
    rw [has_own h]; exact o
/-- what an operand has, later -/
theorem has_later {K : PySem.W.Frag} {mg : Str → Option Value} {e : E} {F1 H1 F2 H2 : Hp} {σ : L2.St} {en1 en2 : En} {s s' : S} {v : V} {ps A1 A2 : List Addr} (h : HasO K mg e F1 H1 σ en1 s v ps) (nd : (ps ++ A1).Nodup) (g : Go F1 H1 A1 F2 H2 A2) (x : Sok K mg F2 H2 σ en2 A2) (r : reg e s en2 = some s') :
    ∃ ps', Own K mg F2 H2 s' v ps' := by
  by_cases hv : ∃ i, e = .var i
  · obtain ⟨i, rfl⟩ := hv
    obtain ⟨_, e1, _⟩ := h
    obtain ⟨w, qs, e2, o, _⟩ := x.own (show getE en2 i = some s' from r)
    rw [e1] at e2; cases e2
    exact ⟨qs, o⟩
  · have hv : ∀ i, e ≠ .var i := fun i z => hv ⟨i, z⟩
    rw [has_own hv] at h
    have : s' = s := by cases e <;> simp only [reg, Option.some.injEq] at r <;> first | exact r.symm | exact absurd rfl (hv _)
    subst this
    exact ⟨ps, h.go g (nodup_dis nd)⟩
theorem R_of {K : PySem.W.Frag} {mg : Str → Option Value} {α : Type} {o : Option α} {en : En} {σ : L2.St} {F H : Hp} {A : List Addr} {Q : α → En → Prop} (h : Rn K mg W σ F H A (R.of o en) Q) : ∃ a, o = some a ∧ Q a en := by
  cases o with
  | none => exact h.elim
  | some a => exact ⟨a, rfl, h⟩
theorem has_now {K : PySem.W.Frag} {mg : Str → Option Value} {e : E} {F H : Hp} {σ : L2.St} {en : En} {s : S} {v : V} {ps A : List Addr} (h : HasO K mg e F H σ en s v ps) (x : Sok K mg F H σ en A) : ∃ ps', Own K mg F H s v ps' := by
  by_cases hv : ∃ i, e = .var i
  · obtain ⟨i, rfl⟩ := hv
    obtain ⟨z1, z2, _⟩ := h
    obtain ⟨w', qs, z3, o, _⟩ := x.own z1
    rw [z2] at z3; cases z3
    exact ⟨qs, o⟩
  · rw [has_own fun i z => hv ⟨i, z⟩] at h
    exact ⟨_, h⟩
theorem ops2 {β : Type} {f : S → S → En → R β} {σ : L2.St} {F H : Hp} {A : List Addr} {en : En} {Qf : β → En → Prop} (s : Sok X.K X.mg F H σ en A)
    (q : Rn X.K X.mg W σ F H A ((opn Φ G ea en).bind fun x en => (opn Φ G eb en).bind fun y en => f x y en) Qf) (Rf : V → V → Hp → Prop)
    (h : ∀ s1 s2 en2 F2 H2 A2 v w, Go F H A F2 H2 A2 → Sok X.K X.mg F2 H2 σ en2 A2 → Rn X.K X.mg W σ F H A (f s1 s2 en2) Qf → (∀ s1', reg ea s1 en2 = some s1' → ∃ ps, Own X.K X.mg F2 H2 s1' v ps) → (∃ ps, Own X.K X.mg F2 H2 s2 w ps) → Rf v w H2) :
    tO Φ G W X.K X.mg ea σ H fun x H1 => tO Φ G W X.K X.mg eb σ H1 fun y H2 => Rf x y H2 := by
  refine ⟨F, en, A, s, q.next.mono fun s1 en1 q1 v F1 H1 A1 ps1 g1 x1 h1 nd1 => ?_⟩
  refine ⟨F1, en1, A1, x1, (q1.next.go (go_tail g1)).mono fun s2 en2 q2 w F2 H2 A2 ps2 g2 x2 h2 nd2 => ?_⟩
  exact h s1 s2 en2 F2 H2 A2 v w ((go_tail g1).trans (go_tail g2)) x2 q2 (fun s1' e1 => has_later h1 nd1 (go_tail g2) x2 e1) (has_now h2 x2)
theorem ops1 {β : Type} {f : S → En → R β} {σ : L2.St} {F H : Hp} {A : List Addr} {en : En} {Qf : β → En → Prop} (s : Sok X.K X.mg F H σ en A)
    (q : Rn X.K X.mg W σ F H A ((opn Φ G ea en).bind fun x en => f x en) Qf) (Rf : V → Hp → Prop)
    (h : ∀ s1 en2 F2 H2 A2 v, Go F H A F2 H2 A2 → Sok X.K X.mg F2 H2 σ en2 A2 → Rn X.K X.mg W σ F H A (f s1 en2) Qf → (∀ s1', reg ea s1 en2 = some s1' → ∃ ps, Own X.K X.mg F2 H2 s1' v ps) → (∃ ps, Own X.K X.mg F2 H2 s1 v ps) → Rf v H2) :
    tO Φ G W X.K X.mg ea σ H Rf := by
  refine ⟨F, en, A, s, q.next.mono fun s1 en1 q1 v F1 H1 A1 ps1 g1 x1 h1 nd1 => ?_⟩
  refine h s1 en1 F1 H1 A1 v (go_tail g1) x1 q1 (fun s1' e1 => ?_) (has_now h1 x1)
  exact has_later h1 nd1 Go.refl x1 e1
/-- two temporaries -/
theorem evs2 {β : Type} {f : S → S → En → R β} {σ : L2.St} {F H : Hp} {A : List Addr} {en : En} {Qf : β → En → Prop} (s : Sok X.K X.mg F H σ en A)
    (q : Rn X.K X.mg W σ F H A ((ev Φ G ea en).bind fun x en => (ev Φ G eb en).bind fun y en => f x y en) Qf) (Rf : V → V → Hp → Prop)
    (h : ∀ s1 s2 en2 F2 H2 A2 v w ps1 ps2, Go F H A F2 H2 ((ps1 ++ ps2) ++ A2) → Sok X.K X.mg F2 H2 σ en2 A2 → Rn X.K X.mg W σ F H A (f s1 s2 en2) Qf → Own X.K X.mg F2 H2 s1 v ps1 → Own X.K X.mg F2 H2 s2 w ps2 → ((ps1 ++ ps2) ++ A2).Nodup → Rf v w H2) :
    tI Φ G W X.K X.mg ea σ H fun x H1 => tI Φ G W X.K X.mg eb σ H1 fun y H2 => Rf x y H2 := by
  refine ⟨F, en, A, s, q.next.mono fun s1 en1 q1 v F1 H1 A1 ps1 g1 x1 h1 nd1 => ?_⟩
  refine ⟨F1, en1, A1, x1, (q1.next.go (go_tail g1)).mono fun s2 en2 q2 w F2 H2 A2 ps2 g2 x2 h2 nd2 => ?_⟩
  have dis := nodup_dis nd1
  refine h s1 s2 en2 F2 H2 A2 v w ps1 ps2 ?_ x2 q2 (h1.go g2 dis) h2 ?_
  · have := g1.trans (g2.frame (C := ps1))
    rw [← List.append_assoc] at this
    exact this
  · rw [List.append_assoc]
    exact nodup_mk (List.nodup_append.mp nd1).1 nd2 (dis_go g2 dis fun a ha => (h1.here a ha).2)
theorem so_bin {o : Operator} (ha : PE X a (tO Φ G W X.K X.mg ea)) (hb : PE X b (tO Φ G W X.K X.mg eb)) : PE X (.BinOp a o b pos) (tI Φ G W X.K X.mg (.bin o ea eb)) :=
  peI (pe_op (op_bin (mg := X.mg)) ha hb) fun σ H Q ⟨F, en, A, s, q⟩ => by
    simp only [ev] at q
    refine ops2 s q (fun v w H2 => r2 X.K X.mg (binS o) v w H2 Q) fun s1 s2 en2 F2 H2 A2 v w g x q2 o1 o2 => ?_
    obtain ⟨r, e, q3⟩ := R_of q2
    obtain ⟨s1', e1, e2⟩ := Option.bind_eq_some_iff.mp e
    obtain ⟨_, o1⟩ := o1 _ e1
    obtain ⟨_, o2⟩ := o2
    refine ⟨F2, s1', s2, _, _, r, x.sub, o1, o2, e2, fun u F' H' ps g2 sb o nd => ?_⟩
    obtain ⟨g5, x5, n5⟩ := out_done g x g2 sb nd
    exact q3 u F' H' A2 ps g5 x5 o n5
theorem so_cmp {o : CmpOp} (hu : X.A.units + 64 < cLine) (ha : PE X a (tO Φ G W X.K X.mg ea)) (hb : PE X b (tO Φ G W X.K X.mg eb)) (hm : behindInMarks o b = false) : PE X (.Compare a [o] [b] pos) (tI Φ G W X.K X.mg (.cmp o ea eb)) :=
  peI (pe_cmpR (op_cmp (mg := X.mg) hu) ha hb hm) fun σ H Q ⟨F, en, A, s, q⟩ => by
    simp only [ev] at q
    refine ops2 s q (fun v w H2 => rc X.K X.mg (cmpS o) v w H2 Q) fun s1 s2 en2 F2 H2 A2 v w g x q2 o1 o2 => ?_
    obtain ⟨r, e, q3⟩ := R_of q2
    obtain ⟨s1', e1, e2⟩ := Option.bind_eq_some_iff.mp e
    obtain ⟨b, e3, rfl⟩ := Option.map_eq_some_iff.mp e2
    obtain ⟨_, o1⟩ := o1 _ e1
    obtain ⟨_, o2⟩ := o2
    exact ⟨F2, s1', s2, _, _, b, x.sub, o1, o2, e3, q3 _ F2 H2 A2 [] g x ⟨rfl, denB⟩ (by simpa using x.nd)⟩
theorem so_cmpT {o : CmpOp} (hu : X.A.units + 64 < cLine) (ha : PE X a (tO Φ G W X.K X.mg ea)) (hb : PE X b (tO Φ G W X.K X.mg eb)) (hm : behindInMarks o b = false) : PT X (.Compare a [o] [b] pos) (tIT Φ G W X.K X.mg (.cmp o ea eb)) :=
  ptI (pt_cmpR (op_cmp (mg := X.mg) hu) ha hb hm) fun σ H Q ⟨F, en, A, s, q⟩ => by
    simp only [evT] at q
    refine ops2 s q (fun v w H2 => rc X.K X.mg (cmpS o) v w H2 fun x H' => ∃ k, x = .bl k ∧ Q k H') fun s1 s2 en2 F2 H2 A2 v w g x q2 o1 o2 => ?_
    obtain ⟨r, e, q3⟩ := R_of q2
    obtain ⟨s1', e1, e2⟩ := Option.bind_eq_some_iff.mp e
    obtain ⟨_, o1⟩ := o1 _ e1
    obtain ⟨_, o2⟩ := o2
    exact ⟨F2, s1', s2, _, _, r, x.sub, o1, o2, e2, r, rfl, q3 F2 H2 A2 g x⟩
theorem so_neg (ha : PE X a (tI Φ G W X.K X.mg ea)) : PE X (.UnaryOp .USub a pos) (tI Φ G W X.K X.mg (.neg ea)) :=
  peI (pe_un un_neg ha) fun σ H Q ⟨F, en, A, s, q⟩ => by
    simp only [ev] at q
    refine ⟨F, en, A, s, q.next.mono fun s1 en1 q1 v F1 H1 A1 ps1 g1 x1 h1 nd1 => ?_⟩
    split at q1
    · rename_i i
      rw [h1.int]
      exact ⟨i, rfl, q1 _ F1 H1 A1 [] (go_tail g1) x1 ⟨rfl, denI⟩ (by simpa using x1.nd)⟩
    · exact q1.elim
/-- truth -/
theorem tru_1 {K : PySem.W.Frag} {mg : Str → Option Value} {F H : Hp} {s : S} {v : V} {ps : List Addr} {b : Bool} (o : Own K mg F H s v ps) (sb : Sub F H) (e : truD s = some b) : TruV K v H b := by
  have emp : ∀ {ds : List D} {vs : List V}, Dens K mg F ds vs → ds.isEmpty = vs.isEmpty := fun {ds vs} d => by
    have := d.len
    cases ds <;> cases vs <;> simp_all
  unfold truD at e
  split at e
  · cases e; rw [o.non]; rfl
  · cases e; rw [o.bl]; rfl
  · cases e; rw [o.int]; rfl
  · obtain ⟨h, e⟩ := ifs e
    cases e
    rw [o.str]
    exact ⟨by rw [← SZ_eq]; exact h, rfl⟩
  · cases e
    obtain ⟨a, vs, rfl, h1, d⟩ := o.vT sb rfl
    exact .inr (.inl ⟨vs, h1, by rw [emp d]⟩)
  · cases e
    obtain ⟨a, vs, rfl, h1, d⟩ := o.vL sb rfl
    exact .inl ⟨vs, h1, by rw [emp d]⟩
  · cases e
    obtain ⟨a, vs, rfl, h1, d⟩ := o.vL sb rfl
    exact .inl ⟨vs, h1, by rw [emp d]⟩
  · cases e
theorem so_not (ha : PE X a (tI Φ G W X.K X.mg ea)) : PE X (.UnaryOp .Not a pos) (tI Φ G W X.K X.mg (.not_ ea)) :=
  peI (pe_notT ha) fun σ H Q ⟨F, en, A, s, q⟩ => by
    simp only [ev] at q
    refine ⟨F, en, A, s, q.next.mono fun s1 en1 q1 v F1 H1 A1 ps1 g1 x1 h1 nd1 => ?_⟩
    obtain ⟨r, e, q3⟩ := R_of q1
    obtain ⟨b, e3, rfl⟩ := Option.map_eq_some_iff.mp e
    exact ⟨b, tru_1 h1 x1.sub e3, q3 _ F1 H1 A1 [] (go_tail g1) x1 ⟨rfl, denB⟩ (by simpa using x1.nd)⟩
theorem so_and {rest : List Expr} (ha : PE X a (tI Φ G W X.K X.mg ea)) (hb : PE X (.BoolOp .And (b :: rest) pos) (tI Φ G W X.K X.mg eb)) : PE X (.BoolOp .And (a :: b :: rest) pos) (tI Φ G W X.K X.mg (.and_ ea eb)) :=
  peI (pe_andT ha hb) fun σ H Q ⟨F, en, A, s, q⟩ => by
    simp only [ev] at q
    refine ⟨F, en, A, s, q.next.mono fun s1 en1 q1 v F1 H1 A1 ps1 g1 x1 h1 nd1 => ?_⟩
    split at q1
    · rename_i e
      refine ⟨true, tru_1 h1 x1.sub e, iteT ⟨F1, en1, A1, x1, (q1.go (go_tail g1)).mono fun s2 en2 q2 w F2 H2 A2 ps2 g2 x2 h2 nd2 => ?_⟩⟩
      exact q2 w F2 H2 A2 ps2 ((go_tail g1).trans g2) x2 h2 nd2
    · rename_i e
      exact ⟨false, tru_1 h1 x1.sub e, iteF (q1 v F1 H1 A1 ps1 g1 x1 h1 nd1)⟩
    · exact q1.elim
theorem so_or {rest : List Expr} (ha : PE X a (tI Φ G W X.K X.mg ea)) (hb : PE X (.BoolOp .Or (b :: rest) pos) (tI Φ G W X.K X.mg eb)) : PE X (.BoolOp .Or (a :: b :: rest) pos) (tI Φ G W X.K X.mg (.or_ ea eb)) :=
  peI (pe_orT ha hb) fun σ H Q ⟨F, en, A, s, q⟩ => by
    simp only [ev] at q
    refine ⟨F, en, A, s, q.next.mono fun s1 en1 q1 v F1 H1 A1 ps1 g1 x1 h1 nd1 => ?_⟩
    split at q1
    · rename_i e
      exact ⟨true, tru_1 h1 x1.sub e, iteT (q1 v F1 H1 A1 ps1 g1 x1 h1 nd1)⟩
    · rename_i e
      refine ⟨false, tru_1 h1 x1.sub e, iteF ⟨F1, en1, A1, x1, (q1.go (go_tail g1)).mono fun s2 en2 q2 w F2 H2 A2 ps2 g2 x2 h2 nd2 => ?_⟩⟩
      exact q2 w F2 H2 A2 ps2 ((go_tail g1).trans g2) x2 h2 nd2
    · exact q1.elim
theorem so_one {op : BoolOp} (ha : PE X a (tI Φ G W X.K X.mg ea)) : PE X (.BoolOp op [a] pos) (tI Φ G W X.K X.mg ea) := pe_one ha
theorem so_ife (hc : PT X c (tIT Φ G W X.K X.mg ec)) (ha : PE X a (tI Φ G W X.K X.mg ea)) (hb : PE X b (tI Φ G W X.K X.mg eb)) : PE X (.IfExp c a b pos) (tI Φ G W X.K X.mg (.ife ec ea eb)) :=
  peI (pe_ifExp hc ha hb) fun σ H Q ⟨F, en, A, s, q⟩ => by
    simp only [ev] at q
    refine ⟨F, en, A, s, q.next.mono fun k en1 q1 F1 H1 A1 g1 x1 => ?_⟩
    cases k with
    | true => exact iteT ⟨F1, en1, A1, x1, (q1.go g1).mono fun s2 en2 q2 w F2 H2 A2 ps2 g2 x2 h2 nd2 => q2 w F2 H2 A2 ps2 (g1.trans g2) x2 h2 nd2⟩
    | false => exact iteF ⟨F1, en1, A1, x1, (q1.go g1).mono fun s2 en2 q2 w F2 H2 A2 ps2 g2 x2 h2 nd2 => q2 w F2 H2 A2 ps2 (g1.trans g2) x2 h2 nd2⟩
/-! tests -/
theorem so_andT {rest : List Expr} (ha : PT X a (tIT Φ G W X.K X.mg ea)) (hb : PW X (.BoolOp .And (b :: rest) pos) (tIT Φ G W X.K X.mg eb)) : PW X (.BoolOp .And (a :: b :: rest) pos) (tIT Φ G W X.K X.mg (.and_ ea eb)) :=
  ⟨fun wh pins s0 σ H Q I hq => (pw_and ha hb).run wh pins s0 σ H Q I (by
    obtain ⟨F, en, A, s, q⟩ := hq
    simp only [evT] at q
    refine ⟨F, en, A, s, q.next.mono fun k en1 q1 F1 H1 A1 g1 x1 => ?_⟩
    cases k with
    | true => exact iteT ⟨F1, en1, A1, x1, (q1.go g1).mono fun k2 en2 q2 F2 H2 A2 g2 x2 => q2 F2 H2 A2 (g1.trans g2) x2⟩
    | false => exact iteF (q1 F1 H1 A1 g1 x1))⟩
theorem so_orT {rest : List Expr} (ha : PT X a (tIT Φ G W X.K X.mg ea)) (hb : PW X (.BoolOp .Or (b :: rest) pos) (tIT Φ G W X.K X.mg eb)) : PW X (.BoolOp .Or (a :: b :: rest) pos) (tIT Φ G W X.K X.mg (.or_ ea eb)) :=
  ⟨fun wh pins s0 σ H Q I hq => (pw_or ha hb).run wh pins s0 σ H Q I (by
    obtain ⟨F, en, A, s, q⟩ := hq
    simp only [evT] at q
    refine ⟨F, en, A, s, q.next.mono fun k en1 q1 F1 H1 A1 g1 x1 => ?_⟩
    cases k with
    | true => exact iteT (q1 F1 H1 A1 g1 x1)
    | false => exact iteF ⟨F1, en1, A1, x1, (q1.go g1).mono fun k2 en2 q2 F2 H2 A2 g2 x2 => q2 F2 H2 A2 (g1.trans g2) x2⟩)⟩
theorem so_notT (ha : PT X a (tIT Φ G W X.K X.mg ea)) : PT X (.UnaryOp .Not a pos) (tIT Φ G W X.K X.mg (.not_ ea)) :=
  ptI (pt_not ha) fun σ H Q ⟨F, en, A, s, q⟩ => by
    simp only [evT] at q
    refine ⟨F, en, A, s, q.next.mono fun k en1 q1 F1 H1 A1 g1 x1 => ?_⟩
    exact q1 F1 H1 A1 g1 x1
/-- any other expression as a test, by its truth -/
theorem so_tru {x : Expr} {e : E} (ha : PE X x (tO Φ G W X.K X.mg e)) (hp : ∀ whole, isTrue x X.env whole = (do let v ← whole; standAt x.pos; holding [v] (truthy v))) (he : ∀ en, evT Φ G e en = (opn Φ G e en).bind fun x en => R.of (truD x) en) : PT X x (tIT Φ G W X.K X.mg e) :=
  ptI (pt_truth ha hp) fun σ H Q ⟨F, en, A, s, q⟩ => by
    rw [he] at q
    refine ops1 s q (fun v H2 => ∃ k, TruV X.K v H2 k ∧ Q k H2) fun s1 en2 F2 H2 A2 v g x q2 o1 o2 => ?_
    obtain ⟨r, e, q3⟩ := R_of q2
    obtain ⟨_, o2⟩ := o2
    exact ⟨r, tru_1 o2 x.sub e, q3 F2 H2 A2 g x⟩
end
end Eng

set_option Elab.async false
set_option linter.all false
set_option maxRecDepth 100000
set_option maxHeartbeats 4000000
namespace Eng
open PySem PySem.Spec PyProof.Rows L2
section
variable {Φ : Str → List S → FR} {G : Str → Option D} {fs : Fs} {bs : List Str} {k : Nat} {X : Cx} {W : WX}
variable {a b c e : Expr} {es : List Expr} {ea eb ec ees : E} {pos p : Pos}
theorem paC {X : Cx} {es : List Expr} {t : TA} (h : ∀ σ H Q, t σ H Q → ∃ t', PA X es t' ∧ t' σ H Q) : PA X es t := ⟨fun pos pins s σ H Q I q => by
  obtain ⟨t', h1, h2⟩ := h σ H Q q
  exact h1.run pos pins s σ H Q I h2⟩
theorem paI {X : Cx} {es : List Expr} {t t' : TA} (h : PA X es t') (m : ∀ σ H Q, t σ H Q → t' σ H Q) : PA X es t := paC fun σ H Q q => ⟨t', h, m σ H Q q⟩
/-! ### several -/
theorem so_nil : PA X [] (tIs Φ G W X.K X.mg .nil) := paI pa_nil fun σ H Q ⟨F, en, A, s, q⟩ => by
  simp only [evs] at q
  exact q [] F H A [] Go.refl s (by simp [OwE]) (by simpa using s.nd)
theorem so_anil : PA X [] (tIq Φ G W X.K X.mg .nil) := paI pa_nil fun σ H Q ⟨F, en, A, s, q⟩ => by
  simp only [evq] at q
  exact q [] F H A [] Go.refl s (by simp [OwE]) (by simpa using s.nd) (by simp [ArgV])
theorem cons_own {K : PySem.W.Frag} {mg : Str → Option Value} {F H F1 H1 F2 H2 : Hp} {A A1 A2 ps1 ps2 : List Addr} {σ : L2.St} {en : En} {s1 : S} {ss : List S} {v : V} {vs : List V}
    (g1 : Go F H A F1 H1 (ps1 ++ A1)) (h1 : Own K mg F1 H1 s1 v ps1) (nd1 : (ps1 ++ A1).Nodup) (g2 : Go F1 H1 A1 F2 H2 (ps2 ++ A2)) (x2 : Sok K mg F2 H2 σ en A2) (h2 : OwE K mg F2 H2 (ss.map some) (vs.map some) ps2) (nd2 : (ps2 ++ A2).Nodup) :
    Go F H A F2 H2 ((ps1 ++ ps2) ++ A2) ∧ OwE K mg F2 H2 ((s1 :: ss).map some) ((v :: vs).map some) (ps1 ++ ps2) ∧ ((ps1 ++ ps2) ++ A2).Nodup := by
  have dis := nodup_dis nd1
  refine ⟨?_, ?_, ?_⟩
  · have := g1.trans (g2.frame (C := ps1))
    rw [← List.append_assoc] at this
    exact this
  · simp only [List.map_cons, OwE]
    exact ⟨v, _, ps1, ps2, rfl, rfl, h1.go g2 dis, h2⟩
  · rw [List.append_assoc]
    exact nodup_mk (List.nodup_append.mp nd1).1 nd2 (dis_go g2 dis fun a ha => (h1.here a ha).2)
theorem so_cons (ha : PE X a (tI Φ G W X.K X.mg ea)) (hr : PA X es (tIs Φ G W X.K X.mg ees)) (hs : starEach (a :: es) X.env = (false, eval a X.env) :: starEach es X.env := by rfl) : PA X (a :: es) (tIs Φ G W X.K X.mg (.cons ea ees)) :=
  paI (pa_cons ha hr hs) fun σ H Q ⟨F, en, A, s, q⟩ => by
    simp only [evs] at q
    refine ⟨F, en, A, s, q.next.mono fun s1 en1 q1 v F1 H1 A1 ps1 g1 x1 h1 nd1 => ?_⟩
    refine ⟨F1, en1, A1, x1, (q1.next.go (go_tail g1)).mono fun ss en2 q2 vs F2 H2 A2 ps2 g2 x2 h2 nd2 => ?_⟩
    obtain ⟨g, o, nd⟩ := cons_own g1 h1 nd1 g2 x2 h2 nd2
    exact q2 (v :: vs) F2 H2 A2 (ps1 ++ ps2) g x2 o nd
def E.isV : E → Bool
  | .var _ => true | _ => false
theorem isV_ne {e : E} (h : e.isV = false) : ∀ i, e ≠ .var i := fun i z => by rw [z] at h; cases h
theorem evq_cons (h : ea.isV = false) (en : En) : evq Φ G (.cons ea ees) en = (ev Φ G ea en).bind fun s en => (evq Φ G ees en).bind fun ss en => .ok (some s :: ss) en := by
  cases ea <;> simp only [evq] <;> (exact absurd h (by simp [E.isV]))
theorem argV_cons {K : PySem.W.Frag} (h : ea.isV = false) {σ : L2.St} {v : V} {vs : List V} (q : ArgV ees σ vs) : ArgV (.cons ea ees) σ (v :: vs) := by
  cases ea <;> simp only [ArgV] <;> first | exact ⟨v, vs, rfl, q⟩ | exact absurd h (by simp [E.isV])
theorem cons_ownO {K : PySem.W.Frag} {mg : Str → Option Value} {F H F1 H1 F2 H2 : Hp} {A A1 A2 ps1 ps2 : List Addr} {σ : L2.St} {en : En} {s1 : S} {os : List (Option S)} {v : V} {vs : List V}
    (g1 : Go F H A F1 H1 (ps1 ++ A1)) (h1 : Own K mg F1 H1 s1 v ps1) (nd1 : (ps1 ++ A1).Nodup) (g2 : Go F1 H1 A1 F2 H2 (ps2 ++ A2)) (x2 : Sok K mg F2 H2 σ en A2) (h2 : OwE K mg F2 H2 os (vs.map some) ps2) (nd2 : (ps2 ++ A2).Nodup) :
    Go F H A F2 H2 ((ps1 ++ ps2) ++ A2) ∧ OwE K mg F2 H2 (some s1 :: os) ((v :: vs).map some) (ps1 ++ ps2) ∧ ((ps1 ++ ps2) ++ A2).Nodup := by
  have dis := nodup_dis nd1
  refine ⟨?_, ?_, ?_⟩
  · have := g1.trans (g2.frame (C := ps1))
    rw [← List.append_assoc] at this
    exact this
  · simp only [List.map_cons, OwE]
    exact ⟨v, _, ps1, ps2, rfl, rfl, h1.go g2 dis, h2⟩
  · rw [List.append_assoc]
    exact nodup_mk (List.nodup_append.mp nd1).1 nd2 (dis_go g2 dis fun a ha => (h1.here a ha).2)
theorem so_acons (ha : PE X a (tI Φ G W X.K X.mg ea)) (hr : PA X es (tIq Φ G W X.K X.mg ees)) (hv : ea.isV = false := by rfl) (hs : starEach (a :: es) X.env = (false, eval a X.env) :: starEach es X.env := by rfl) : PA X (a :: es) (tIq Φ G W X.K X.mg (.cons ea ees)) :=
  paI (pa_cons ha hr hs) fun σ H Q ⟨F, en, A, s, q⟩ => by
    rw [evq_cons hv] at q
    refine ⟨F, en, A, s, q.next.mono fun s1 en1 q1 v F1 H1 A1 ps1 g1 x1 h1 nd1 => ?_⟩
    refine ⟨F1, en1, A1, x1, (q1.next.go (go_tail g1)).mono fun ss en2 q2 vs F2 H2 A2 ps2 g2 x2 h2 nd2 av => ?_⟩
    obtain ⟨g, o, nd⟩ := cons_ownO g1 h1 nd1 g2 x2 h2 nd2
    exact q2 (v :: vs) F2 H2 A2 (ps1 ++ ps2) g x2 o nd (argV_cons (K := X.K) hv av)
theorem so_aconsv {i : Nat} {x : Str} (hN : X.N[i]? = some x) (hv : Vis X.env.scope x) (hr : PA X es (tIq Φ G W X.K X.mg ees)) (hd : (x == ("__debug__" : Str)) = false := by decide) (hcd : (x == ("__classdict__" : Str)) = false := by decide)
    (hs : starEach (.Name x p :: es) X.env = (false, eval (.Name x p) X.env) :: starEach es X.env := by rfl) : PA X (.Name x p :: es) (tIq Φ G W X.K X.mg (.cons (.var i) ees)) :=
  paI (pa_cons (pe_var hN hv hd hcd) hr hs) fun σ H Q ⟨F, en, A, s, q⟩ => by
    simp only [evq] at q
    split at q
    · rename_i t e
      obtain ⟨v, ps, e1, o, _⟩ := s.own e
      refine ⟨v, e1, F, en, A, s, q.next.mono fun ss en2 q2 vs F2 H2 A2 ps2 g2 x2 h2 nd2 av => ?_⟩
      refine q2 (v :: vs) F2 H2 A2 ps2 g2 x2 ?_ nd2 ⟨v, vs, rfl, e1, av⟩
      simp only [List.map_cons, OwE]
      exact ⟨_, _, rfl, h2⟩
    · exact q.elim
/-- the second turn -/
theorem take_ok {K : PySem.W.Frag} {mg : Str → Option Value} {F H : Hp} {σ : L2.St} : ∀ (e : E) (os : List (Option S)) (en : En) (vs : List V) (ps A : List Addr) (ss : List S) (en' : En), takeE e os en = some (ss, en') → Sok K mg F H σ en A → OwE K mg F H os (vs.map some) ps → ArgV e σ vs → (ps ++ A).Nodup →
    ∃ ps' A', Sok K mg F H σ en' A' ∧ OwE K mg F H (ss.map some) (vs.map some) ps' ∧ (ps' ++ A').Nodup ∧ ∀ a, a ∈ ps' ++ A' → a ∈ ps ++ A := by
  intro e os en
  fun_induction takeE e os en with
  | case1 en =>
    intro vs ps A ss en' h x o av nd
    cases h
    exact ⟨ps, A, x, o, nd, fun _ h => h⟩
  | case2 i es os en d e ih =>
    intro vs ps A ss en' h x o av nd
    simp only [ArgV] at av
    obtain ⟨v, r, rfl, hv, av⟩ := av
    obtain ⟨⟨ss2, en2⟩, hk, h⟩ := Option.map_eq_some_iff.mp h
    cases h
    simp only [List.map_cons, OwE] at o
    obtain ⟨_, _, eq, o⟩ := o
    cases eq
    obtain ⟨ps', A', x2, o2, nd2, sb⟩ := ih r ps A ss2 en2 hk x o av nd
    obtain ⟨w, qs, e1, ow, _⟩ := x.own e
    rw [hv] at e1; cases e1
    refine ⟨ps', A', x2, ?_, nd2, sb⟩
    simp only [List.map_cons, OwE]
    exact ⟨v, _, [], ps', rfl, rfl, ⟨rfl, ow.2⟩, o2⟩
  | case3 i es os en s hs e ih =>
    intro vs ps A ss en' h x o av nd
    simp only [ArgV] at av
    obtain ⟨v, r, rfl, hv, av⟩ := av
    obtain ⟨⟨ss2, en2⟩, hk, h⟩ := Option.map_eq_some_iff.mp h
    cases h
    simp only [List.map_cons, OwE] at o
    obtain ⟨_, _, eq, o⟩ := o
    cases eq
    obtain ⟨w, qs, B, e1, ow, x1, pm⟩ := x.take e
    rw [hv] at e1; cases e1
    obtain ⟨n1, n2, n3⟩ := List.nodup_append.mp nd
    have nq := pm.nodup_iff.mp n2
    have nd1 : (ps ++ B).Nodup := nodup_mk n1 (List.nodup_append.mp nq).2.1 fun a ha hb => n3 a ha a (pm.mem_iff.mpr (List.mem_append_right _ hb)) rfl
    obtain ⟨ps', A', x2, o2, nd2, sb⟩ := ih r ps B ss2 en2 hk x1 o av nd1
    have dq : ∀ a, a ∈ qs → a ∉ ps' ++ A' := fun a ha hb => by
      rcases List.mem_append.mp (sb a hb) with z | z
      · exact n3 a z a (pm.mem_iff.mpr (List.mem_append_left _ ha)) rfl
      · exact nodup_dis nq a ha z
    refine ⟨qs ++ ps', A', x2, ?_, ?_, fun a ha => ?_⟩
    · simp only [List.map_cons, OwE]
      exact ⟨v, _, qs, ps', rfl, rfl, ow, o2⟩
    · rw [List.append_assoc]
      exact nodup_mk (List.nodup_append.mp nq).1 nd2 dq
    · rw [List.append_assoc] at ha
      rcases List.mem_append.mp ha with z | z
      · exact List.mem_append_right _ (pm.mem_iff.mpr (List.mem_append_left _ z))
      · rcases List.mem_append.mp (sb a z) with w | w
        · exact List.mem_append_left _ w
        · exact List.mem_append_right _ (pm.mem_iff.mpr (List.mem_append_right _ w))
  | case4 => intro vs ps A ss en' h; cases h
  | case5 e0 es s os en ih =>
    intro vs ps A ss en' h x o av nd
    have av2 : ∃ v r, vs = v :: r ∧ ArgV es σ r := by
      by_cases hv : ∃ i, e0 = .var i
      · obtain ⟨i, rfl⟩ := hv
        simp only [ArgV] at av
        obtain ⟨v, r, h, _, q⟩ := av
        exact ⟨v, r, h, q⟩
      · cases e0 <;> simp only [ArgV] at av <;> first | exact av | exact absurd ⟨_, rfl⟩ hv
    obtain ⟨v, r, rfl, av3⟩ := av2
    obtain ⟨⟨ss2, en2⟩, hk, h⟩ := Option.map_eq_some_iff.mp h
    cases h
    simp only [List.map_cons, OwE] at o
    obtain ⟨w, _, p1, B, eq, rfl, o1, o⟩ := o
    cases eq
    rw [List.append_assoc] at nd
    obtain ⟨n1, n2, n3⟩ := List.nodup_append.mp nd
    obtain ⟨ps', A', x2, o2, nd2, sb⟩ := ih r B A ss2 en2 hk x o av3 n2
    refine ⟨p1 ++ ps', A', x2, ?_, ?_, fun a ha => ?_⟩
    · simp only [List.map_cons, OwE]
      exact ⟨v, _, p1, ps', rfl, rfl, o1, o2⟩
    · rw [List.append_assoc]
      exact nodup_mk n1 nd2 fun a ha hb => n3 a ha a (sb a hb) rfl
    · rw [List.append_assoc] at ha ⊢
      rcases List.mem_append.mp ha with z | z
      · exact List.mem_append_left _ z
      · exact List.mem_append_right _ (sb a z)
  | case6 => intro vs ps A ss en' h; cases h
theorem so_args (h : PA X es (tIq Φ G W X.K X.mg ees)) : PA X es (tIa Φ G W X.K X.mg ees) := paI h fun σ H Q ⟨F, en, A, s, q⟩ => by
  unfold eva at q
  refine ⟨F, en, A, s, q.next.mono fun os en1 q1 vs F1 H1 A1 ps g1 x1 o nd av => ?_⟩
  cases ht : takeE ees os en1 with
  | none => rw [ht] at q1; exact q1.elim
  | some r =>
    obtain ⟨ss, en2⟩ := r
    rw [ht] at q1
    obtain ⟨ps', A', x2, o2, nd2, sb⟩ := take_ok ees os en1 vs ps A1 ss en2 ht x1 o av nd
    exact q1 vs F1 H1 A' ps' (g1.sub sb) x2 o2 nd2 av
/-! ### displays -/
theorem frz_more {F H : Hp} {qs ps : List Addr} (h : ∀ a, a ∈ qs → a ∈ ps) (hn : ∀ a, a ∈ ps → F a = none) : ∀ a o, frz F H qs a = some o → frz F H ps a = some o := fun a o e => by
  unfold frz at e ⊢
  by_cases hq : a ∈ qs
  · rw [if_pos hq] at e; rw [if_pos (h a hq)]; exact e
  · rw [if_neg hq] at e
    by_cases hp : a ∈ ps
    · rw [hn a hp] at e; cases e
    · rw [if_neg hp]; exact e
theorem OwE.fz {K : PySem.W.Frag} {mg : Str → Option Value} {F H : Hp} : ∀ {ss : List S} {vs : List V} {ps : List Addr}, OwE K mg F H (ss.map some) (vs.map some) ps → ∀ qs, (∀ a, a ∈ ps → a ∈ qs) → (∀ a, a ∈ qs → F a = none) → Dens K mg (frz F H qs) (ss.map fz) vs
  | [], vs, ps, h, qs, _, _ => by
    simp only [List.map_nil, OwE, List.map_eq_nil_iff] at h
    rw [h.1]; exact Dens.nil
  | s :: ss, vs, ps, h, qs, hq, hn => by
    simp only [List.map_cons, OwE] at h
    obtain ⟨v, r, p1, B, e1, rfl, o, h⟩ := h
    cases vs with
    | nil => cases e1
    | cons w ws =>
      simp only [List.map_cons, List.cons.injEq, Option.some.injEq] at e1
      obtain ⟨rfl, rfl⟩ := e1
      exact Dens.cons (Den.mono (frz_more (fun a ha => hq a (List.mem_append_left _ ha)) hn) _ _ o.fz) (OwE.fz h qs (fun a ha => hq a (List.mem_append_right _ ha)) hn)
theorem Go.freeze {F H : Hp} {ps : List Addr} (hn : ∀ a, a ∈ ps → F a = none) : Go F H ps (frz F H ps) H [] := by
  refine ⟨frz_f hn, fun _ _ _ z => z, fun a z => ?_, fun a z => nomatch z⟩
  by_cases ha : a ∈ ps
  · exact .inr (.inr ha)
  · unfold frz at z; rw [if_neg ha] at z; exact .inl z
theorem Sub.freeze {F H : Hp} {ps : List Addr} (sb : Sub F H) : Sub (frz F H ps) H := fun a o z => by
  unfold frz at z
  by_cases ha : a ∈ ps
  · rw [if_pos ha] at z; exact z
  · rw [if_neg ha] at z; exact sb a o z
theorem frz_go {K : PySem.W.Frag} {mg : Str → Option Value} {F H : Hp} {ps A : List Addr} {σ : L2.St} {en : En} (x : Sok K mg F H σ en A) (nd : (ps ++ A).Nodup) (hn : ∀ a, a ∈ ps → F a = none) : Sok K mg (frz F H ps) H σ en A ∧ Go F H (ps ++ A) (frz F H ps) H A := by
  have g := Go.freeze (H := H) hn
  refine ⟨x.go g (Sub.freeze x.sub) fun a ha hb => nodup_dis nd a hb ha, ?_⟩
  have := g.frame (C := A)
  rw [List.append_nil] at this
  exact this.wide fun a ha => by
    rcases List.mem_append.mp ha with z | z
    · exact List.mem_append_right _ z
    · exact List.mem_append_left _ z
/-- all in hand is frozen -/
theorem frz_all {K : PySem.W.Frag} {mg : Str → Option Value} {F H : Hp} {ps A : List Addr} {σ : L2.St} {en : En} {ss : List S} {vs : List V} (x : Sok K mg F H σ en A) (o : OwE K mg F H (ss.map some) (vs.map some) ps) (nd : (ps ++ A).Nodup) :
    Sok K mg (frz F H ps) H σ en A ∧ Go F H (ps ++ A) (frz F H ps) H A ∧ Dens K mg (frz F H ps) (ss.map fz) vs := by
  have hn : ∀ a, a ∈ ps → F a = none := fun a ha => (o.here a ha).1
  obtain ⟨h1, h2⟩ := frz_go x nd hn
  exact ⟨h1, h2, o.fz ps (fun _ h => h) hn⟩
theorem so_tup {n : Nat} (ha : PA X es (tIs Φ G W X.K X.mg ees)) : PE X (.Tuple es n pos) (tI Φ G W X.K X.mg (.tup ees)) :=
  peI (pe_tup ha) fun σ H Q ⟨F, en, A, s, q⟩ => by
    simp only [ev] at q
    refine ⟨F, en, A, s, q.next.mono fun ss en1 q1 vs F1 H1 A1 ps g1 x1 h1 nd1 => ?_⟩
    split at q1
    · rename_i hl
      obtain ⟨x2, g2, d⟩ := frz_all x1 h1 nd1
      have hlen : vs.length ≤ sizeLine := by rw [d.len, List.length_map, ← SZ_eq]; exact hl
      refine ⟨hlen, fun p hp => ?_⟩
      obtain ⟨g3, x3, n3⟩ := out_done (g1.trans g2) x2 (go_frz hp x2.sub (.tup vs)) (upd_sub hp x2.sub _) List.nodup_nil
      exact q1 _ _ _ A1 [] g3 x3 (new_tup hp x2.sub d) n3
    · exact q1.elim
theorem so_lst (ha : PA X es (tIs Φ G W X.K X.mg ees)) : PE X (.List es pos) (tI Φ G W X.K X.mg (.lst ees)) :=
  peI (pe_lst ha) fun σ H Q ⟨F, en, A, s, q⟩ => by
    simp only [ev] at q
    refine ⟨F, en, A, s, q.next.mono fun ss en1 q1 vs F1 H1 A1 ps g1 x1 h1 nd1 => ?_⟩
    split at q1
    · rename_i hl
      obtain ⟨x2, g2, d⟩ := frz_all x1 h1 nd1
      have hlen : vs.length ≤ sizeLine := by rw [d.len, List.length_map, ← SZ_eq]; exact hl
      refine ⟨hlen, fun p hp => ?_⟩
      obtain ⟨g3, x3, n3⟩ := out_done (g1.trans g2) x2 (go_own hp (.lst vs)) (sub_own hp x2.sub _) (by simp)
      exact q1 _ _ _ A1 [p] g3 x3 (new_lst hp x2.sub d) n3
    · exact q1.elim
/-! ### subscripts, slices -/
theorem so_ix (ha : PE X a (tO Φ G W X.K X.mg ea)) (hb : PE X b (tO Φ G W X.K X.mg eb)) (hs : PlainIx b := by exact fun _ _ => rfl) : PE X (.Subscript a b pos) (tI Φ G W X.K X.mg (.ix ea eb)) :=
  peI (pe_ix (ix_1 (mg := X.mg)) ha hb hs) fun σ H Q ⟨F, en, A, s, q⟩ => by
    simp only [ev] at q
    refine ops2 s q (fun v w H2 => r2 X.K X.mg (fun a b => (ixS a b).map .dat) v w H2 Q) fun s1 s2 en2 F2 H2 A2 v w g x q2 o1 o2 => ?_
    obtain ⟨r, e, q3⟩ := R_of q2
    obtain ⟨s1', e1, e2⟩ := Option.bind_eq_some_iff.mp e
    obtain ⟨_, o1⟩ := o1 _ e1
    obtain ⟨_, o2⟩ := o2
    refine ⟨F2, s1', s2, _, _, r, x.sub, o1, o2, e2, fun u F' H' ps g2 sb o nd => ?_⟩
    obtain ⟨g5, x5, n5⟩ := out_done g x g2 sb nd
    exact q3 u F' H' A2 ps g5 x5 o n5
theorem poI {X : Cx} {e : Option Expr} {t t' : TO} (h : PO X e t') (m : ∀ σ H Q, t σ H Q → t' σ H Q) : PO X e t := ⟨fun pins s σ H Q I q => h.run pins s σ H Q I (m σ H Q q)⟩
theorem so_non : PO X none (tIo Φ G W X.K X.mg .nil) := poI po_none fun σ H Q ⟨F, en, A, s, q⟩ => by
  simp only [evo] at q
  exact q F H A Go.refl s
def E.isN : E → Bool
  | .nil => true | _ => false
theorem evo_eq {e : E} (h : e.isN = false) (en : En) : evo Φ G e en = (ev Φ G e en).bind fun s en => match s with
    | .dat (.int i) => .ok (some i) en
    | _ => .stuck := by
  cases e <;> simp only [evo] <;> first | rfl | (exact absurd h (by decide))
theorem so_som (ha : PE X a (tI Φ G W X.K X.mg ea)) (hn : ea.isN = false := by rfl) : PO X (some a) (tIo Φ G W X.K X.mg ea) := poI (po_some ha) fun σ H Q ⟨F, en, A, s, q⟩ => by
  rw [evo_eq hn] at q
  refine ⟨F, en, A, s, q.next.mono fun s1 en1 q1 v F1 H1 A1 ps1 g1 x1 h1 nd1 => ?_⟩
  split at q1
  · rename_i i
    rw [h1.int]
    exact ⟨i, rfl, q1 F1 H1 A1 (go_tail g1) x1⟩
  · exact q1.elim
theorem so_slc {lo hi : Option Expr} {el eh : E} {p2 : Pos} (ha : PE X a (tO Φ G W X.K X.mg ea)) (hl : PO X lo (tIo Φ G W X.K X.mg el)) (hh : PO X hi (tIo Φ G W X.K X.mg eh)) : PE X (.Subscript a (.Slice lo hi none p2) pos) (tI Φ G W X.K X.mg (.slc ea el eh)) :=
  peI (pe_slice (sl_1 (mg := X.mg)) ha hl hh) fun σ H Q ⟨F, en, A, s, q⟩ => by
    simp only [ev] at q
    refine ⟨F, en, A, s, q.next.mono fun s1 en1 q1 v F1 H1 A1 ps1 g1 x1 h1 nd1 => ?_⟩
    refine ⟨F1, en1, A1, x1, (q1.next.go (go_tail g1)).mono fun l en2 q2 F2 H2 A2 g2 x2 => ?_⟩
    refine ⟨F2, en2, A2, x2, (q2.next.go ((go_tail g1).trans g2)).mono fun h en3 q3 F3 H3 A3 g3 x3 => ?_⟩
    obtain ⟨r, e, q4⟩ := R_of q3
    obtain ⟨s1', e1, e2⟩ := Option.bind_eq_some_iff.mp e
    obtain ⟨_, o⟩ := has_later h1 nd1 (g2.trans g3) x3 e1
    refine ⟨F3, s1', _, r, x3.sub, o, e2, fun u F' H' ps g4 sb o nd => ?_⟩
    obtain ⟨g5, x5, n5⟩ := out_done (((go_tail g1).trans g2).trans g3) x3 g4 sb nd
    exact q4 u F' H' A3 ps g5 x5 o n5
theorem so_rev {j : Nat} {p1 p2 p3 : Pos} (ha : PE X a (tO Φ G W X.K X.mg ea)) : PE X (.Subscript a (.Slice none none (some (.UnaryOp .USub (.Constant (.int 1) j p1) p2)) p3) pos) (tI Φ G W X.K X.mg (.rev ea)) :=
  peI (pe_revL ha) fun σ H Q ⟨F, en, A, s, q⟩ => by
    simp only [ev] at q
    refine ops1 s q (fun x H1 => ∃ a xs, x = .ref a ∧ SqL X.K H1 a xs ∧ ∀ p, H1 p = none → Q (.ref p) (upd H1 p (.lst xs.reverse))) fun s1 en2 F2 H2 A2 v g x q2 o1 _ => ?_
    obtain ⟨r, e, q3⟩ := R_of q2
    obtain ⟨s1', e1, e2⟩ := Option.bind_eq_some_iff.mp e
    obtain ⟨ds, e3, rfl⟩ := Option.map_eq_some_iff.mp e2
    obtain ⟨_, o1⟩ := o1 _ e1
    obtain ⟨a, vs, rfl, h1, d⟩ := o1.vL x.sub e3
    refine ⟨a, vs, rfl, h1, fun p hp => ?_⟩
    obtain ⟨g3, x3, n3⟩ := out_done g x (go_own hp (.lst vs.reverse)) (sub_own hp x.sub _) (by simp)
    exact q3 _ _ _ A2 [p] g3 x3 (new_lst hp x.sub d.reverse) n3
end
end Eng

set_option Elab.async false
set_option linter.all false
set_option maxRecDepth 100000
set_option maxHeartbeats 4000000
namespace Eng
open PySem PySem.Spec PyProof.Rows L2
section
variable {Φ : Str → List S → FR} {G : Str → Option D} {fs : Fs} {bs : List Str} {k : Nat} {X : Cx} {W : WX}
variable {a b c e : Expr} {es : List Expr} {ea eb ec ees : E} {pos p : Pos} {x : Str}
/-! ### calls -/
theorem back_ok {K : PySem.W.Frag} {mg : Str → Option Value} {F H : Hp} {σ : L2.St} : ∀ (es : E) (ss : List S) (fin : List (Option S)) (en : En) (vs : List V) (B A : List Addr), ArgV es σ vs → OwE K mg F H fin (vs.map some) B → Sok K mg F H σ en A → (B ++ A).Nodup →
    ∃ A', Sok K mg F H σ (back es ss fin en) A' ∧ ∀ a, a ∈ A' → a ∈ B ++ A := by
  intro es ss fin en
  have step : ∀ {f : Option S} {fs : List (Option S)} {v : V} {r : List V} {B A : List Addr} {en : En}, OwE K mg F H (f :: fs) ((v :: r).map some) B → Sok K mg F H σ en A → (B ++ A).Nodup → ∃ B', OwE K mg F H fs (r.map some) B' ∧ (∀ a, a ∈ B' → a ∈ B) ∧ (B' ++ A).Nodup := by
    intro f fs v r B A en o x nd
    cases f with
    | none =>
      simp only [List.map_cons, OwE] at o
      obtain ⟨_, _, e, o⟩ := o
      cases e
      exact ⟨B, o, fun _ h => h, nd⟩
    | some s =>
      simp only [List.map_cons, OwE] at o
      obtain ⟨_, _, ps, B', e, rfl, _, o⟩ := o
      cases e
      refine ⟨B', o, fun a h => List.mem_append_right _ h, ?_⟩
      rw [List.append_assoc] at nd
      exact (List.nodup_append.mp nd).2.1
  have stop : ∀ {en : En} {A B : List Addr}, Sok K mg F H σ en A → ∃ A', Sok K mg F H σ en A' ∧ ∀ a, a ∈ A' → a ∈ B ++ A := fun {en A B} x => ⟨A, x, fun a h => List.mem_append_right _ h⟩
  fun_induction back es ss fin en with
  | case1 en i es d ss f fs ih =>
    intro vs B A av o x nd
    simp only [ArgV] at av
    obtain ⟨v, r, rfl, hv, av⟩ := av
    obtain ⟨B', o2, h1, nd2⟩ := step o x nd
    obtain ⟨A', x2, h2⟩ := ih r B' A av o2 x nd2
    refine ⟨A', x2, fun a ha => ?_⟩
    rcases List.mem_append.mp (h2 a ha) with z | z
    · exact List.mem_append_left _ (h1 a z)
    · exact List.mem_append_right _ z
  | case2 i es s ss f fs en hs ih =>
    intro vs B A av o x nd
    simp only [ArgV] at av
    obtain ⟨v, r, rfl, hv, av⟩ := av
    cases f with
    | none =>
      obtain ⟨A1, x1, h1⟩ := x.drop i
      simp only [List.map_cons, OwE] at o
      obtain ⟨_, _, e, o⟩ := o
      cases e
      obtain ⟨A', x2, h2⟩ := ih r B A1 av o x1 (nodup_mk (List.nodup_append.mp nd).1 x1.nd fun a ha hb => nodup_dis nd a ha (h1 a hb))
      refine ⟨A', x2, fun a ha => ?_⟩
      rcases List.mem_append.mp (h2 a ha) with z | z
      · exact List.mem_append_left _ z
      · exact List.mem_append_right _ (h1 a z)
    | some t =>
      simp only [List.map_cons, OwE] at o
      obtain ⟨_, _, ps, B', e, rfl, o1, o⟩ := o
      cases e
      rw [List.append_assoc] at nd
      obtain ⟨n1, n2, n3⟩ := List.nodup_append.mp nd
      obtain ⟨n4, n5, n6⟩ := List.nodup_append.mp n2
      obtain ⟨A1, x1, h1⟩ := x.setD (i := i) o1 (nodup_mk n1 n5 fun a ha hb => n3 a ha a (List.mem_append_right _ hb) rfl) hv
      obtain ⟨A', x2, h2⟩ := ih r B' A1 av o x1 (nodup_mk n4 x1.nd fun a ha hb => by
        rcases List.mem_append.mp (h1 a hb) with z | z
        · exact n3 a z a (List.mem_append_left _ ha) rfl
        · exact n6 a ha a z rfl)
      refine ⟨A', x2, fun a ha => ?_⟩
      rw [List.append_assoc]
      rcases List.mem_append.mp (h2 a ha) with z | z
      · exact List.mem_append_right _ (List.mem_append_left _ z)
      · rcases List.mem_append.mp (h1 a z) with w | w
        · exact List.mem_append_left _ w
        · exact List.mem_append_right _ (List.mem_append_right _ w)
  | case3 e0 es s ss f fs en hs hs2 ih =>
    intro vs B A av o x nd
    have av2 : ∃ v r, vs = v :: r ∧ ArgV es σ r := by
      by_cases hv : ∃ i, e0 = .var i
      · obtain ⟨i, rfl⟩ := hv
        simp only [ArgV] at av
        obtain ⟨v, r, h, _, q⟩ := av
        exact ⟨v, r, h, q⟩
      · cases e0 <;> simp only [ArgV] at av <;> first | exact av | exact absurd ⟨_, rfl⟩ hv
    obtain ⟨v, r, rfl, av3⟩ := av2
    obtain ⟨B', o2, h1, nd2⟩ := step o x nd
    obtain ⟨A', x2, h2⟩ := ih r B' A av3 o2 x nd2
    refine ⟨A', x2, fun a ha => ?_⟩
    rcases List.mem_append.mp (h2 a ha) with z | z
    · exact List.mem_append_left _ (h1 a z)
    · exact List.mem_append_right _ z
  | case4 =>
    intro vs B A av o x nd
    exact stop x
/-- a callee answers -/
theorem call_run {f : Str} {n : Nat} (hf : (f, n) ∈ fs) (cok : Cok Φ G fs bs k X W) {σ : L2.St} {F H F1 H1 : Hp} {A A1 ps : List Addr} {ss : List S} {en1 : En} {vs : List V} {Q : VK} {Qs : S → En → Prop}
    (g1 : Go F H A F1 H1 (ps ++ A1)) (x1 : Sok X.K X.mg F1 H1 σ en1 A1) (o : OwE X.K X.mg F1 H1 (ss.map some) (vs.map some) ps) (nd : (ps ++ A1).Nodup) (av : ArgV ees σ vs)
    (q : Rn X.K X.mg W σ F H A (match Φ f ss with
      | .ret s fin => R.ok s (back ees ss fin en1)
      | .exc c d => .exc c d en1
      | .stuck => .stuck) Qs)
    (hQ : ∀ s en', Qs s en' → ∀ v F' H' A' ps, Go F H A F' H' (ps ++ A') → Sok X.K X.mg F' H' σ en' A' → Own X.K X.mg F' H' s v ps → (ps ++ A').Nodup → Q v H') :
    spF X.K X.mg (Φ f) n vs H1 Q (WE W σ) := by
  have hl : vs.length = n := by
    have h1 := (cok.wd.fn f n hf).1 ss (fun z => by rw [z] at q; exact q)
    have h2 := o.len
    simp only [List.length_map] at h2
    omega
  refine ⟨F1, ss, ps, hl, x1.sub, o, (List.nodup_append.mp nd).1, ?_⟩
  have frame : ∀ {F2 H2 : Hp} {B : List Addr}, Go F1 H1 ps F2 H2 B → Sub F2 H2 → Sok X.K X.mg F2 H2 σ en1 A1 ∧ Go F H A F2 H2 (B ++ A1) ∧ (∀ a, a ∈ A1 → a ∉ B) := by
    intro F2 H2 B g sb
    have d2 : ∀ a, a ∈ A1 → a ∉ ps := fun a ha hb => nodup_dis nd a hb ha
    refine ⟨x1.go g sb d2, ?_, dis_go g d2 fun a ha => (x1.here a ha).2⟩
    have g2 := (g.frame (C := A1)).wide (C := ps ++ A1) fun a ha => by
      rcases List.mem_append.mp ha with z | z
      · exact List.mem_append_right _ z
      · exact List.mem_append_left _ z
    exact g1.trans (g2.sub fun a ha => by
      rcases List.mem_append.mp ha with z | z
      · exact List.mem_append_right _ z
      · exact List.mem_append_left _ z)
  cases hΦ : Φ f ss with
  | stuck => rw [hΦ] at q; exact q
  | exc c d =>
    rw [hΦ] at q
    intro cls ad F2 H2 B g sb xo
    obtain ⟨x2, g2, _⟩ := frame g sb
    exact q cls ad F2 H2 A1 (go_tail g2) x2 xo
  | ret s fin =>
    rw [hΦ] at q
    intro v F2 H2 qs B g sb ov of nd2
    obtain ⟨x2, g2, dd⟩ := frame g sb
    have nb : (B ++ A1).Nodup := nodup_mk (List.nodup_append.mp nd2).2.1 x2.nd fun a ha hb => dd a hb (List.mem_append_right _ ha)
    obtain ⟨A', x3, h3⟩ := back_ok ees ss fin en1 vs B A1 av of x2 nb
    refine hQ s _ q v F2 H2 A' qs (g2.sub fun a ha => ?_) x3 ov ?_
    · rcases List.mem_append.mp ha with z | z
      · exact List.mem_append_left _ (List.mem_append_left _ z)
      · rcases List.mem_append.mp (h3 a z) with w | w
        · exact List.mem_append_left _ (List.mem_append_right _ w)
        · exact List.mem_append_right _ w
    · refine nodup_mk (List.nodup_append.mp nd2).1 x3.nd fun a ha hb => ?_
      rcases List.mem_append.mp (h3 a hb) with w | w
      · exact nodup_dis nd2 a ha w
      · exact dd a w (List.mem_append_left _ ha)
theorem so_call {n : Nat} (cok : Cok Φ G fs bs k X W) (hf : (x, n) ∈ fs) (hg : Gl X x) (ha : PA X (e :: es) (tIa Φ G W X.K X.mg ees)) (hdb : (x == ("__debug__" : Str)) = false := by decide)
    (he : starEach (e :: es) X.env = (false, eval e X.env) :: starEach es X.env := by rfl) (hpl : (backTo pos (starEach es X.env)).any (·.1) = false := by rfl) : PE X (.Call (.Name x p) (e :: es) [] pos) (tI Φ G W X.K X.mg (.call x ees)) := by
  obtain ⟨_, fa, fd, ps, FO, hm, hk, hb, _⟩ := cok.wd.fn x n hf
  refine peI (pe_callS (E := WE W) FO cok.room hg hm hk hb (fun σ => passAt cok.tk σ) ha hdb he hpl) fun σ H Q ⟨F, en, A, s, q⟩ => ?_
  simp only [ev] at q
  change Rn X.K X.mg W σ F H A ((eva Φ G ees en).bind _) _ at q
  refine ⟨F, en, A, s, q.next.mono fun ss en1 q1 vs F1 H1 A1 ps g1 x1 o nd av => ?_⟩
  exact call_run hf cok g1 x1 o nd av q1 fun s en' h => h
theorem so_call0 (cok : Cok Φ G fs bs k X W) (hf : (x, 0) ∈ fs) (hg : Gl X x) (hdb : (x == ("__debug__" : Str)) = false := by decide) : PE X (.Call (.Name x p) [] [] pos) (tI Φ G W X.K X.mg (.call x .nil)) := by
  obtain ⟨_, fa, fd, ps, FO, hm, hk, hb, _⟩ := cok.wd.fn x 0 hf
  refine ⟨fun pins s0 σ H Q I ⟨F, en, A, s, q⟩ => ?_⟩
  simp only [ev, evq, takeE, tkR, R.bind] at q
  refine wpAny_Call_Name_kw (ld_glob I hg hm ?_ hdb)
  refine PySem.W.callWith_K0 I.kIn hk (run_fnS (us := []) (E := WE W) FO cok.room hb (passAt cok.tk σ) I .nil ?_)
  exact call_run (ees := .nil) (ps := []) (A1 := A) hf cok Go.refl s (by simp [OwE]) (by simpa using s.nd) (by simp [ArgV]) q fun s en' h => h
/-! ### built-in functions -/
def bfN : BF → Str
  | .len => "len" | .abs => "abs" | .max1 => "max" | .min1 => "min" | .max2 => "max" | .min2 => "min" | .int => "int" | .sum => "sum" | .all => "all" | .any => "any" | .list => "list" | .tuple => "tuple" | .sorted => "sorted" | .divmod => "divmod" | .gcd => "gcd"
theorem b1_ok {σ : L2.St} {H : Hp} {Q : VK} {f : BF} : tI Φ G W X.K X.mg (.bi f ea) σ H Q → tO Φ G W X.K X.mg ea σ H fun x H1 => rb1 X.K X.mg f [x] H1 Q := fun ⟨F, en, A, s, q⟩ => by
  simp only [ev] at q
  refine ops1 s q (fun v H2 => rb1 X.K X.mg f [v] H2 Q) fun s1 en2 F2 H2 A2 v g x q2 o1 _ => ?_
  obtain ⟨r, e, q3⟩ := R_of q2
  obtain ⟨s1', e1, e2⟩ := Option.bind_eq_some_iff.mp e
  obtain ⟨_, o1⟩ := o1 _ e1
  refine ⟨F2, s1', _, _, r, rfl, x.sub, o1, e2, fun u F' H' ps g2 sb o nd => ?_⟩
  obtain ⟨g5, x5, n5⟩ := out_done g x g2 sb nd
  exact q3 u F' H' A2 ps g5 x5 o n5
theorem b2_ok {σ : L2.St} {H : Hp} {Q : VK} {f : BF} : tI Φ G W X.K X.mg (.bi2 f ea eb) σ H Q → tO Φ G W X.K X.mg ea σ H fun x H1 => tO Φ G W X.K X.mg eb σ H1 fun y H2 => rb2 X.K X.mg f [x, y] H2 Q := fun ⟨F, en, A, s, q⟩ => by
  simp only [ev] at q
  refine ops2 s q (fun v w H2 => rb2 X.K X.mg f [v, w] H2 Q) fun s1 s2 en2 F2 H2 A2 v w g x q2 o1 o2 => ?_
  obtain ⟨r, e, q3⟩ := R_of q2
  obtain ⟨s1', e1, e2⟩ := Option.bind_eq_some_iff.mp e
  obtain ⟨_, o1⟩ := o1 _ e1
  obtain ⟨_, o2⟩ := o2
  refine ⟨F2, s1', s2, _, _, _, _, r, rfl, x.sub, o1, o2, e2, fun u F' H' ps g2 sb o nd => ?_⟩
  obtain ⟨g5, x5, n5⟩ := out_done g x g2 sb nd
  exact q3 u F' H' A2 ps g5 x5 o n5
theorem bfV_or (f : BF) : (∃ id, bfV f = .builtin id) ∨ ∃ T, bfV f = .type T := by
  cases f <;> first | exact .inl ⟨_, rfl⟩ | exact .inr ⟨_, rfl⟩
theorem bfN_1 (f : BF) : bfN f ≠ "__name__" := by cases f <;> decide
theorem bfN_2 (f : BF) : (bfN f == ("__debug__" : Str)) = false := by cases f <;> decide
theorem pe_bf {f : BF} {r : List V → Hp → VK → Prop} {t : TA} (hr : CallR X (bfV f) r) (hm : X.mg x = none) (hx : x = bfN f) (hg : Gl X x) (hv : bootBuiltins (bfN f) = some (bfV f)) (ha : PA X (a :: es) t)
    (he : starEach (a :: es) X.env = (false, eval a X.env) :: starEach es X.env := by rfl) (hpl : (backTo pos (starEach es X.env)).any (·.1) = false := by rfl) : PE X (.Call (.Name x p) (a :: es) [] pos) (tCB r t) := by
  subst hx
  rcases bfV_or f with ⟨id, h⟩ | ⟨T, h⟩
  · rw [h] at hr hv
    exact pe_callB hr hg hm hv ha (bfN_1 f) (bfN_2 f) he hpl
  · rw [h] at hr hv
    exact pe_callTy hr hg hm hv ha (bfN_1 f) (bfN_2 f) he hpl
theorem so_bi {f : BF} (cok : Cok Φ G fs bs k X W) (hb : x ∈ bs) (hx : x = bfN f) (hg : Gl X x) (hv : bootBuiltins (bfN f) = some (bfV f)) (ha : PE X a (tO Φ G W X.K X.mg ea)) (hs : starEach [a] X.env = (false, eval a X.env) :: starEach [] X.env := by rfl) : PE X (.Call (.Name x p) [a] [] pos) (tI Φ G W X.K X.mg (.bi f ea)) :=
  peI (pe_bf (call_b1 (mg := X.mg) cok.calm) (cok.wd.bl _ hb) hx hg hv (pa_cons ha (pa_nil (X := X)) hs) hs) fun σ H Q q => b1_ok q
theorem so_bi2 {f : BF} (cok : Cok Φ G fs bs k X W) (hb' : x ∈ bs) (hx : x = bfN f) (hg : Gl X x) (hv : bootBuiltins (bfN f) = some (bfV f)) (ha : PE X a (tO Φ G W X.K X.mg ea)) (hb : PE X b (tO Φ G W X.K X.mg eb)) (hs : starEach [a, b] X.env = (false, eval a X.env) :: starEach [b] X.env := by rfl)
    (hs2 : starEach [b] X.env = (false, eval b X.env) :: starEach [] X.env := by rfl) (hpl : (backTo pos (starEach [b] X.env)).any (·.1) = false := by rfl) : PE X (.Call (.Name x p) [a, b] [] pos) (tI Φ G W X.K X.mg (.bi2 f ea eb)) :=
  peI (pe_bf (call_b2 (mg := X.mg) cok.calm) (cok.wd.bl _ hb') hx hg hv (pa_cons ha (pa_cons hb (pa_nil (X := X)) hs2) hs) hs hpl) fun σ H Q q => b2_ok q
theorem so_gcd (cok : Cok Φ G fs bs k X W) (hgc : X.mg "gcd" = some (.builtin "math.gcd")) (hx : x = "gcd") (hg : Gl X x) (ha : PE X a (tO Φ G W X.K X.mg ea)) (hb : PE X b (tO Φ G W X.K X.mg eb)) (hs : starEach [a, b] X.env = (false, eval a X.env) :: starEach [b] X.env := by rfl)
    (hs2 : starEach [b] X.env = (false, eval b X.env) :: starEach [] X.env := by rfl) (hpl : (backTo pos (starEach [b] X.env)).any (·.1) = false := by rfl) : PE X (.Call (.Name x p) [a, b] [] pos) (tI Φ G W X.K X.mg (.bi2 .gcd ea eb)) := by
  subst hx
  exact peI (pe_callBfun (call_b2 (mg := X.mg) (f := .gcd) cok.calm) hg hgc (pa_cons ha (pa_cons hb (pa_nil (X := X)) hs2) hs) (by decide) hs hpl) fun σ H Q q => b2_ok q
end
end Eng

set_option Elab.async false
set_option linter.all false
set_option maxRecDepth 100000
set_option maxHeartbeats 4000000
namespace Eng
open PySem PySem.Spec PyProof.Rows L2
section
variable {Φ : Str → List S → FR} {G : Str → Option D} {fs : Fs} {bs : List Str} {k : Nat} {X : Cx} {W : WX}
variable {a b c e : Expr} {es : List Expr} {ea eb ec ees : E} {pos p : Pos} {x : Str}
/-! ### isinstance -/
def Ty.st : Ty → Str
  | .int => "int" | .bool => "bool" | .str => "str" | .tuple => "tuple" | .list => "list" | .dict => "dict" | .none => "NoneType"
def Ty.ok : Ty → Bool
  | .none => false | _ => true
theorem pe_ty {t : Ty} (cok : Cok Φ G fs bs k X W) (hb : x ∈ bs) (hx : x = t.st) (ht : t.ok = true) (hg : Gl X x) : PE X (.Name x p) (tC (.ty t.nm)) := by
  subst hx
  have hm := cok.wd.bl _ hb
  cases t <;> first
    | exact pe_bltn (u := .type "int") hg hm (by decide +kernel) rfl (by decide) (by decide)
    | exact pe_bltn (u := .type "bool") hg hm (by decide +kernel) rfl (by decide) (by decide)
    | exact pe_bltn (u := .type "str") hg hm (by decide +kernel) rfl (by decide) (by decide)
    | exact pe_bltn (u := .type "tuple") hg hm (by decide +kernel) rfl (by decide) (by decide)
    | exact pe_bltn (u := .type "list") hg hm (by decide +kernel) rfl (by decide) (by decide)
    | exact pe_bltn (u := .type "dict") hg hm (by decide +kernel) rfl (by decide) (by decide)
    | cases ht
theorem ty_ne {t : Ty} (ht : t.ok = true) : t ≠ .none := fun z => by rw [z] at ht; cases ht
theorem so_isi {t : Ty} {many : Bool} {p2 : Pos} {y : Str} (cok : Cok Φ G fs bs k X W) (hb : x ∈ bs) (hx : x = "isinstance") (hg : Gl X x) (ha : PE X a (tO Φ G W X.K X.mg ea)) (hy : y ∈ bs) (hyx : y = t.st) (ht : t.ok = true) (hgy : Gl X y)
    (hs : starEach [a, .Name y p2] X.env = (false, eval a X.env) :: starEach [.Name y p2] X.env := by rfl) : PE X (.Call (.Name x p) [a, .Name y p2] [] pos) (tI Φ G W X.K X.mg (.isi ea [t] many)) := by
  subst hx
  refine peI (pe_callB call_isi hg (cok.wd.bl _ hb) boot_isinstance (pa_cons ha (pa_cons (pe_ty cok hy hyx ht hgy) (pa_nil (X := X)) rfl) hs) (by decide) (by decide) hs rfl) fun σ H Q ⟨F, en, A, s, q⟩ => ?_
  simp only [ev] at q
  refine ops1 s q (fun v H2 => rIsi X.K [v, .ty t.nm] H2 Q) fun s1 en2 F2 H2 A2 v g x q2 o1 _ => ?_
  obtain ⟨r, e, q3⟩ := R_of q2
  obtain ⟨s1', e1, e2⟩ := Option.bind_eq_some_iff.mp e
  obtain ⟨t1, e3, rfl⟩ := Option.map_eq_some_iff.mp e2
  obtain ⟨_, o1⟩ := o1 _ e1
  refine ⟨v, _, _, _, isT t1 t, rfl, .ty _, o1.ty x.sub e3, kit_Ty t1 t (ty_ne ht), ?_⟩
  have hq := q3 (.bl (isT t1 t)) F2 H2 A2 [] g x ⟨rfl, by simp [Den]⟩ (by simpa using x.nd)
  exact hq
def tTys (ts : List Ty) : TA := fun _ H Q => Q (ts.map fun t => V.ty t.nm) H
theorem so_ty0 : PA X [] (tTys []) := pa_nil
theorem so_tys {t : Ty} {ts : List Ty} (cok : Cok Φ G fs bs k X W) (hy : x ∈ bs) (hyx : x = t.st) (ht : t.ok = true) (hgy : Gl X x) (hr : PA X es (tTys ts)) (hs : starEach (.Name x p :: es) X.env = (false, eval (.Name x p) X.env) :: starEach es X.env := by rfl) : PA X (.Name x p :: es) (tTys (t :: ts)) :=
  paI (pa_cons (pe_ty cok hy hyx ht hgy) hr hs) fun σ H Q q => q
theorem paired_ty : ∀ ts : List Ty, Paired ClsV (ts.map fun t => V.ty t.nm) (ts.map fun t => Value.type t.nm)
  | [] => .nil
  | t :: ts => .cons (.ty _) (paired_ty ts)
theorem so_isiT {ts : List Ty} {p2 : Pos} {j : Nat} (cok : Cok Φ G fs bs k X W) (hb : x ∈ bs) (hx : x = "isinstance") (hg : Gl X x) (ha : PE X a (tO Φ G W X.K X.mg ea)) (hts : PA X es (tTys ts)) (ht : (ts.all Ty.ok && decide (ts.length ≤ 100)) = true)
    (hs : starEach [a, .Tuple es j p2] X.env = (false, eval a X.env) :: starEach [.Tuple es j p2] X.env := by rfl) : PE X (.Call (.Name x p) [a, .Tuple es j p2] [] pos) (tI Φ G W X.K X.mg (.isi ea ts true)) := by
  subst hx
  simp only [Bool.and_eq_true, decide_eq_true_eq] at ht
  obtain ⟨ht, hl⟩ := ht
  refine peI (pe_callB call_isiT hg (cok.wd.bl _ hb) boot_isinstance (pa_cons ha (pa_cons (pe_tup hts) (pa_nil (X := X)) rfl) hs) (by decide) (by decide) hs rfl) fun σ H Q ⟨F, en, A, s, q⟩ => ?_
  simp only [ev] at q
  refine ops1 s q (fun v H2 => (ts.map fun t => V.ty t.nm).length ≤ sizeLine ∧ ∀ p, H2 p = none → rIsiT X.K [v, .ref p] (upd H2 p (.tup (ts.map fun t => V.ty t.nm))) Q) fun s1 en2 F2 H2 A2 v g x q2 o1 _ => ?_
  obtain ⟨r, e, q3⟩ := R_of q2
  obtain ⟨s1', e1, e2⟩ := Option.bind_eq_some_iff.mp e
  obtain ⟨t1, e3, rfl⟩ := Option.map_eq_some_iff.mp e2
  obtain ⟨_, o1⟩ := o1 _ e1
  refine ⟨by rw [List.length_map, sizeLine_eq]; omega, fun p hp => ?_⟩
  have g2 : Go F2 H2 [] F2 (upd H2 p (.tup (ts.map fun t => V.ty t.nm))) [] := (go_own hp _).sub fun _ z => nomatch z
  have sb2 := sub_own hp x.sub (.tup (ts.map fun t => V.ty t.nm))
  obtain ⟨g3, x3, n3⟩ := out_done g x g2 sb2 List.nodup_nil
  refine ⟨v, p, _, _, _, ts.any (isT t1), rfl, upd_same, paired_ty ts, (o1.go g2 fun _ _ z => nomatch z).ty sb2 e3, kit_any t1 ts fun t h => ty_ne (List.all_eq_true.mp ht t h), ?_⟩
  exact q3 _ _ _ A2 [] g3 x3 ⟨rfl, denB⟩ n3
/-! ### a list in place -/
theorem Sok.write {K : PySem.W.Frag} {mg : Str → Option Value} {F H : Hp} {A : List Addr} {σ : L2.St} {en : En} {i : Nat} {ds ds' : List D} (x : Sok K mg F H σ en A) (e : getE en i = some (.ml ds)) :
    ∃ l vs, σ[i]? = some (some (.ref l)) ∧ F l = none ∧ H l = some (.lst vs) ∧ Dens K mg F ds vs ∧ ∀ vs', Dens K mg F ds' vs' → ∃ A', Sok K mg F (upd H l (.lst vs')) σ (en.set i (some (.ml ds'))) A' ∧ Go F H A F (upd H l (.lst vs')) A' := by
  obtain ⟨v, ps, B, e1, o, x2, pm⟩ := x.take e
  obtain ⟨l, vs, rfl, rfl, hF, hH, d⟩ := o
  refine ⟨l, vs, e1, hF, hH, d, fun vs' d' => ?_⟩
  have nd := pm.nodup_iff.mp x.nd
  have ne : ∀ a, a ≠ l → upd H l (.lst vs') a = H a := fun a ha => upd_ne ha
  have g : Go F H [l] F (upd H l (.lst vs')) [l] :=
    ⟨fun _ _ z => z, fun a o ha z => by rw [ne a (fun w => ha (by simp [w]))]; exact z, fun a z => .inl z, fun a z => .inl z⟩
  have sb : ∀ a o, F a = some o → upd H l (.lst vs') a = some o := fun a o z => by
    rw [ne a (fun w => by rw [w, hF] at z; cases z)]
    exact x.sub a o z
  have y := x2.go g sb fun a ha hb => nodup_dis nd a hb ha
  have o2 : Own K mg F (upd H l (.lst vs')) (.ml ds') (.ref l) [l] := ⟨l, vs', rfl, rfl, hF, upd_same, d'⟩
  obtain ⟨A', h1, h2⟩ := y.setD (i := i) o2 nd e1
  rw [List.set_set] at h1
  refine ⟨A', h1, ?_⟩
  have g2 := g.wide (C := A) fun a ha => pm.mem_iff.mpr (List.mem_append_left _ ha)
  refine ⟨g2.f, g2.h, g2.n, fun a ha => .inl (pm.mem_iff.mpr (h2 a ha))⟩
theorem so_app {i : Nat} (hN : X.N[i]? = some x) (hv : Vis X.env.scope x) (ha : PE X a (tI Φ G W X.K X.mg ea)) {apos : Pos} (hd : (x == ("__debug__" : Str)) = false := by decide) (hcd : (x == ("__classdict__" : Str)) = false := by decide)
    (hbase : attributeBase (.Name x p) "append" X.env (eval (.Name x p) X.env) = eval (.Name x p) X.env := by rfl)
    (hfew : ((backTo pos (starEach [a] X.env)).all (fun x => !x.1) && (backToKw pos (keywordEach [] X.env)).all (fun x => x.1.isSome)
      && decide ([a].length + ([] : List Keyword).length + (if ([] : List Keyword).isEmpty then 0 else 1) < 30)) = true := by rfl)
    (hline : (apos.endLine == pos.line) = true := by rfl) (hs : starEach [a] X.env = (false, eval a X.env) :: starEach [] X.env := by rfl) :
    PE X (.Call (.Attribute (.Name x p) "append" apos) [a] [] pos) (tI Φ G W X.K X.mg (.app i ea)) :=
  peI (pe_bm PySem.F.plainAttrs_list PySem.F.slot_list_append PySem.F.type_list_append mt_append (pe_var hN hv hd hcd) (pa_cons ha (pa_nil (X := X)) hs) hbase hfew hline hs rfl) fun σ H Q ⟨F, en, A, s, q⟩ => by
    simp only [ev] at q
    split at q
    · rename_i ds0 e0
      obtain ⟨v, ps, e1, o, _⟩ := s.own e0
      obtain ⟨l, vs0, rfl, rfl, hF, hH, d0⟩ := o
      refine ⟨_, e1, .inl ⟨rfl, _, .inl (.inl hH)⟩, F, en, A, s, q.next.mono fun s1 en1 q1 v F1 H1 A1 ps1 g1 x1 h1 nd1 => ?_⟩
      split at q1
      · rename_i ds e2
        split at q1
        · rename_i hl
          obtain ⟨x2, g2⟩ := frz_go x1 nd1 fun a ha => (h1.here a ha).1
          have dv := h1.fz
          obtain ⟨l', vs, e3, hF2, hH2, d2, wr⟩ := x2.write (ds' := ds ++ [fz s1]) e2
          rw [e1] at e3; cases e3
          obtain ⟨A', x4, g4⟩ := wr (vs ++ [v]) (d2.append (Dens.cons dv Dens.nil))
          refine ⟨l, vs, v, rfl, rfl, hH2, by rw [d2.len, ← SZ_eq]; exact hl, ?_⟩
          exact q1 _ _ _ A' [] ((g1.trans g2).trans g4) x4 ⟨rfl, denN⟩ (by simpa using x4.nd)
        · exact q1.elim
      · exact q1.elim
    · exact q.elim
/-! ### list(range(..)) -/
theorem Dens.mapR {K : PySem.W.Frag} {mg : Str → Option Value} {F : Hp} {f : Nat → D} {g : Nat → V} (h : ∀ i, Den K mg F (f i) (g i)) : ∀ l : List Nat, Dens K mg F (l.map f) (l.map g)
  | [] => Dens.nil
  | n :: l => Dens.cons (h n) (Dens.mapR h l)
theorem den_rg {K : PySem.W.Frag} {mg : Str → Option Value} {F : Hp} (a b : Int) : Dens K mg F (rgD a b) (rgV a b) := Dens.mapR (fun i => denI) _
theorem rgOk_1 {i j : Int} (h : rgOk i j = true) : -(2 ^ 62) ≤ i ∧ i < 2 ^ 62 ∧ -(2 ^ 62) ≤ j ∧ j < 2 ^ 62 := by
  unfold rgOk at h
  simpa using h
theorem lrg_ok {σ : L2.St} {H : Hp} {Q : VK} (he : tI Φ G W X.K X.mg (.lrg ea eb) σ H Q) : tI Φ G W X.K X.mg ea σ H fun x H1 => tI Φ G W X.K X.mg eb σ H1 fun y H2 => ∃ i j, x = .int i ∧ y = .int j ∧ RgOk i j ∧ ∀ q, H2 q = none → Q (.ref q) (upd H2 q (.lst (rgV i j))) := by
  obtain ⟨F, en, A, s, q⟩ := he
  simp only [ev] at q
  refine evs2 s q (fun x y H2 => ∃ i j, x = .int i ∧ y = .int j ∧ RgOk i j ∧ ∀ q, H2 q = none → Q (.ref q) (upd H2 q (.lst (rgV i j)))) fun s1 s2 en2 F2 H2 A2 v w ps1 ps2 g x q2 o1 o2 nd => ?_
  split at q2
  · rename_i i j
    split at q2
    · rename_i h
      obtain ⟨b1, b2, b3, b4⟩ := rgOk_1 h.1
      refine ⟨i, j, o1.int, o2.int, ⟨b1, b2, b3, b4, h.2⟩, fun p hp => ?_⟩
      obtain ⟨g3, x3, n3⟩ := out_done (go_tail g) x (go_own hp (.lst (rgV i j))) (sub_own hp x.sub _) (by simp)
      exact q2 _ _ _ A2 [p] g3 x3 (new_lst hp x.sub (den_rg i j)) n3
    · exact q2.elim
  · exact q2.elim
theorem so_lrg2 {p1 p2 : Pos} (cok : Cok Φ G fs bs k X W) (hl : ("list" : Str) ∈ bs) (hr : ("range" : Str) ∈ bs) (hgl : Gl X "list") (hgr : Gl X "range") (ha : PE X a (tI Φ G W X.K X.mg ea)) (hb : PE X b (tI Φ G W X.K X.mg eb))
    (na : starEach [a, b] X.env = (false, eval a X.env) :: starEach [b] X.env := by rfl) (nb : starEach [b] X.env = (false, eval b X.env) :: starEach [] X.env := by rfl) (hp : (backTo p2 (starEach [b] X.env)).any (·.1) = false := by rfl) :
    PE X (.Call (.Name "list" p) [.Call (.Name "range" p1) [a, b] [] p2] [] pos) (tI Φ G W X.K X.mg (.lrg ea eb)) :=
  peI (pe_listRg cok.calm hgl (cok.wd.bl _ hl) (prg_2 hgr (cok.wd.bl _ hr) ha hb na nb hp) rfl) fun σ H Q q => by
    obtain ⟨F, en, A, s, q⟩ := lrg_ok q
    refine ⟨F, en, A, s, q.mono fun s1 en1 q1 v F1 H1 A1 ps1 g1 x1 h1 nd1 => ?_⟩
    obtain ⟨F, en, A, s, q⟩ := q1 v F1 H1 A1 ps1 g1 x1 h1 nd1
    refine ⟨F, en, A, s, q.mono fun s1 en1 q1 v F1 H1 A1 ps1 g1 x1 h1 nd1 => ?_⟩
    obtain ⟨i, j, e1, e2, h1, h2⟩ := q1 v F1 H1 A1 ps1 g1 x1 h1 nd1
    exact ⟨i, j, e1, e2, h1, h2⟩
theorem so_lrg1 {p1 p2 : Pos} (cok : Cok Φ G fs bs k X W) (hl : ("list" : Str) ∈ bs) (hr : ("range" : Str) ∈ bs) (hgl : Gl X "list") (hgr : Gl X "range") (hb : PE X b (tI Φ G W X.K X.mg eb))
    (nb : starEach [b] X.env = (false, eval b X.env) :: starEach [] X.env := by rfl) :
    PE X (.Call (.Name "list" p) [.Call (.Name "range" p1) [b] [] p2] [] pos) (tI Φ G W X.K X.mg (.lrg (.int 0) eb)) :=
  peI (pe_listRg cok.calm hgl (cok.wd.bl _ hl) (prg_1 hgr (cok.wd.bl _ hr) hb nb) rfl) fun σ H Q q => by
    obtain ⟨F, en, A, s, q⟩ := lrg_ok q
    simp only [ev] at q
    obtain ⟨F, en, A, s, q⟩ := q (.int 0) F H A [] Go.refl s ⟨rfl, denI⟩ (by simpa using s.nd)
    refine ⟨F, en, A, s, q.mono fun s1 en1 q1 v F1 H1 A1 ps1 g1 x1 h1 nd1 => ?_⟩
    obtain ⟨i, j, e1, e2, h1, h2⟩ := q1 v F1 H1 A1 ps1 g1 x1 h1 nd1
    cases e1
    exact ⟨j, e2, h1, h2⟩
/-! ### a < b < c -/
theorem chn_ok {σ : L2.St} {H : Hp} {Q : VK} {op op' : CmpOp} (q : tI Φ G W X.K X.mg (.chn op op' ea eb ec) σ H Q) : tChain (rc X.K X.mg (cmpS op)) (rc X.K X.mg (cmpS op')) (tI Φ G W X.K X.mg ea) (tI Φ G W X.K X.mg eb) (tI Φ G W X.K X.mg ec) σ H Q := by
  obtain ⟨F, en, A, s, q⟩ := q
  simp only [ev] at q
  refine evs2 s q (fun x y H2 => rc X.K X.mg (cmpS op) x y H2 fun z H3 => ∃ k, z = .bl k ∧
    (if k = true then tI Φ G W X.K X.mg ec σ H3 fun w' H4 => rc X.K X.mg (cmpS op') y w' H4 Q else Q (.bl false) H3)) fun s1 s2 en2 F2 H2 A2 v w ps1 ps2 g x q2 o1 o2 nd => ?_
  have g0 := go_tail g
  have nd0 : (ps2 ++ A2).Nodup := by rw [List.append_assoc] at nd; exact (List.nodup_append.mp nd).2.1
  split at q2
  · rename_i e
    refine ⟨F2, s1, s2, _, _, true, x.sub, o1, o2, e, true, rfl, ?_⟩
    rw [if_pos rfl]
    refine ⟨F2, en2, A2, x, (q2.next.go g0).mono fun s3 en3 q3 z F3 H3 A3 ps3 g3 x3 h3 nd3 => ?_⟩
    obtain ⟨r, e2, q4⟩ := R_of q3
    obtain ⟨b, e3, rfl⟩ := Option.map_eq_some_iff.mp e2
    exact ⟨F3, s2, s3, _, _, b, x3.sub, o2.go g3 (nodup_dis nd0), h3, e3, q4 _ F3 H3 A3 [] (g0.trans (go_tail g3)) x3 ⟨rfl, denB⟩ (by simpa using x3.nd)⟩
  · rename_i e
    refine ⟨F2, s1, s2, _, _, false, x.sub, o1, o2, e, false, rfl, ?_⟩
    rw [if_neg (by simp)]
    exact q2 _ F2 H2 A2 [] g0 x ⟨rfl, denB⟩ (by simpa using x.nd)
  · exact q2.elim
theorem so_chn {op op' : CmpOp} (hu : X.A.units + 64 < cLine) (ha : PE X a (tI Φ G W X.K X.mg ea)) (hb : PE X b (tI Φ G W X.K X.mg eb)) (hc : PE X c (tI Φ G W X.K X.mg ec)) (hm : lastMarks [op, op'] [b, c] = false := by with_unfolding_all rfl) :
    PE X (.Compare a [op, op'] [b, c] pos) (tI Φ G W X.K X.mg (.chn op op' ea eb ec)) :=
  peI (pe_chain (op_cmp (mg := X.mg) hu) (op_cmp (mg := X.mg) hu) ha hb hc hm) fun σ H Q q => chn_ok q
theorem so_chnT {op op' : CmpOp} (hu : X.A.units + 64 < cLine) (ha : PE X a (tI Φ G W X.K X.mg ea)) (hb : PE X b (tI Φ G W X.K X.mg eb)) (hc : PE X c (tI Φ G W X.K X.mg ec)) (hm : lastMarks [op, op'] [b, c] = false := by with_unfolding_all rfl) :
    PT X (.Compare a [op, op'] [b, c] pos) (tIT Φ G W X.K X.mg (.chn op op' ea eb ec)) :=
  ptI (pt_chain (op_cmp (mg := X.mg) hu) (op_cmp (mg := X.mg) hu) ha hb hc hm) fun σ H Q ⟨F, en, A, s, q⟩ => by
    simp only [evT] at q
    refine evs2 s q (fun x y H2 => rc X.K X.mg (cmpS op) x y H2 fun z H3 => ∃ k, z = .bl k ∧
      (if k = true then tI Φ G W X.K X.mg ec σ H3 fun w' H4 => rc X.K X.mg (cmpS op') y w' H4 (fun x H' => ∃ k, x = .bl k ∧ Q k H') else (∃ k, V.bl false = .bl k ∧ Q k H3))) fun s1 s2 en2 F2 H2 A2 v w ps1 ps2 g x q2 o1 o2 nd => ?_
    have g0 := go_tail g
    have nd0 : (ps2 ++ A2).Nodup := by rw [List.append_assoc] at nd; exact (List.nodup_append.mp nd).2.1
    split at q2
    · rename_i e
      refine ⟨F2, s1, s2, _, _, true, x.sub, o1, o2, e, true, rfl, ?_⟩
      rw [if_pos rfl]
      refine ⟨F2, en2, A2, x, (q2.next.go g0).mono fun s3 en3 q3 z F3 H3 A3 ps3 g3 x3 h3 nd3 => ?_⟩
      obtain ⟨r, e2, q4⟩ := R_of q3
      exact ⟨F3, s2, s3, _, _, r, x3.sub, o2.go g3 (nodup_dis nd0), h3, e2, r, rfl, q4 F3 H3 A3 (g0.trans (go_tail g3)) x3⟩
    · rename_i e
      refine ⟨F2, s1, s2, _, _, false, x.sub, o1, o2, e, false, rfl, ?_⟩
      rw [if_neg (by simp)]
      exact ⟨false, rfl, q2 F2 H2 A2 g0 x⟩
    · exact q2.elim
end
end Eng

set_option Elab.async false
set_option linter.all false
set_option maxRecDepth 100000
set_option maxHeartbeats 4000000
namespace Eng
open PySem PySem.Spec PyProof.Rows L2 RZ
/-! ### walks -/
def IW (K : PySem.W.Frag) (mg : Str → Option Value) (F2 : Hp) (xs : List D) (J : It) : Prop :=
  ∃ Y, L2.Walk J xs.length (fun H => Sub F2 H) Y ∧ ∀ i H v H' F, Sub F H → Sub F2 F → Y i H v H' → ∃ d F', xs[i]? = some d ∧ Go F H [] F' H' [] ∧ Sub F' H' ∧ Den K mg F' d v
section
variable {K : PySem.W.Frag} {mg : Str → Option Value} {F F2 H : Hp} {ds es : List D} {vs ws : List V} {a b : Addr}
theorem go_frz0 {F H : Hp} {p : Addr} (n : H p = none) (sb : Sub F H) (o : HO) : Go F H [] (upd F p o) (upd H p o) [] := go_frz n sb o
theorem at_item (d : Dens K mg F2 ds vs) {i : Nat} {H : Hp} {v : V} {H' F : Hp} (sb : Sub F H) (s2 : Sub F2 F) (y : YAt vs i H v H') : ∃ d F', ds[i]? = some d ∧ Go F H [] F' H' [] ∧ Sub F' H' ∧ Den K mg F' d v := by
  obtain ⟨rfl, y⟩ := y
  obtain ⟨e, e1, e2⟩ := d.getV y
  exact ⟨e, F, e1, Go.refl, sb, Den.mono s2 _ _ e2⟩
theorem iw_list (h : SqL K F2 a vs) (d : Dens K mg F2 ds vs) : IW K mg F2 ds (Itl K a) :=
  ⟨YAt vs, by rw [← d.len]; exact walk_list.mono (fun H s => SqL_mono s h) fun _ _ _ _ _ _ y => y, fun i H v H' F sb s2 y => at_item d sb s2 y⟩
theorem iw_tup (h : SqT K F2 a vs) (d : Dens K mg F2 ds vs) : IW K mg F2 ds (Itt K a) :=
  ⟨YAt vs, by rw [← d.len]; exact walk_tup.mono (fun H s => SqT_mono s h) fun _ _ _ _ _ _ y => y, fun i H v H' F sb s2 y => at_item d sb s2 y⟩
theorem iw_rg (lo hi : Int) : IW K mg F2 (rgD lo hi) (Itr lo (hi - lo).toNat) := by
  have hl : (rgD lo hi).length = (hi - lo).toNat := by unfold rgD; simp
  refine ⟨fun i H v H' => i < (hi - lo).toNat ∧ H' = H ∧ v = .int (lo + (i : Nat)), ?_, fun i H v H' F sb s2 y => ?_⟩
  · rw [hl]
    exact ⟨fun _ _ hi _ => hi, fun _ _ => Nat.le_refl _, fun i _ _ _ hi _ y => ⟨hi, y.1, y.2⟩⟩
  · obtain ⟨h, rfl, rfl⟩ := y
    refine ⟨.int (lo + (i : Nat)), F, ?_, Go.refl, sb, denI⟩
    unfold rgD
    simp [h]
theorem pair_item (d : Dens K mg F2 ds vs) (e : Dens K mg F2 es ws) {i : Nat} {H : Hp} {v : V} {H' F : Hp} (sb : Sub F H) (s2 : Sub F2 F) (y : YPair (fun i => vs[i]?) (fun i => ws[i]?) i H v H') :
    ∃ x z F', ds[i]? = some x ∧ es[i]? = some z ∧ Go F H [] F' H' [] ∧ Sub F' H' ∧ Den K mg F' (.tup [x, z]) v := by
  obtain ⟨T, x, z, rfl, n, rfl, hx, hz⟩ := y
  obtain ⟨dx, e1, e2⟩ := d.getV hx
  obtain ⟨dz, e3, e4⟩ := e.getV hz
  have q := new_tup (mg := mg) (K := K) (ds := [dx, dz]) n sb (Dens.cons (Den.mono s2 _ _ e2) (Dens.cons (Den.mono s2 _ _ e4) Dens.nil))
  exact ⟨dx, dz, _, e1, e3, go_frz n sb _, upd_sub n sb _, q.2⟩
theorem zipD_get : ∀ {ds es : List D} {i : Nat} {x z : D}, ds[i]? = some x → es[i]? = some z → (zipD ds es)[i]? = some (.tup [x, z])
  | [], _, _, _, _, h, _ => by simp at h
  | _ :: _, [], _, _, _, _, h => by simp at h
  | d :: ds, e :: es, 0, x, z, h, k => by
    simp at h k; subst h; subst k; rfl
  | d :: ds, e :: es, i + 1, x, z, h, k => by
    simp only [zipD, List.getElem?_cons_succ] at h k ⊢
    exact zipD_get h k
theorem zipD_len : ∀ {ds es : List D}, (zipD ds es).length = min ds.length es.length
  | [], es => by simp [zipD]
  | _ :: _, [] => by simp [zipD]
  | d :: ds, e :: es => by simp only [zipD, List.length_cons, zipD_len (ds := ds) (es := es)]; omega
theorem iw_zipL (h : SqL K F2 a vs) (h2 : SqL K F2 b ws) (d : Dens K mg F2 ds vs) (e : Dens K mg F2 es ws) : IW K mg F2 (zipD ds es) (Itz K a b) := by
  refine ⟨YPair (fun i => vs[i]?) (fun i => ws[i]?), (walk_zip (by rw [zipD_len, d.len, e.len])).mono (fun H s => ⟨SqL_mono s h, SqL_mono s h2⟩) fun _ _ _ _ _ _ y => y, fun i H v H' F sb s2 y => ?_⟩
  obtain ⟨x, z, F', e1, e2, e3, e4, e5⟩ := pair_item d e sb s2 y
  exact ⟨_, F', zipD_get e1 e2, e3, e4, e5⟩
theorem walk_zipTT {xs ys : List V} {n : Nat} (hn : n = min xs.length ys.length) : L2.Walk (ItzT K a b) n (fun H => SqT K H a xs ∧ SqT K H b ys) (YPair (fun i => xs[i]?) (fun i => ys[i]?)) := by
  subst hn
  refine ⟨fun i _ hi q => ?_, fun _ q => ⟨xs, ys, q.1, q.2, by omega⟩, fun i H v H' _ q y => ?_⟩
  · have h1 : i < xs.length := by omega
    have h2 : i < ys.length := by omega
    exact ⟨xs, ys, xs[i], ys[i], q.1, q.2, by simp [h1], by simp [h2]⟩
  · obtain ⟨T, x, z, h1, h2, h3, h4, h5⟩ := y
    exact ⟨T, x, z, h1, h2, h3, h4 xs q.1, h5 ys q.2⟩
theorem iw_zipT (h : SqT K F2 a vs) (h2 : SqT K F2 b ws) (d : Dens K mg F2 ds vs) (e : Dens K mg F2 es ws) : IW K mg F2 (zipD ds es) (ItzT K a b) := by
  refine ⟨YPair (fun i => vs[i]?) (fun i => ws[i]?), (walk_zipTT (by rw [zipD_len, d.len, e.len])).mono (fun H s => ⟨SqT_mono s h, SqT_mono s h2⟩) fun _ _ _ _ _ _ y => y, fun i H v H' F sb s2 y => ?_⟩
  obtain ⟨x, z, F', e1, e2, e3, e4, e5⟩ := pair_item d e sb s2 y
  exact ⟨_, F', zipD_get e1 e2, e3, e4, e5⟩
theorem enumD_get : ∀ {ds : List D} {n i : Nat} {x : D}, ds[i]? = some x → (enumD n ds)[i]? = some (.tup [.int ((n + i : Nat) : Int), x])
  | [], _, _, _, h => by simp at h
  | d :: ds, n, 0, x, h => by simp at h; subst h; simp [enumD]
  | d :: ds, n, i + 1, x, h => by
    simp only [enumD, List.getElem?_cons_succ] at h ⊢
    rw [enumD_get h]
    have : n + 1 + i = n + (i + 1) := by omega
    rw [this]
theorem enumD_len : ∀ {ds : List D} {n : Nat}, (enumD n ds).length = ds.length
  | [], _ => rfl
  | d :: ds, n => by simp only [enumD, List.length_cons, enumD_len]
theorem enum_item (d : Dens K mg F2 ds vs) {i : Nat} {H : Hp} {v : V} {H' F : Hp} (sb : Sub F H) (s2 : Sub F2 F) (y : YPair (fun i => some (V.int (i : Nat))) (fun i => vs[i]?) i H v H') :
    ∃ x F', (enumD 0 ds)[i]? = some x ∧ Go F H [] F' H' [] ∧ Sub F' H' ∧ Den K mg F' x v := by
  obtain ⟨T, x, z, rfl, n, rfl, hx, hz⟩ := y
  cases hx
  obtain ⟨dz, e3, e4⟩ := d.getV hz
  have q := new_tup (mg := mg) (K := K) (ds := [.int (i : Nat), dz]) n sb (Dens.cons denI (Dens.cons (Den.mono s2 _ _ e4) Dens.nil))
  refine ⟨_, _, enumD_get e3, go_frz n sb _, upd_sub n sb _, ?_⟩
  rw [Nat.zero_add]
  exact q.2
theorem iw_enumL (h : SqL K F2 a vs) (d : Dens K mg F2 ds vs) : IW K mg F2 (enumD 0 ds) (Ite K a) :=
  ⟨_, by rw [enumD_len, ← d.len]; exact walk_enum.mono (fun H s => SqL_mono s h) fun _ _ _ _ _ _ y => y, fun i H v H' F sb s2 y => enum_item d sb s2 y⟩
theorem iw_enumT (h : SqT K F2 a vs) (d : Dens K mg F2 ds vs) : IW K mg F2 (enumD 0 ds) (IteT K a) :=
  ⟨_, by rw [enumD_len, ← d.len]; exact walk_enumT.mono (fun H s => SqT_mono s h) fun _ _ _ _ _ _ y => y, fun i H v H' F sb s2 y => enum_item d sb s2 y⟩
theorem vSq_L {s : S} {ds : List D} (e : vL s = some ds) : vSq s = some ds := by
  cases s with
  | dat d => cases d <;> simp [vL] at e <;> subst e <;> rfl
  | ml es => exact e
  | _ => simp [vL] at e
theorem vSq_T {s : S} {ds : List D} (e : vT s = some ds) : vSq s = some ds := by
  cases s with
  | dat d => cases d <;> simp [vT] at e <;> subst e <;> rfl
  | _ => simp [vT] at e
theorem vSq_N {s : S} (e : vL s = none) (e2 : vT s = none) : vSq s = none := by
  cases s with
  | dat d => cases d <;> simp [vL, vT] at e e2 <;> rfl
  | ml es => cases e
  | _ => rfl
theorem vL_fz {s : S} {ds : List D} (e : vL s = some ds) : vL (.dat (fz s)) = some ds := by
  cases s with
  | dat d => exact e
  | ml es => exact e
  | _ => simp [vL] at e
theorem vT_fz {s : S} {ds : List D} (e : vT s = some ds) : vT (.dat (fz s)) = some ds := by
  cases s with
  | dat d => exact e
  | _ => simp [vT] at e
theorem frozen_L {s : S} {v : V} (e : vL s = some ds) (d : Den K mg F2 (fz s) v) : ∃ a vs, v = .ref a ∧ SqL K F2 a vs ∧ Dens K mg F2 ds vs :=
  Own.vL (F := F2) (H := F2) (s := .dat (fz s)) (ps := []) ⟨rfl, d⟩ (fun _ _ h => h) (vL_fz e)
theorem frozen_T {s : S} {v : V} (e : vT s = some ds) (d : Den K mg F2 (fz s) v) : ∃ a vs, v = .ref a ∧ SqT K F2 a vs ∧ Dens K mg F2 ds vs :=
  Own.vT (F := F2) (H := F2) (s := .dat (fz s)) (ps := []) ⟨rfl, d⟩ (fun _ _ h => h) (vT_fz e)
end
section
variable (Φ : Str → List S → FR) (G : Str → Option D) (W : WX) (K : PySem.W.Frag) (mg : Str → Option Value)
def tIK (k : IK) (src : E) : TI := fun σ H R => ∃ F en A, Sok K mg F H σ en A ∧ Rn K mg W σ F H A (evs Φ G src en) fun ss en' => ∃ xs, itD k ss = some xs ∧
  ∀ F' H' A' J, Go F H A F' H' A' → Sok K mg F' H' σ en' A' → IW K mg F' xs J → R J H'
end
section
variable {Φ : Str → List S → FR} {G : Str → Option D} {fs : Fs} {bs : List Str} {k : Nat} {X : Cx} {W : WX}
variable {a b c e tg : Expr} {es : List Expr} {ea eb ec ees : E} {pos p : Pos} {x : Str}
theorem piC {wi : TI} (h : ∀ σ H R, wi σ H R → ∃ wi', PI X tg e wi' ∧ wi' σ H R) : PI X tg e wi := ⟨fun pins s σ H R I q => by
  obtain ⟨wi', h1, h2⟩ := h σ H R q
  exact h1.run pins s σ H R I h2⟩
/-- one source, frozen -/
theorem src_1 {σ : L2.St} {F H F1 H1 : Hp} {A A1 ps : List Addr} {en1 : En} {s1 : S} {v : V} (g1 : Go F H A F1 H1 (ps ++ A1)) (x1 : Sok X.K X.mg F1 H1 σ en1 A1) (h1 : Own X.K X.mg F1 H1 s1 v ps) (nd1 : (ps ++ A1).Nodup) :
    ∃ F2, Go F H A F2 H1 A1 ∧ Sok X.K X.mg F2 H1 σ en1 A1 ∧ Den X.K X.mg F2 (fz s1) v := by
  obtain ⟨x2, g2⟩ := frz_go x1 nd1 fun a ha => (h1.here a ha).1
  exact ⟨_, g1.trans g2, x2, h1.fz⟩
theorem evs1_eq (en : En) : evs Φ G (.cons ea .nil) en = (ev Φ G ea en).bind fun s en => .ok [s] en := by
  simp only [evs, R.bind]
theorem so_seq (ha : PE X e (tI Φ G W X.K X.mg ea)) : PI X tg e (tIK Φ G W X.K X.mg .seq (.cons ea .nil)) := piC fun σ H R ⟨F, en, A, s, q⟩ => by
  rw [evs1_eq] at q
  have q := q.next
  cases hev : ev Φ G ea en with
  | stuck => rw [hev] at q; exact q.elim
  | exc c d en1 =>
    refine ⟨_, pi_list ha, F, en, A, s, ?_⟩
    rw [hev] at q ⊢
    exact q
  | ok t en1 =>
    have go : ∀ {ds : List D} {J : It} {H' : Hp}, itD .seq [t] = some ds → (∀ v F1 H1 A1 ps1, Go F H A F1 H1 (ps1 ++ A1) → Sok X.K X.mg F1 H1 σ en1 A1 → Own X.K X.mg F1 H1 t v ps1 → (ps1 ++ A1).Nodup → ∀ J, (∀ F2, Den X.K X.mg F2 (fz t) v → IW X.K X.mg F2 ds J) → R J H1) := by
      intro ds J H' hi v F1 H1 A1 ps1 g1 x1 h1 nd1 J w
      rw [hev] at q
      obtain ⟨xs, e1, q⟩ := q
      rw [hi] at e1; cases e1
      obtain ⟨F2, g2, x2, d2⟩ := src_1 g1 x1 h1 nd1
      exact q F2 H1 A1 J g2 x2 (w F2 d2)
    cases ht : vL t with
    | some ds =>
      refine ⟨_, pi_list ha, F, en, A, s, ?_⟩
      rw [hev]
      intro v F1 H1 A1 ps1 g1 x1 h1 nd1
      obtain ⟨a, vs, rfl, hq, _⟩ := h1.vL x1.sub ht
      refine ⟨a, rfl, ⟨vs, hq⟩, go (J := Itl X.K a) (H' := H) (ds := ds) ?_ _ F1 H1 A1 ps1 g1 x1 h1 nd1 _ fun F2 d2 => ?_⟩
      · exact vSq_L ht
      · obtain ⟨a', vs', e, hq', d'⟩ := frozen_L ht d2
        cases e
        exact iw_list hq' d'
    | none =>
      cases ht2 : vT t with
      | some ds =>
        refine ⟨_, pi_tup ha, F, en, A, s, ?_⟩
        rw [hev]
        intro v F1 H1 A1 ps1 g1 x1 h1 nd1
        obtain ⟨a, vs, rfl, hq, _⟩ := h1.vT x1.sub ht2
        refine ⟨a, rfl, ⟨vs, hq⟩, go (J := Itt X.K a) (H' := H) (ds := ds) ?_ _ F1 H1 A1 ps1 g1 x1 h1 nd1 _ fun F2 d2 => ?_⟩
        · exact vSq_T ht2
        · obtain ⟨a', vs', e, hq', d'⟩ := frozen_T ht2 d2
          cases e
          exact iw_tup hq' d'
      | none =>
        rw [hev] at q
        obtain ⟨xs, e1, q⟩ := q
        have e1 : vSq t = some xs := e1
        rw [vSq_N ht ht2] at e1; cases e1
theorem evs2_eq (en : En) : evs Φ G (.cons ea (.cons eb .nil)) en = (ev Φ G ea en).bind fun s en => (ev Φ G eb en).bind fun t en => .ok [s, t] en := by
  simp only [evs]
  cases ev Φ G ea en with
  | ok s en1 =>
    simp only [R.bind]
    cases ev Φ G eb en1 <;> simp only [R.bind]
  | exc c d en => simp only [R.bind]
  | stuck => simp only [R.bind]
theorem itD_1 {s : S} {xs : List D} (h : itD .r1 [s] = some xs) : ∃ b, s = .dat (.int b) ∧ rgOk 0 b = true ∧ xs = rgD 0 b := by
  cases s with
  | dat d =>
    cases d <;> simp only [itD] at h <;> first | cases h | skip
    obtain ⟨h1, h2⟩ := ifs h
    cases h2
    exact ⟨_, rfl, h1, rfl⟩
  | _ => simp [itD] at h
theorem itD_2 {s t : S} {xs : List D} (h : itD .r2 [s, t] = some xs) : ∃ a b, s = .dat (.int a) ∧ t = .dat (.int b) ∧ rgOk a b = true ∧ xs = rgD a b := by
  cases s with
  | dat d =>
    cases d with
    | int a =>
      cases t with
      | dat d =>
        cases d with
        | int b =>
          simp only [itD] at h
          obtain ⟨h1, h2⟩ := ifs h
          cases h2
          exact ⟨_, _, rfl, rfl, h1, rfl⟩
        | _ => simp [itD] at h
      | _ => simp [itD] at h
    | _ => simp [itD] at h
  | _ => simp [itD] at h
theorem so_r1 (cok : Cok Φ G fs bs k X W) (hx : x = "range") (hb' : x ∈ bs) (hg : Gl X x) (ha : PE X a (tI Φ G W X.K X.mg ea)) (hs : starEach [a] X.env = [(false, eval a X.env)] := by rfl) : PI X tg (.Call (.Name x p) [a] [] pos) (tIK Φ G W X.K X.mg .r1 (.cons ea .nil)) := by
  subst hx
  refine piC fun σ H R ⟨F, en, A, s, q⟩ => ⟨_, pi_range1 hg (cok.wd.bl _ hb') (pa_cons ha (pa_nil (X := X)) hs) hs, F, en, A, s, ?_⟩
  rw [evs1_eq] at q
  refine q.next.mono fun s1 en1 q1 v F1 H1 A1 ps1 g1 x1 h1 nd1 => ?_
  obtain ⟨xs, e1, q2⟩ := q1
  obtain ⟨b, rfl, h, rfl⟩ := itD_1 e1
  obtain ⟨_, _, b3, b4⟩ := rgOk_1 h
  refine ⟨b, by rw [h1.int], b3, b4, ?_⟩
  have := iw_rg (K := X.K) (mg := X.mg) (F2 := F1) 0 b
  rw [Int.sub_zero] at this
  exact q2 F1 H1 A1 _ (go_tail g1) x1 this
theorem so_r2 (cok : Cok Φ G fs bs k X W) (hx : x = "range") (hb' : x ∈ bs) (hg : Gl X x) (ha : PE X a (tI Φ G W X.K X.mg ea)) (hb : PE X b (tI Φ G W X.K X.mg eb)) (hs : starEach [a, b] X.env = [(false, eval a X.env), (false, eval b X.env)] := by rfl) (hs2 : starEach [b] X.env = [(false, eval b X.env)] := by rfl) :
    PI X tg (.Call (.Name x p) [a, b] [] pos) (tIK Φ G W X.K X.mg .r2 (.cons ea (.cons eb .nil))) := by
  subst hx
  have hs3 : starEach [a, b] X.env = (false, eval a X.env) :: starEach [b] X.env := by rw [hs, hs2]
  refine piC fun σ H R ⟨F, en, A, s, q⟩ => ⟨_, pi_range2 hg (cok.wd.bl _ hb') (pa_cons ha (pa_cons hb (pa_nil (X := X)) hs2) hs3) hs hs2, ?_⟩
  rw [evs2_eq] at q
  refine evs2 s q (fun x y H2 => ∃ i j : Int, [x, y] = [.int i, .int j] ∧ (-(2 ^ 62) ≤ i ∧ i < 2 ^ 62 ∧ -(2 ^ 62) ≤ j ∧ j < 2 ^ 62) ∧ R (Itr i (j - i).toNat) H2) fun s1 s2 en2 F2 H2 A2 v w ps1 ps2 g x1 q2 o1 o2 nd => ?_
  obtain ⟨xs, e1, q2⟩ := q2
  obtain ⟨_, _, rfl, rfl, h, rfl⟩ := itD_2 e1
  refine ⟨_, _, by rw [o1.int, o2.int], rgOk_1 h, ?_⟩
  exact q2 F2 H2 A2 _ (go_tail g) x1 (iw_rg _ _)
theorem so_enum {elts : List Expr} {kk : Nat} {tpos : Pos} (cok : Cok Φ G fs bs k X W) (hx : x = "enumerate") (hb' : x ∈ bs) (hg : Gl X x) (ha : PE X e (tI Φ G W X.K X.mg ea)) (hs : starEach [e] X.env = [(false, eval e X.env)] := by rfl) :
    PI X (.Tuple elts kk tpos) (.Call (.Name x p) [e] [] pos) (tIK Φ G W X.K X.mg .enum (.cons ea .nil)) := by
  subst hx
  have hm := cok.wd.bl _ hb'
  have pa := pa_cons ha (pa_nil (X := X)) hs
  refine piC fun σ H R ⟨F, en, A, s, q⟩ => ?_
  rw [evs1_eq] at q
  have q := q.next
  cases hev : ev Φ G ea en with
  | stuck => rw [hev] at q; exact q.elim
  | exc c d en1 =>
    refine ⟨_, pi_enum hg hm pa hs, F, en, A, s, ?_⟩
    rw [hev] at q ⊢
    exact q
  | ok t en1 =>
    rw [hev] at q
    obtain ⟨xs, e1, q⟩ := q
    obtain ⟨ds, e2, rfl⟩ := Option.map_eq_some_iff.mp (show (vSq t).map (enumD 0) = some xs from e1)
    cases ht : vL t with
    | some ds' =>
      have := vSq_L ht
      rw [e2] at this; cases this
      refine ⟨_, pi_enum hg hm pa hs, F, en, A, s, ?_⟩
      rw [hev]
      intro v F1 H1 A1 ps1 g1 x1 h1 nd1
      obtain ⟨a, vs, rfl, hq, _⟩ := h1.vL x1.sub ht
      obtain ⟨F2, g2, x2, d2⟩ := src_1 g1 x1 h1 nd1
      obtain ⟨a', vs', e, hq', d'⟩ := frozen_L ht d2
      cases e
      exact ⟨a, vs, rfl, hq, q F2 H1 A1 _ g2 x2 (iw_enumL hq' d')⟩
    | none =>
      cases ht2 : vT t with
      | some ds' =>
        have := vSq_T ht2
        rw [e2] at this; cases this
        refine ⟨_, pi_enumT hg hm pa hs, F, en, A, s, ?_⟩
        rw [hev]
        intro v F1 H1 A1 ps1 g1 x1 h1 nd1
        obtain ⟨a, vs, rfl, hq, _⟩ := h1.vT x1.sub ht2
        obtain ⟨F2, g2, x2, d2⟩ := src_1 g1 x1 h1 nd1
        obtain ⟨a', vs', e, hq', d'⟩ := frozen_T ht2 d2
        cases e
        exact ⟨a, vs, rfl, hq, q F2 H1 A1 _ g2 x2 (iw_enumT hq' d')⟩
      | none => rw [vSq_N ht ht2] at e2; cases e2
theorem so_zip {elts : List Expr} {kk : Nat} {tpos : Pos} (cok : Cok Φ G fs bs k X W) (hx : x = "zip") (hb' : x ∈ bs) (hg : Gl X x) (ha : PE X a (tI Φ G W X.K X.mg ea)) (hb : PE X b (tI Φ G W X.K X.mg eb)) (hs : starEach [a, b] X.env = (false, eval a X.env) :: starEach [b] X.env := by rfl) (hs2 : starEach [b] X.env = [(false, eval b X.env)] := by rfl) (hpl : (backTo pos (starEach [b] X.env)).any (·.1) = false := by rfl) :
    PI X (.Tuple elts kk tpos) (.Call (.Name x p) [a, b] [] pos) (tIK Φ G W X.K X.mg .zip (.cons ea (.cons eb .nil))) := by
  subst hx
  refine piC fun σ H R ⟨F, en, A, s, q⟩ => ⟨_, pi_zipA hg (cok.wd.bl _ hb') (pa_cons ha (pa_cons hb (pa_nil (X := X)) hs2) hs) hs hpl, ?_⟩
  rw [evs2_eq] at q
  refine evs2 s q (fun x y H2 => ∃ a b xs ys, [x, y] = [.ref a, .ref b] ∧ ((SqL X.K H2 a xs ∧ SqL X.K H2 b ys ∧ R (Itz X.K a b) H2) ∨ (SqT X.K H2 a xs ∧ SqT X.K H2 b ys ∧ R (ItzT X.K a b) H2))) fun s1 s2 en2 F2 H2 A2 v w ps1 ps2 g x1 q2 o1 o2 nd => ?_
  obtain ⟨xs, e1, q2⟩ := q2
  have nd' : (ps1 ++ (ps2 ++ A2)).Nodup := by rw [← List.append_assoc]; exact nd
  have hn : ∀ a, a ∈ ps1 ++ ps2 → F2 a = none := fun a ha => by
    rcases List.mem_append.mp ha with z | z
    · exact (o1.here a z).1
    · exact (o2.here a z).1
  obtain ⟨x3, g3⟩ := frz_go x1 nd hn
  have d1 := Den.mono (frz_more (H := H2) (fun a ha => List.mem_append_left ps2 ha) hn) _ _ o1.fz
  have d2 := Den.mono (frz_more (H := H2) (fun a ha => List.mem_append_right ps1 ha) hn) _ _ o2.fz
  have g4 := g.trans g3
  simp only [itD] at e1
  split at e1
  · rename_i xa xb _ _ h1 h2
    cases e1
    obtain ⟨a, vs, rfl, hq, _⟩ := o1.vL x1.sub h1
    obtain ⟨b, ws, rfl, hq2, _⟩ := o2.vL x1.sub h2
    obtain ⟨a', vs', e, hq', d'⟩ := frozen_L h1 d1
    cases e
    obtain ⟨b', ws', e, hq2', d2'⟩ := frozen_L h2 d2
    cases e
    exact ⟨a, b, vs, ws, rfl, .inl ⟨hq, hq2, q2 _ _ A2 _ g4 x3 (iw_zipL hq' hq2' d' d2')⟩⟩
  · rename_i xa xb h1 h2 _
    cases e1
    obtain ⟨a, vs, rfl, hq, _⟩ := o1.vT x1.sub h1
    obtain ⟨b, ws, rfl, hq2, _⟩ := o2.vT x1.sub h2
    obtain ⟨a', vs', e, hq', d'⟩ := frozen_T h1 d1
    cases e
    obtain ⟨b', ws', e, hq2', d2'⟩ := frozen_T h2 d2
    cases e
    exact ⟨a, b, vs, ws, rfl, .inr ⟨hq, hq2, q2 _ _ A2 _ g4 x3 (iw_zipT hq' hq2' d' d2')⟩⟩
  · cases e1
end
end Eng

set_option Elab.async false
set_option linter.all false
set_option maxRecDepth 100000
set_option maxHeartbeats 4000000
namespace Eng
open PySem PySem.Spec PyProof.Rows L2 RZ
section
variable {K : PySem.W.Frag} {mg : Str → Option Value} {F H : Hp} {A : List Addr} {σ σ' : L2.St} {en : En}
/-! ### slots: stored, wiped, restored -/
theorem OwE.swap : ∀ {en : En} {σ σ' : L2.St} {A : List Addr}, OwE K mg F H en σ A → σ'.length = σ.length → (∀ (i : Nat) (s : S), en[i]? = some (some s) → σ'[i]? = σ[i]?) → OwE K mg F H en σ' A
  | [], σ, σ', A, h, hl, _ => by
    simp only [OwE] at h ⊢
    obtain ⟨rfl, rfl⟩ := h
    exact ⟨List.length_eq_zero_iff.mp hl, rfl⟩
  | none :: en, σ, σ', A, h, hl, k => by
    simp only [OwE] at h ⊢
    obtain ⟨o, r, rfl, h⟩ := h
    cases σ' with
    | nil => simp at hl
    | cons o' r' => exact ⟨o', r', rfl, OwE.swap h (by simpa using hl) fun i s e => by simpa using k (i + 1) s (by simpa using e)⟩
  | some t :: en, σ, σ', A, h, hl, k => by
    simp only [OwE] at h ⊢
    obtain ⟨v, r, ps, B, rfl, rfl, o, h⟩ := h
    cases σ' with
    | nil => simp at hl
    | cons o' r' =>
      have := k 0 t rfl
      simp at this
      subst this
      exact ⟨v, r', ps, B, rfl, rfl, o, OwE.swap h (by simpa using hl) fun i s e => by simpa using k (i + 1) s (by simpa using e)⟩
theorem Sok.swap (x : Sok K mg F H σ en A) (hl : σ'.length = σ.length) (k : ∀ (i : Nat) (s : S), en[i]? = some (some s) → σ'[i]? = σ[i]?) : Sok K mg F H σ' en A := by
  obtain ⟨A0, p, h⟩ := x.ow
  exact ⟨x.sub, ⟨A0, p, h.swap hl k⟩, x.nd⟩
theorem wipe_ne {σ : L2.St} {i : Nat} : ∀ {vs : List Nat}, i ∉ vs → (wipe σ vs)[i]? = σ[i]?
  | [], _ => rfl
  | v :: vs, h => by
    unfold wipe
    rw [List.getElem?_set_ne (fun z => h (by simp [z]))]
    exact wipe_ne fun z => h (List.mem_cons_of_mem _ z)
theorem wipeE_in {en : En} {i : Nat} {s : S} : ∀ {vs : List Nat}, (wipeE en vs)[i]? = some (some s) → i ∉ vs ∧ en[i]? = some (some s)
  | [], h => ⟨by simp, h⟩
  | v :: vs, h => by
    unfold wipeE at h
    by_cases hi : v = i
    · subst hi
      by_cases hv : v < (wipeE en vs).length
      · rw [List.getElem?_set_self hv] at h; cases h
      · rw [List.getElem?_eq_none (by simpa using hv)] at h; cases h
    · rw [List.getElem?_set_ne hi] at h
      obtain ⟨h1, h2⟩ := wipeE_in h
      exact ⟨fun z => by rcases List.mem_cons.mp z with z | z; exact hi z.symm; exact h1 z, h2⟩
theorem Sok.wipeE (x : Sok K mg F H σ en A) : ∀ vs : List Nat, ∃ B, Sok K mg F H σ (Eng.wipeE en vs) B ∧ ∀ a, a ∈ B → a ∈ A
  | [] => ⟨A, x, fun _ h => h⟩
  | v :: vs => by
    obtain ⟨B, x1, h1⟩ := x.wipeE vs
    obtain ⟨C, x2, h2⟩ := x1.drop v
    exact ⟨C, x2, fun a h => h1 a (h2 a h)⟩
/-- slots that are wiped may hold anything -/
theorem Sok.wiped {vs : List Nat} (x : Sok K mg F H σ (Eng.wipeE en vs) A) (h : wipe σ' vs = wipe σ vs) : Sok K mg F H σ' (Eng.wipeE en vs) A := by
  refine x.swap ?_ fun i s e => ?_
  · rw [← wipe_length σ' vs, h, wipe_length]
  · obtain ⟨h1, _⟩ := wipeE_in e
    rw [← wipe_ne (σ := σ') h1, h, wipe_ne h1]
theorem wipe_wipe (σ : L2.St) (vs : List Nat) : wipe (wipe σ vs) vs = wipe σ vs := by
  apply List.ext_getElem?
  intro i
  by_cases hi : i ∈ vs
  · have none_at : ∀ {σ : L2.St} {vs : List Nat}, i ∈ vs → i < σ.length → (wipe σ vs)[i]? = some none := by
      intro σ vs
      induction vs with
      | nil => intro h; cases h
      | cons v vs ih =>
        intro h hl
        unfold wipe
        by_cases hv : v = i
        · subst hv; rw [List.getElem?_set_self (by rw [wipe_length]; exact hl)]
        · rw [List.getElem?_set_ne hv]
          exact ih (by rcases List.mem_cons.mp h with z | z; exact absurd z.symm hv; exact z) hl
    by_cases hl : i < σ.length
    · rw [none_at hi (by rw [wipe_length]; exact hl), none_at hi hl]
    · rw [List.getElem?_eq_none (by rw [wipe_length, wipe_length]; omega), List.getElem?_eq_none (by rw [wipe_length]; omega)]
  · rw [wipe_ne hi]
theorem Sok.setN {i : Nat} {v : V} {d : D} (x : Sok K mg F H σ en A) (h : Den K mg F d v) : ∃ B, Sok K mg F H (σ.set i (some v)) (en.set i (some (.dat d))) B ∧ ∀ a, a ∈ B → a ∈ A := by
  by_cases hi : i < en.length
  · have o : Own K mg F H (.dat d) v [] := ⟨rfl, h⟩
    obtain ⟨B, h1, h2⟩ := x.set (i := i) o (by simpa using x.nd) hi
    exact ⟨B, h1, fun a ha => by simpa using h2 a ha⟩
  · rw [List.set_eq_of_length_le (by rw [x.len]; omega), List.set_eq_of_length_le (by omega)]
    exact ⟨A, x, fun _ h => h⟩
theorem Sok.restD {old : En} (o : ∀ i d, getE old i = some (.dat d) → ∃ v, σ[i]? = some (some v) ∧ Den K mg F d v) (x : Sok K mg F H σ en A) : ∀ vs : List Nat, ∃ B, Sok K mg F H σ (Eng.restD old en vs) B ∧ ∀ a, a ∈ B → a ∈ A
  | [] => ⟨A, x, fun _ h => h⟩
  | v :: vs => by
    obtain ⟨B, x1, h1⟩ := x.restD o vs
    unfold Eng.restD
    split
    · rename_i d e
      obtain ⟨w, e1, e2⟩ := o v d e
      have ow : Own K mg F H (.dat d) w [] := ⟨rfl, e2⟩
      obtain ⟨C, x2, h2⟩ := x1.setD (i := v) ow (by simpa using x1.nd) e1
      exact ⟨C, x2, fun a h => h1 a (by simpa using h2 a h)⟩
    · obtain ⟨C, x2, h2⟩ := x1.drop v
      exact ⟨C, x2, fun a h => h1 a (h2 a h)⟩
/-! ### targets -/
def gNs : List Nat → TGs
  | [] => gNil
  | i :: is => gCons (gName i) (gNs is)
def tG (K : PySem.W.Frag) (one : Bool) (tg : List Nat) : TG := match one, tg with
  | true, [i] => gName i
  | _, is => gTup K is.length (gNs is)
theorem gNs_ok : ∀ {is : List Nat} {ds : List D} {vs : List V} {σ : L2.St} {en : En} {A : List Addr} {Q : L2.St → Hp → Prop}, Sok K mg F H σ en A → Dens K mg F ds vs → is.length = ds.length →
    (∀ σ' A', Sok K mg F H σ' ((is.zip ds).foldl (fun en p => en.set p.1 (some (.dat p.2))) en) A' → (∀ a, a ∈ A' → a ∈ A) → (∀ us, (∀ i, i ∈ is → i ∈ us) → wipe σ' us = wipe σ us) → Q σ' H) → gNs is vs σ H Q
  | [], ds, vs, σ, en, A, Q, x, d, hl, q => by
    cases ds with
    | nil =>
      simp only [Dens] at d
      subst d
      exact ⟨rfl, q σ A (by simpa using x) (fun _ h => h) fun _ _ => rfl⟩
    | cons d ds => simp at hl
  | i :: is, ds, vs, σ, en, A, Q, x, d, hl, q => by
    cases ds with
    | nil => simp at hl
    | cons e ds =>
      simp only [Dens] at d
      obtain ⟨v, r, rfl, d1, d2⟩ := d
      obtain ⟨B, x2, hB⟩ := x.setN (i := i) d1
      refine ⟨v, r, rfl, gNs_ok x2 d2 (by simpa using hl) fun σ' A' x3 h3 w => q σ' A' (by simpa using x3) (fun a h => hB a (h3 a h)) fun us hu => ?_⟩
      rw [w us fun j hj => hu j (List.mem_cons_of_mem _ hj)]
      apply List.ext_getElem?
      intro j
      have hi : i ∈ us := hu i List.mem_cons_self
      have key : ∀ (us : List Nat) (σ : L2.St) (v : Option V), i ∈ us → wipe (σ.set i v) us = wipe σ us := by
        intro us
        induction us with
        | nil => intro _ _ h; cases h
        | cons u us ih =>
          intro σ v h
          unfold wipe
          by_cases hu : i ∈ us
          · rw [ih σ v hu]
          · have e : u = i := by rcases List.mem_cons.mp h with z | z; exact z.symm; exact absurd z hu
            subst e
            apply List.ext_getElem?
            intro j
            by_cases hj : u = j
            · subst hj
              by_cases hl : u < σ.length
              · rw [List.getElem?_set_self (by rw [wipe_length, List.length_set]; exact hl), List.getElem?_set_self (by rw [wipe_length]; exact hl)]
              · rw [List.getElem?_eq_none (by rw [List.length_set, wipe_length, List.length_set]; omega), List.getElem?_eq_none (by rw [List.length_set, wipe_length]; omega)]
            · rw [List.getElem?_set_ne hj, List.getElem?_set_ne hj]
              by_cases hjs : j ∈ us
              · have gone : ∀ {us : List Nat} {σ : L2.St}, j ∈ us → (wipe σ us)[j]? = if j < σ.length then some none else none := by
                  intro us
                  induction us with
                  | nil => intro _ h; cases h
                  | cons w us ih2 =>
                    intro σ h
                    unfold wipe
                    by_cases hw : w = j
                    · subst hw
                      by_cases hl : w < σ.length
                      · rw [List.getElem?_set_self (by rw [wipe_length]; exact hl), if_pos hl]
                      · rw [List.getElem?_eq_none (by rw [List.length_set, wipe_length]; omega), if_neg hl]
                    · rw [List.getElem?_set_ne hw]
                      exact ih2 (by rcases List.mem_cons.mp h with z | z; exact absurd z.symm hw; exact z)
                rw [gone hjs, gone hjs, List.length_set]
              · rw [wipe_ne hjs, wipe_ne hjs, List.getElem?_set_ne hj]
      rw [key us σ (some v) hi]
theorem tG_ok {one : Bool} {tg : List Nat} {v : V} {d : D} {en2 : En} {Q : L2.St → Hp → Prop} (x : Sok K mg F H σ en A) (dv : Den K mg F d v) (e : setD en tg one d = some en2)
    (q : ∀ σ' A', Sok K mg F H σ' en2 A' → (∀ a, a ∈ A' → a ∈ A) → (∀ us, (∀ i, i ∈ tg → i ∈ us) → wipe σ' us = wipe σ us) → Q σ' H) : tG K one tg v σ H Q := by
  unfold setD at e
  split at e
  · rename_i i
    cases e
    have := gNs_ok (is := [i]) (Q := Q) x (Dens.cons dv Dens.nil) rfl fun σ' A' x' h w => q σ' A' (by simpa using x') h w
    obtain ⟨v', r, e1, h1, h2⟩ := this
    cases e1
    exact h2
  · rename_i ds
    obtain ⟨hl, e⟩ := ifs e
    cases e
    obtain ⟨a, vs, rfl, h1, h2⟩ := Own.vT (F := F) (H := H) (s := .dat (.tup ds)) (ps := []) ⟨rfl, dv⟩ x.sub rfl
    have g := gNs_ok x h2 hl q
    unfold tG
    exact ⟨a, vs, rfl, h1, by rw [h2.len, hl], g⟩
  · cases e
end
end Eng

set_option Elab.async false
set_option linter.all false
set_option maxRecDepth 100000
set_option maxHeartbeats 4000000
namespace Eng
open PySem PySem.Spec PyProof.Rows L2 RZ
/-! ### comprehensions -/
def WF : WX := fun _ _ _ _ => False
section
variable {Φ : Str → List S → FR} {G : Str → Option D} {fs : Fs} {bs : List Str} {k : Nat} {X : Cx} {W : WX}
theorem takesF {X : Cx} : Takes X WF := fun u s' ⟨a, B, sI, pins, σ, H, cls, d, e, I, nb, up, sky, na, os, ag, w⟩ => w.elim
theorem Cok.blk (c : Cok Φ G fs bs k X W) (s : Shared) (H : Hp) (scope : Scope) (cenv : Env) (fp : List Addr) : Cok Φ G fs bs k (X.blk s H scope cenv fp) WF :=
  ⟨c.nd, c.calm, c.room, takesF, c.wd⟩
theorem keepD {F H F' H' : Hp} {A B : List Addr} {p : Addr} {o : HO} (g : Go F H A F' H' B) (f : F p = none) (n : p ∉ A) (h : H p = some o) : F' p = none ∧ p ∉ B ∧ H' p = some o := by
  refine ⟨?_, fun z => ?_, g.h p o n h⟩
  · cases e : F' p with
    | none => rfl
    | some u =>
      rcases g.n p (by rw [e]; simp) with z | z | z
      · exact absurd f z
      · rw [h] at z; cases z
      · exact absurd z n
  · rcases g.b p z with z | z
    · exact n z
    · rw [h] at z; cases z
theorem Go.sub2 {F H F' H' : Hp} {A B : List Addr} (g : Go F H A F' H' B) : Sub F F' := g.f
theorem lc_tr {X : Cx} {W : WX} {eelt src eifs : E} {tgs vs : List Nat} {one : Bool} {kk : IK} (hin : tgs.all (fun i => vs.contains i) = true) {σ : L2.St} {H : Hp} {Q : VK} (q : tI Φ G W X.K X.mg (.lc eelt tgs one kk src eifs vs) σ H Q) :
    tLc (tIK Φ G W X.K X.mg kk src) (tG X.K one tgs) (tIi Φ G WF X.K X.mg eifs) (tI Φ G WF X.K X.mg eelt) vs σ H Q := by
  have hin : ∀ i, i ∈ tgs → i ∈ vs := fun i hi => by simpa using List.all_eq_true.mp hin i hi
  obtain ⟨F, en, A, s, q⟩ := q
  simp only [ev] at q
  refine ⟨F, en, A, s, q.next.mono fun ss en1 q1 => ?_⟩
  split at q1
  · rename_i xs hxs
    refine ⟨xs, hxs, fun F' H' A' J g x w => fun D hD => ?_⟩
    obtain ⟨Y, wk, hy⟩ := w
    generalize hfdef : lcF (fun x1 x2 => setD x1 tgs one x2) (fun en2 => evi Φ G eifs en2) (fun en3 => ev Φ G eelt en3) vs = f at q1
    cases hL : loopL f xs [] (Eng.wipeE en1 vs) with
    | stuck => rw [hL] at q1; exact q1.elim
    | exc c d e => rw [hL] at q1; exact q1.elim
    | ok accf enf =>
      rw [hL] at q1
      have q1 : ∀ v F'' H'' A'' ps, Go F H A F'' H'' (ps ++ A'') → Sok X.K X.mg F'' H'' σ (restE en1 enf vs) A'' → Own X.K X.mg F'' H'' (.ml accf) v ps → (ps ++ A'').Nodup → Q v H'' := q1
      have sb0 := sub_own hD x.sub (.lst [])
      obtain ⟨y, nd0, g0⟩ := x.grown (go_own hD (.lst [])) sb0 (by simp)
      obtain ⟨B0, y1, hB0⟩ := y.wipeE vs
      have y2 := y1.wiped (σ' := wipe σ vs) (wipe_wipe σ vs)
      refine lc_it wk (fun i H2 => ∃ F1 en2 A1 acc accV, Sok X.K X.mg F1 H2 (wipe σ vs) en2 A1 ∧ Sub F' F1 ∧ F1 D = none ∧ D ∉ A1 ∧ H2 D = some (.lst accV) ∧ Dens X.K X.mg F1 acc accV ∧ Go F' H' A' F1 H2 ([D] ++ A1) ∧ loopL f (xs.drop i) acc en2 = .ok accf enf) ?_ ?_ ?_ ?_
      · refine ⟨F', _, B0, [], [], y2, fun _ _ h => h, sub_none hD x.sub, fun z => nodup_dis nd0 D (by simp) (hB0 D z), upd_same, Dens.nil, g0.sub fun a ha => ?_, by simpa using hL⟩
        rcases List.mem_append.mp ha with z | z
        · exact List.mem_append_left _ z
        · exact List.mem_append_right _ (hB0 a z)
      · rintro i H2 _ ⟨F1, en2, A1, acc, accV, x1, s1, _⟩
        exact fun a o e => x1.sub a o (s1 a o e)
      · rintro i v H2 H3 hlt ⟨F1, en2, A1, acc, accV, x1, s1, fD, nD, hDl, dA, g1, hl⟩ yv
        obtain ⟨d, F2, e, g2, sb2, dv⟩ := hy i H2 v H3 F1 x1.sub s1 yv
        have hdrop : xs.drop i = d :: xs.drop (i + 1) := by
          rw [List.drop_eq_getElem_cons hlt]
          rw [List.getElem?_eq_getElem hlt] at e
          rw [Option.some.inj e]
        rw [hdrop] at hl
        simp only [loopL] at hl
        cases hf : f acc d en2 with
        | stuck => rw [hf] at hl; cases hl
        | exc c d e => rw [hf] at hl; cases hl
        | ok acc' en' =>
          rw [hf] at hl
          have hl : loopL f (xs.drop (i + 1)) acc' en' = .ok accf enf := hl
          rw [← hfdef] at hf
          unfold lcF at hf
          dsimp only at hf
          split at hf
          · rename_i en3 e3
            have x2 : Sok X.K X.mg F2 H3 (wipe σ vs) en2 A1 := x1.go g2 sb2 fun _ _ z => nomatch z
            have gA : Go F1 H2 A1 F2 H3 A1 := by
              have := g2.frame (C := A1)
              rwa [List.append_nil] at this
            refine tG_ok x2 dv e3 fun σ' A2 x3 h3 w => ⟨by rw [w vs hin, wipe_wipe], ?_⟩
            have hw : wipe σ' vs = wipe σ vs := by rw [w vs hin, wipe_wipe]
            have gB : Go F1 H2 A1 F2 H3 A2 := gA.sub h3
            refine ⟨F2, en3, A2, x3, ?_⟩
            cases hb : evi Φ G eifs en3 with
            | stuck => rw [hb] at hf; cases hf
            | exc c d e => rw [hb] at hf; cases hf
            | ok b en4 =>
              rw [hb] at hf
              intro F3 H4 A3 g4 x4
              cases b with
              | false =>
                rw [if_neg (by simp)]
                have hf : R.ok acc (Eng.wipeE en4 vs) = .ok acc' en' := hf
                cases hf
                have gC := gB.trans g4
                obtain ⟨f5, n5, h5⟩ := keepD gC fD nD hDl
                obtain ⟨B, x5, hB⟩ := x4.wipeE vs
                have x6 := x5.wiped (σ' := wipe σ vs) (by rw [wipe_wipe, hw])
                refine ⟨F3, _, B, acc, accV, x6, fun a o e => gC.f a o (s1 a o e), f5, fun z => n5 (hB D z), h5, Dens.mono gC.f _ _ dA, (g1.trans (gC.frame (C := [D]))).sub fun a ha => ?_, hl⟩
                rcases List.mem_append.mp ha with z | z
                · exact List.mem_append_left _ z
                · exact List.mem_append_right _ (hB a z)
              | true =>
                rw [if_pos rfl]
                refine ⟨F3, en4, A3, x4, ?_⟩
                cases hv : ev Φ G eelt en4 with
                | stuck => simp only [R.bind, hv] at hf; cases hf
                | exc c d e => simp only [R.bind, hv] at hf; cases hf
                | ok t en5 =>
                  simp only [R.bind, hv, if_true] at hf
                  split at hf
                  · rename_i hz
                    cases hf
                    intro u F4 H5 A4 ps g5 x5 o nd
                    obtain ⟨x6, g6⟩ := frz_go x5 nd fun a ha => (o.here a ha).1
                    have gC := (gB.trans g4).trans (g5.trans g6)
                    obtain ⟨f5, n5, h5⟩ := keepD gC fD nD hDl
                    have du := o.fz
                    have dA2 := Dens.mono gC.f _ _ dA
                    obtain ⟨B, x7, hB⟩ := x6.wipeE vs
                    have x8 := x7.wiped (σ' := wipe σ vs) (by rw [wipe_wipe, hw])
                    have gW : Go (frz F4 H5 ps) H5 [D] (frz F4 H5 ps) (upd H5 D (.lst (accV ++ [u]))) [D] :=
                      ⟨fun _ _ z => z, fun a o ha z => by rw [upd_ne (fun w => ha (by simp [w]))]; exact z, fun a z => .inl z, fun a z => .inl z⟩
                    have sbW : Sub (frz F4 H5 ps) (upd H5 D (.lst (accV ++ [u]))) := fun a o z => by
                      rw [upd_ne (fun w => by rw [w, f5] at z; cases z)]
                      exact x8.sub a o z
                    have x9 := x8.go gW sbW fun a ha hb => by
                      have : a = D := by simpa using hb
                      subst this
                      exact n5 (hB a ha)
                    refine ⟨accV, h5, by rw [dA.len, ← SZ_eq]; exact hz, frz F4 H5 ps, _, B, acc ++ [fz t], accV ++ [u], x9, fun a o e => gC.f a o (s1 a o e), f5, fun z => n5 (hB D z), upd_same, dA2.append (Dens.cons du Dens.nil), ?_, hl⟩
                    have gX := g1.trans (gC.frame (C := [D]))
                    have gY : Go (frz F4 H5 ps) H5 ([D] ++ A4) (frz F4 H5 ps) (upd H5 D (.lst (accV ++ [u]))) ([D] ++ A4) :=
                      ⟨gW.f, fun a o ha z => gW.h a o (fun w => ha (List.mem_append_left _ w)) z, fun a z => .inl z, fun a z => .inl z⟩
                    refine (gX.trans gY).sub fun a ha => ?_
                    rcases List.mem_append.mp ha with z | z
                    · exact List.mem_append_left _ z
                    · exact List.mem_append_right _ (hB a z)
                  · cases hf
          · cases hf
      · rintro H2 ⟨F1, en2, A1, acc, accV, x1, s1, fD, nD, hDl, dA, g1, hl⟩
        rw [List.drop_length] at hl
        have hl : R.ok acc en2 = R.ok accf enf := hl
        cases hl
        obtain ⟨B, x2, hB⟩ := x1.wipeE vs
        have x3 := x2.wiped (σ' := σ) (wipe_wipe σ vs).symm
        obtain ⟨C, x4, hC⟩ := x3.restD (old := en1) (fun i d e => by
          obtain ⟨v, ps, e1, o, _⟩ := x.own e
          exact ⟨v, e1, Den.mono s1 _ _ o.2⟩) vs
        refine q1 (.ref D) F1 H2 C [D] ((g.trans g1).sub fun a ha => ?_) x4 ⟨D, accV, rfl, rfl, fD, hDl, dA⟩ ?_
        · rcases List.mem_append.mp ha with z | z
          · exact List.mem_append_left _ z
          · exact List.mem_append_right _ (hB a (hC a z))
        · exact nodup_mk (by simp) x4.nd fun a ha hb => by
            have : a = D := by simpa using ha
            subst this
            exact nD (hB a (hC a hb))
  · exact q1.elim
theorem so_lc {elt tg iter : Expr} {ifs : List Expr} {scope : Scope} {own : List (Str × Nat)} {pos : Pos} {eelt src eifs : E} {tgs : List Nat} {one : Bool} {kk : IK} (cok : Cok Φ G fs bs k X W) (hi : PI X tg iter (tIK Φ G W X.K X.mg kk src)) (ok : BlkOk X.N X.env.scope scope own)
    (hg : ∀ (s : Shared) (H : Hp) (C : Addr) (cl : List (Str × Addr)) (fp : List Addr), PG (X.blk s H scope (compEnvC scope cl C X.env) fp) tg (tG X.K one tgs))
    (ht : ∀ (s : Shared) (H : Hp) (C : Addr) (cl : List (Str × Addr)) (fp : List Addr), Cok Φ G fs bs k (X.blk s H scope (compEnvC scope cl C X.env) fp) WF → PTs (X.blk s H scope (compEnvC scope cl C X.env) fp) ifs (tIi Φ G WF X.K X.mg eifs))
    (he : ∀ (s : Shared) (H : Hp) (C : Addr) (cl : List (Str × Addr)) (fp : List Addr), Cok Φ G fs bs k (X.blk s H scope (compEnvC scope cl C X.env) fp) WF → PE (X.blk s H scope (compEnvC scope cl C X.env) fp) elt (tI Φ G WF X.K X.mg eelt))
    (hin : tgs.all (fun i => (own.map (·.2)).contains i) = true := by rfl) (hs : ∀ x, foldedSetIterable iter X.env x = pure x := by intro _; rfl) :
    PE X (.ListComp elt [⟨tg, iter, ifs, 0⟩] scope pos) (tI Φ G W X.K X.mg (.lc eelt tgs one kk src eifs (own.map (·.2)))) :=
  peI (pe_lc cok.calm cok.nd hi ok hg (fun s H C cl fp => ht s H C cl fp (cok.blk ..)) (fun s H C cl fp => he s H C cl fp (cok.blk ..)) hs) fun σ H Q q => lc_tr hin q
theorem ptsI {X : Cx} {es : List Expr} {t t' : TT} (h : PTs X es t') (m : ∀ σ H Q, t σ H Q → t' σ H Q) : PTs X es t := ⟨fun pins s σ H Q I q => h.run pins s σ H Q I (m σ H Q q)⟩
theorem so_if0 : PTs X [] (tIi Φ G W X.K X.mg .nil) := ptsI pts_nil fun σ H Q ⟨F, en, A, s, q⟩ => by
  simp only [evi] at q
  exact q F H A Go.refl s
theorem so_if1 {c : Expr} {ec : E} (h : PT X c (tIT Φ G W X.K X.mg ec)) : PTs X [c] (tIi Φ G W X.K X.mg (.cons ec .nil)) := ptsI (pts_one h) fun σ H Q ⟨F, en, A, s, q⟩ => by
  simp only [evi] at q
  exact ⟨F, en, A, s, q⟩
end
end Eng

set_option Elab.async false
set_option linter.all false
set_option maxRecDepth 100000
set_option maxHeartbeats 4000000
namespace Eng
open PySem PySem.Spec PyProof.Rows L2 RZ
/-! ### statements -/
inductive P where
  | bad | nil | cons (s ss : P)
  | asg (t : Tg) (e : E) | asgU (ts : Tg) (e : E) | asgT (ts : Tg) (es : E)
  | expr (e : E) | ret (e : E) | retN
  | forv (tg : List Nat) (one : Bool) (k : IK) (x : Nat) (b : P)
  | iff (c : E) (a b : P) | for_ (tg : List Nat) (one : Bool) (k : IK) (src : E) (b : P) | whl (c : E) (b : P)
  | brk | cnt | pass
inductive RS where
  | nx (en : En) | bk (en : En) | ct (en : En) | rt (s : S) (en : En) | exc (c : Str) (d : Option (Str × D)) (en : En) | stuck
@[simp] def RS.seq : RS → (En → RS) → RS
  | .nx en, f => f en
  | .bk en, _ => .bk en
  | .ct en, _ => .ct en
  | .rt s en, _ => .rt s en
  | .exc c d en, _ => .exc c d en
  | .stuck, _ => .stuck
@[simp] def R.st {α : Type} : R α → (α → En → RS) → RS
  | .ok a en, f => f a en
  | .exc c d en, _ => .exc c d en
  | .stuck, _ => .stuck
@[simp] def RS.ofO : Option En → RS
  | some en => .nx en
  | none => .stuck
def loopF (f : D → En → RS) : List D → En → RS
  | [], en => .nx en
  | x :: xs, en => match f x en with
    | .nx en => loopF f xs en
    | .ct en => loopF f xs en
    | .bk en => .nx en
    | .rt s en => .rt s en
    | .exc c d en => .exc c d en
    | .stuck => .stuck
def loopW (c : En → R Bool) (b : En → RS) : Nat → En → RS
  | 0, _ => .stuck
  | n + 1, en => (c en).st fun k en => if k then (match b en with
    | .nx en => loopW c b n en
    | .ct en => loopW c b n en
    | .bk en => .nx en
    | .rt s en => .rt s en
    | .exc c d en => .exc c d en
    | .stuck => .stuck) else .nx en
/-- a name that was taken out is put back -/
def putB (x : Nat) (s : S) : RS → RS
  | .nx en => .nx (en.set x (some s))
  | .bk en => .bk (en.set x (some s))
  | .ct en => .ct (en.set x (some s))
  | .rt v en => .rt v (en.set x (some s))
  | .exc c d en => .exc c d (en.set x (some s))
  | .stuck => .stuck
section
variable (Φ : Str → List S → FR) (G : Str → Option D) (fu : Nat)
/-- a target takes a value -/
def gIx (r : List D) : S → Option Nat
  | .dat (.int l) => ixN r.length l
  | _ => none
def evG : Tg → S → En → Option En
  | .nm i, s, en => some (en.set i (some s))
  | .ix x ie, s, en => match getE en x with
    | some (.ml _) => (match opn Φ G ie en with
      | .ok (.dat (.int k)) en1 => (match getE en1 x with
        | some (.ml ds) => (ixN ds.length k).map fun j => en1.set x (some (.ml (ds.set j (fz s))))
        | _ => none)
      | _ => none)
    | _ => none
  | .gst x ie je, s, en => match getE en x with
    | some (.mg rows) => (match opn Φ G ie (en.set x none) with
      | .ok a en1 => (match gRow rows a with
        | some r => (match opn Φ G je en1 with
          | .ok b en2 => (gIx r.2 b).map fun l => en2.set x (some (.mg (rows.set r.1 (r.2.set l (fz s)))))
          | _ => none)
        | none => none)
      | _ => none)
    | _ => none
  | .grw x ie, .ml ds, en => match getE en x with
    | some (.mg rows) => (match opn Φ G ie (en.set x none) with
      | .ok a en1 => (gRow rows a).map fun r => en1.set x (some (.mg (rows.set r.1 ds)))
      | _ => none)
    | _ => none
  | _, _, _ => none
def evGs : Tg → List S → En → Option En
  | .tnil, [], en => some en
  | .tcons t ts, s :: ss, en => (evG Φ G t s en).bind fun en => evGs ts ss en
  | _, _, _ => none
/-- what is returned: a name hands its own on -/
def evr : E → En → R S
  | .var i, en => match getE en i with
    | some s => .ok s (en.set i none)
    | none => .stuck
  | e, en => ev Φ G e en
def unpack : S → Option (List S)
  | .dat (.tup ds) => some (ds.map .dat)
  | _ => none
def evS : P → En → RS
  | .bad, _ => .stuck
  | .nil, en => .nx en
  | .cons s ss, en => (evS s en).seq fun en => evS ss en
  | .asg t e, en => (ev Φ G e en).st fun s en => RS.ofO (evG Φ G t s en)
  | .asgU ts e, en => (ev Φ G e en).st fun s en => match unpack s with
    | some ss => RS.ofO (evGs Φ G ts ss en)
    | none => .stuck
  | .asgT ts es, en => (evs Φ G es en).st fun ss en => RS.ofO (evGs Φ G ts ss en)
  | .expr e, en => (ev Φ G e en).st fun _ en => .nx en
  | .ret e, en => (evr Φ G e en).st fun s en => .rt s en
  | .retN, en => .rt (.dat .non) en
  | .iff c a b, en => (evT Φ G c en).st fun k en => if k then evS a en else evS b en
  | .for_ tg one k src b, en => (evs Φ G src en).st fun ss en => match itD k ss with
    | some xs => loopF (fun d en => match setD en tg one d with
      | some en => evS b en
      | none => .stuck) xs en
    | none => .stuck
  | .forv tg one k x b, en => match getE en x with
    | some s => (match itD k [s] with
      | some xs => putB x s (loopF (fun d en => match setD en tg one d with
        | some en => evS b en
        | none => .stuck) xs (en.set x none))
      | none => .stuck)
    | none => .stuck
  | .whl c b, en => loopW (fun en => evT Φ G c en) (fun en => evS b en) fu en
  | .brk, en => .bk en
  | .cnt, en => .ct en
  | .pass, en => .nx en
end
structure Fn where
  np : Nat
  kp : List Bool
  n : Nat
  b : P
def finE : List Bool → En → List (Option S)
  | [], _ => []
  | k :: ks, o :: en => (if k then o else none) :: finE ks en
  | _ :: ks, [] => none :: finE ks []
def endF (kp : List Bool) : RS → FR
  | .nx en => .ret (.dat .non) (finE kp en)
  | .rt s en => .ret s (finE kp en)
  | .exc c d _ => .exc c d
  | _ => .stuck
def runFn (Φ : Str → List S → FR) (G : Str → Option D) (fu : Nat) (d : Fn) (ss : List S) : FR :=
  if ss.length = d.np then endF d.kp (evS Φ G fu d.b (ss.map some ++ List.replicate (d.n - d.np) none)) else .stuck
/-- the text's functions, n calls deep -/
def callN (T : List (Str × Fn)) (G : Str → Option D) (fu : Nat) : Nat → Str → List S → FR
  | 0, _, _ => .stuck
  | n + 1, f, ss => match T.lookup f with
    | some d => runFn (callN T G fu n) G fu d ss
    | none => .stuck

/-! ### judgements -/
/-- slots of parameters that are never stored to -/
def Kp (kp : List Bool) (σ σ' : L2.St) : Prop := σ'.length = σ.length ∧ ∀ i : Nat, kp[i]? = some true → σ'[i]? = σ[i]?
theorem Kp.refl {kp : List Bool} {σ : L2.St} : Kp kp σ σ := ⟨rfl, fun _ _ => rfl⟩
theorem Kp.trans {kp : List Bool} {σ σ' σ2 : L2.St} (a : Kp kp σ σ') (b : Kp kp σ' σ2) : Kp kp σ σ2 := ⟨b.1.trans a.1, fun i h => (b.2 i h).trans (a.2 i h)⟩
theorem Kp.set {kp : List Bool} {σ : L2.St} {j : Nat} {o : Option V} (h : kp[j]? ≠ some true) : Kp kp σ (σ.set j o) := ⟨List.length_set, fun i hi => by
  rw [List.getElem?_set_ne (fun e => h (by rw [e]; exact hi))]⟩
def RnS (K : PySem.W.Frag) (mg : Str → Option Value) (W : WX) (kp : List Bool) (dd : Ends) (σ : L2.St) (F H : Hp) (A : List Addr) : RS → Prop
  | .nx en => ∀ σ' F' H' A', Kp kp σ σ' → Go F H A F' H' A' → Sok K mg F' H' σ' en A' → dd.nx σ' H'
  | .bk en => ∀ σ' F' H' A', Kp kp σ σ' → Go F H A F' H' A' → Sok K mg F' H' σ' en A' → dd.bk σ' H'
  | .ct en => ∀ σ' F' H' A', Kp kp σ σ' → Go F H A F' H' A' → Sok K mg F' H' σ' en A' → dd.ct σ' H'
  | .rt s en => ∀ v σ' F' H' A' ps, Kp kp σ σ' → Go F H A F' H' (ps ++ A') → Sok K mg F' H' σ' en A' → Own K mg F' H' s v ps → (ps ++ A').Nodup → dd.rt v H'
  | .exc c d en => ∀ cls ad σ' F' H' A', Kp kp σ σ' → Go F H A F' H' A' → Sok K mg F' H' σ' en A' → XOk K mg c d cls ad F' H' → W cls ad σ' H'
  | .stuck => False
section
variable {K : PySem.W.Frag} {mg : Str → Option Value} {W : WX} {kp : List Bool} {dd : Ends} {σ σ' : L2.St} {F H F' H' : Hp} {A A' : List Addr} {α : Type}
theorem RnS.go {r : RS} (h : RnS K mg W kp dd σ F H A r) (k : Kp kp σ σ') (g : Go F H A F' H' A') : RnS K mg W kp dd σ' F' H' A' r := by
  cases r with
  | nx en => exact fun σ2 F2 H2 A2 k2 g2 s => h σ2 F2 H2 A2 (k.trans k2) (g.trans g2) s
  | bk en => exact fun σ2 F2 H2 A2 k2 g2 s => h σ2 F2 H2 A2 (k.trans k2) (g.trans g2) s
  | ct en => exact fun σ2 F2 H2 A2 k2 g2 s => h σ2 F2 H2 A2 (k.trans k2) (g.trans g2) s
  | rt t en => exact fun v σ2 F2 H2 A2 ps k2 g2 s o nd => h v σ2 F2 H2 A2 ps (k.trans k2) (g.trans g2) s o nd
  | exc c d en => exact fun cls ad σ2 F2 H2 A2 k2 g2 s x => h cls ad σ2 F2 H2 A2 (k.trans k2) (g.trans g2) s x
  | stuck => exact h
theorem RnS.seq {r : RS} {f : En → RS} (h : RnS K mg W kp dd σ F H A (r.seq f)) : RnS K mg W kp { dd with nx := fun σ' H' => ∃ F' en A', Sok K mg F' H' σ' en A' ∧ RnS K mg W kp dd σ' F' H' A' (f en) } σ F H A r := by
  cases r with
  | nx en => exact fun σ2 F2 H2 A2 k2 g2 s => ⟨F2, en, A2, s, h.go k2 g2⟩
  | bk en => exact h
  | ct en => exact h
  | rt t en => exact h
  | exc c d en => exact h
  | stuck => exact h
theorem RnS.st {r : R α} {f : α → En → RS} (h : RnS K mg W kp dd σ F H A (r.st f)) : Rn K mg W σ F H A r (fun a en => RnS K mg W kp dd σ F H A (f a en)) := by
  cases r with
  | ok a en => exact h
  | exc c d en => exact fun cls ad F2 H2 A2 g2 s x => h cls ad σ F2 H2 A2 Kp.refl g2 s x
  | stuck => exact h
/-- other ends -/
theorem RnS.ends {r : RS} {d2 : Ends} (h : RnS K mg W kp dd σ F H A r) (h1 : dd.nx = d2.nx) (h2 : dd.bk = d2.bk) (h3 : dd.ct = d2.ct) (h4 : dd.rt = d2.rt) : RnS K mg W kp d2 σ F H A r := by
  cases dd; cases d2; cases h1; cases h2; cases h3; cases h4; exact h
end
section
variable (Φ : Str → List S → FR) (G : Str → Option D) (K : PySem.W.Frag) (mg : Str → Option Value) (kp : List Bool)
/-- a target, a value in hand -/
def tTg (t : Tg) : TG := fun v σ H Q => ∃ F en A ps s en', Sok K mg F H σ en A ∧ Own K mg F H s v ps ∧ (ps ++ A).Nodup ∧ evG Φ G t s en = some en' ∧
  ∀ σ' F' H' A', Kp kp σ σ' → Go F H (ps ++ A) F' H' A' → Sok K mg F' H' σ' en' A' → Q σ' H'
def tTs (t : Tg) : TGs := fun vs σ H Q => ∃ F en A ps ss en', Sok K mg F H σ en A ∧ OwE K mg F H (ss.map some) (vs.map some) ps ∧ (ps ++ A).Nodup ∧ evGs Φ G t ss en = some en' ∧
  ∀ σ' F' H' A', Kp kp σ σ' → Go F H (ps ++ A) F' H' A' → Sok K mg F' H' σ' en' A' → Q σ' H'
end
def tP (Φ : Str → List S → FR) (G : Str → Option D) (W : WX) (K : PySem.W.Frag) (mg : Str → Option Value) (fu : Nat) (kp : List Bool) (p : P) : TS := fun dd σ H => ∃ F en A, Sok K mg F H σ en A ∧ RnS K mg W kp dd σ F H A (evS Φ G fu p en)
end Eng

set_option Elab.async false
set_option linter.all false
set_option maxRecDepth 100000
set_option maxHeartbeats 4000000
namespace Eng
open PySem PySem.Spec PyProof.Rows L2 RZ
section
variable {Φ : Str → List S → FR} {G : Str → Option D} {fs : Fs} {bs : List Str} {k : Nat} {X : Cx} {W : WX} {fu : Nat} {kp : List Bool}
variable {a b c e tg : Expr} {es : List Expr} {ea eb ec ees : E} {pos p : Pos} {x : Str} {st : Stmt} {sts : List Stmt} {pa pb : P} {t ts : Tg}
theorem pgI {g g' : TG} (h : PG X tg g') (m : ∀ v σ H Q, g v σ H Q → g' v σ H Q) : PG X tg g := ⟨fun pins s σ H v u Q I r q => h.run pins s σ H v u Q I r (m v σ H Q q)⟩
theorem pgsI {g g' : TGs} (h : PGs X es g') (m : ∀ v σ H Q, g v σ H Q → g' v σ H Q) : PGs X es g := ⟨fun pins s σ H v u Q I r q => h.run pins s σ H v u Q I r (m v σ H Q q)⟩
theorem psI {t t' : TS} (h : PS X st t') (m : ∀ D σ H, t D σ H → t' D σ H) : PS X st t := ⟨fun pins s σ H D I q => h.run pins s σ H D I (m D σ H q)⟩
theorem pssI {t t' : TS} (h : PSs X sts t') (m : ∀ D σ H, t D σ H → t' D σ H) : PSs X sts t := ⟨fun pins s σ H D I q => h.run pins s σ H D I (m D σ H q)⟩
theorem kp_ne {kp : List Bool} {i : Nat} (h : kp.getD i false = false) : kp[i]? ≠ some true := fun z => by
  rw [List.getD_eq_getElem?_getD, z] at h
  cases h
theorem Sok.setN2 {K : PySem.W.Frag} {mg : Str → Option Value} {F H : Hp} {A ps : List Addr} {σ : L2.St} {en : En} {s : S} {v : V} (x : Sok K mg F H σ en A) (q : Own K mg F H s v ps) (nd : (ps ++ A).Nodup) (i : Nat) :
    ∃ B, Sok K mg F H (σ.set i (some v)) (en.set i (some s)) B ∧ ∀ a, a ∈ B → a ∈ ps ++ A := by
  by_cases hi : i < en.length
  · exact x.set q nd hi
  · rw [List.set_eq_of_length_le (by rw [x.len]; omega), List.set_eq_of_length_le (by omega)]
    exact ⟨A, x, fun a h => List.mem_append_right _ h⟩
/-! ### targets -/
theorem tTg_nm {K : PySem.W.Frag} {mg : Str → Option Value} {i : Nat} (hk : kp.getD i false = false) {v : V} {σ : L2.St} {H : Hp} {Q : L2.St → Hp → Prop} (h : tTg Φ G K mg kp (.nm i) v σ H Q) : gName i v σ H Q := by
  obtain ⟨F, en, A, ps, s, en', x, o, nd, e, q⟩ := h
  simp only [evG, Option.some.injEq] at e
  subst e
  obtain ⟨B, x2, h2⟩ := x.setN2 o nd i
  exact q _ F H B (Kp.set (kp_ne hk)) (Go.refl.sub h2) x2
theorem tg_nm {i : Nat} (hN : X.N.Nodup) (hi : X.N[i]? = some x) (hx : Loc X.env.scope x) (hf : X.fn x = true ∨ X.env.scope.names.lookup x = some .local) (hk : kp.getD i false = false := by rfl) : PG X (.Name x pos) (tTg Φ G X.K X.mg kp (.nm i)) :=
  pgI (pg_name hN hi hx hf) fun v σ H Q h => tTg_nm hk h
theorem evG_ix {x : Nat} {s : S} {en en' : En} (h : evG Φ G (.ix x ea) s en = some en') : ∃ ds0 k en1 ds j, getE en x = some (.ml ds0) ∧ opn Φ G ea en = .ok (.dat (.int k)) en1 ∧ getE en1 x = some (.ml ds) ∧ ixN ds.length k = some j ∧ en' = en1.set x (some (.ml (ds.set j (fz s)))) := by
  simp only [evG] at h
  split at h
  · rename_i ds0 e0
    split at h
    · rename_i k en1 e2
      split at h
      · rename_i ds e3
        obtain ⟨j, e4, e5⟩ := Option.map_eq_some_iff.mp h
        exact ⟨ds0, k, en1, ds, j, e0, e2, e3, e4, e5.symm⟩
      · cases h
    · cases h
  · cases h
def Tg.len : Tg → Nat
  | .tcons _ ts => ts.len + 1
  | _ => 0
theorem evGs_len : ∀ {ts : Tg} {ss : List S} {en en' : En}, evGs Φ G ts ss en = some en' → ss.length = ts.len
  | .tnil, [], _, _, _ => rfl
  | .tnil, _ :: _, _, _, h => by simp [evGs] at h
  | .nm _, ss, _, _, h => by cases ss <;> simp [evGs] at h
  | .ix _ _, ss, _, _, h => by cases ss <;> simp [evGs] at h
  | .gst _ _ _, ss, _, _, h => by cases ss <;> simp [evGs] at h
  | .grw _ _, ss, _, _, h => by cases ss <;> simp [evGs] at h
  | .tcons t ts, [], _, _, h => by simp [evGs] at h
  | .tcons t ts, s :: ss, _, _, h => by
    simp only [evGs] at h
    obtain ⟨en1, e1, e2⟩ := Option.bind_eq_some_iff.mp h
    rw [List.length_cons, evGs_len e2]; rfl
theorem tg_ix {i : Nat} (hN : X.N[i]? = some x) (hv : Vis X.env.scope x) (hi : PE X e (tO Φ G W X.K X.mg ea)) (hd : (x == ("__debug__" : Str)) = false := by decide) (hcd : (x == ("__classdict__" : Str)) = false := by decide)
    (ha : ∀ v, assign (.Subscript (.Name x p) e pos) X.env v = (do
      let ov ← holding [v] (eval (.Name x p) X.env)
      let iv ← holding [v, ov] (eval e X.env)
      standAt pos
      holding [v, ov, iv] (setItem ov iv v)
      release [v, ov, iv] []) := by intro _; rfl) : PG X (.Subscript (.Name x p) e pos) (tTg Φ G X.K X.mg kp (.ix i ea)) :=
  pgI (pg_sub (pe_var hN hv hd hcd) hi set_list ha) fun v σ H Q ⟨F, en, A, ps, s, en', x, o, nd, e, q⟩ => by
    obtain ⟨ds0, k, en1, ds, j, e0, e2, e3, e4, rfl⟩ := evG_ix e
    obtain ⟨v0, ps0, e1, o0, _⟩ := x.own e0
    refine ⟨v0, e1, F, en, A, x, ?_⟩
    rw [e2]
    intro w F1 H1 A1 ps1 g1 x1 h1 nd1
    obtain ⟨_, ow⟩ := has_now h1 x1
    rw [ow.int]
    have g2 := go_tail g1
    have dis := nodup_dis nd
    have o1 := o.go g2 dis
    have nd2 : (ps ++ A1).Nodup := nodup_mk (List.nodup_append.mp nd).1 x1.nd (dis_go g2 dis fun a ha => (o.here a ha).2)
    obtain ⟨x3, g3⟩ := frz_go x1 nd2 fun a ha => (o1.here a ha).1
    obtain ⟨l, vs, e5, hF, hH, d, wr⟩ := x3.write (ds' := ds.set j (fz s)) e3
    obtain ⟨A', x4, g4⟩ := wr (vs.set j v) (d.set o1.fz j)
    rw [e1] at e5; cases e5
    refine ⟨l, vs, k, j, rfl, rfl, hH, by rw [d.len]; exact e4, ?_⟩
    exact q σ _ _ A' Kp.refl (((g2.frame (C := ps)).trans g3).trans g4) x4
theorem tTs_nil {K : PySem.W.Frag} {mg : Str → Option Value} {vs : List V} {σ : L2.St} {H : Hp} {Q : L2.St → Hp → Prop} (h : tTs Φ G K mg kp .tnil vs σ H Q) : gNil vs σ H Q := by
  obtain ⟨F, en, A, ps, ss, en', x, o, nd, e, q⟩ := h
  cases ss with
  | nil =>
    simp only [evGs, Option.some.injEq] at e
    subst e
    have hl := o.len
    simp at hl
    subst hl
    exact ⟨rfl, q σ F H A Kp.refl (Go.refl.sub fun a h => List.mem_append_right _ h) x⟩
  | cons s ss => simp [evGs] at e
theorem tg_nil : PGs X [] (tTs Φ G X.K X.mg kp .tnil) := pgsI pgs_nil fun vs σ H Q h => tTs_nil h
theorem tTs_cons {K : PySem.W.Frag} {mg : Str → Option Value} {vs : List V} {σ : L2.St} {H : Hp} {Q : L2.St → Hp → Prop} (h : tTs Φ G K mg kp (.tcons t ts) vs σ H Q) : gCons (tTg Φ G K mg kp t) (tTs Φ G K mg kp ts) vs σ H Q := by
  obtain ⟨F, en, A, ps, ss, en', x, o, nd, e, q⟩ := h
  cases ss with
  | nil => simp [evGs] at e
  | cons s ss =>
    simp only [evGs] at e
    obtain ⟨en1, e1, e2⟩ := Option.bind_eq_some_iff.mp e
    simp only [List.map_cons, OwE] at o
    obtain ⟨v, r, p1, B, er, rfl, o1, o2⟩ := o
    cases vs with
    | nil => cases er
    | cons w ws =>
      simp only [List.map_cons, List.cons.injEq, Option.some.injEq] at er
      obtain ⟨rfl, rfl⟩ := er
      rw [List.append_assoc] at nd
      obtain ⟨n1, n2, n3⟩ := List.nodup_append.mp nd
      obtain ⟨n4, n5, n6⟩ := List.nodup_append.mp n2
      have ndA : (p1 ++ A).Nodup := nodup_mk n1 n5 fun a ha hb => n3 a ha a (List.mem_append_right _ hb) rfl
      refine ⟨w, ws, rfl, F, en, A, p1, s, en1, x, o1, ndA, e1, fun σ1 F1 H1 A1 k1 g1 x1 => ?_⟩
      have disB : ∀ a, a ∈ B → a ∉ p1 ++ A := fun a ha hb => by
        rcases List.mem_append.mp hb with z | z
        · exact n3 a z a (List.mem_append_left _ ha) rfl
        · exact n6 a ha a z rfl
      have hB := dis_go g1 disB fun a ha => (o2.here a ha).2
      refine ⟨F1, en1, A1, B, ss, en', x1, o2.go g1 disB, nodup_mk n4 x1.nd hB, e2, fun σ2 F2 H2 A2 k2 g2 x2 => ?_⟩
      refine q σ2 F2 H2 A2 (k1.trans k2) ?_ x2
      have g3 := ((g1.frame (C := B)).trans g2).wide (C := (p1 ++ B) ++ A) fun a ha => by
        rcases List.mem_append.mp ha with z | z
        · exact List.mem_append_left _ (List.mem_append_right _ z)
        · rcases List.mem_append.mp z with z | z
          · exact List.mem_append_left _ (List.mem_append_left _ z)
          · exact List.mem_append_right _ z
      exact g3
theorem tg_cons (h1 : PG X tg (tTg Φ G X.K X.mg kp t)) (h2 : PGs X es (tTs Φ G X.K X.mg kp ts)) (ha : (assignEach (tg :: es) X.env).map (·.2) = assign tg X.env :: (assignEach es X.env).map (·.2) := by rfl) : PGs X (tg :: es) (tTs Φ G X.K X.mg kp (.tcons t ts)) :=
  pgsI (pgs_cons h1 h2 ha) fun vs σ H Q h => tTs_cons h
/-! ### statements -/
theorem sp_nil : PSs X [] (tP Φ G W X.K X.mg fu kp .nil) := pssI pss_nil fun D σ H ⟨F, en, A, s, q⟩ => q σ F H A Kp.refl Go.refl s
theorem sp_cons (h1 : PS X st (tP Φ G W X.K X.mg fu kp pa)) (h2 : PSs X sts (tP Φ G W X.K X.mg fu kp pb)) : PSs X (st :: sts) (tP Φ G W X.K X.mg fu kp (.cons pa pb)) := pssI (pss_cons h1 h2) fun D σ H ⟨F, en, A, s, q⟩ => by
  simp only [evS] at q
  exact ⟨F, en, A, s, q.seq⟩
theorem sp_pass : PS X (.Pass pos) (tP Φ G W X.K X.mg fu kp .pass) := psI ps_pass fun D σ H ⟨F, en, A, s, q⟩ => q σ F H A Kp.refl Go.refl s
theorem sp_brk : PS X (.Break pos) (tP Φ G W X.K X.mg fu kp .brk) := psI ps_break fun D σ H ⟨F, en, A, s, q⟩ => q σ F H A Kp.refl Go.refl s
theorem sp_cnt : PS X (.Continue pos) (tP Φ G W X.K X.mg fu kp .cnt) := psI ps_continue fun D σ H ⟨F, en, A, s, q⟩ => q σ F H A Kp.refl Go.refl s
theorem sp_doc {m : Str} {j : Nat} {pos' : Pos} : PS X (.Expr (.Constant (.str m) j pos) pos') (tP Φ G W X.K X.mg fu kp .pass) := psI ps_doc fun D σ H ⟨F, en, A, s, q⟩ => q σ F H A Kp.refl Go.refl s
theorem sp_expr (h : PE X e (tI Φ G W X.K X.mg ea)) (hs : swapsWith e none pos.line X.env = pure false := by rfl) : PS X (.Expr e pos) (tP Φ G W X.K X.mg fu kp (.expr ea)) := psI (ps_expr h hs) fun D σ H ⟨F, en, A, s, q⟩ => by
  simp only [evS] at q
  exact ⟨F, en, A, s, q.st.mono fun t en1 q1 v F1 H1 A1 ps1 g1 x1 h1 nd1 => q1 σ F1 H1 A1 Kp.refl (go_tail g1) x1⟩
theorem evr_eq {e : E} (h : e.isV = false) (en : En) : evr Φ G e en = ev Φ G e en := by
  cases e <;> first | rfl | (exact absurd h (by simp [E.isV]))
theorem sp_ret (h : PE X e (tI Φ G W X.K X.mg ea)) (hv : ea.isV = false := by rfl) : PS X (.Return (some e) pos) (tP Φ G W X.K X.mg fu kp (.ret ea)) := psI (ps_ret h) fun D σ H ⟨F, en, A, s, q⟩ => by
  simp only [evS, evr_eq hv] at q
  exact ⟨F, en, A, s, q.st.mono fun t en1 q1 v F1 H1 A1 ps1 g1 x1 h1 nd1 => q1 v σ F1 H1 A1 ps1 Kp.refl g1 x1 h1 nd1⟩
theorem sp_retv {i : Nat} (hN : X.N[i]? = some x) (hv : Vis X.env.scope x) (hd : (x == ("__debug__" : Str)) = false := by decide) (hcd : (x == ("__classdict__" : Str)) = false := by decide) : PS X (.Return (some (.Name x p)) pos) (tP Φ G W X.K X.mg fu kp (.ret (.var i))) :=
  psI (ps_ret (pe_var hN hv hd hcd)) fun D σ H ⟨F, en, A, s, q⟩ => by
    simp only [evS, evr] at q
    cases e : getE en i with
    | none => rw [e] at q; exact q.elim
    | some t =>
      rw [e] at q
      obtain ⟨v, ps, B, e1, o, x2, pm⟩ := s.take e
      exact ⟨v, e1, q v σ F H B ps Kp.refl (Go.refl.sub fun a ha => pm.mem_iff.mpr ha) x2 o (pm.nodup_iff.mp s.nd)⟩
theorem sp_retN : PS X (.Return none pos) (tP Φ G W X.K X.mg fu kp .retN) := psI ps_retN fun D σ H ⟨F, en, A, s, q⟩ => q .non σ F H A [] Kp.refl Go.refl s ⟨rfl, denN⟩ (by simpa using s.nd)
theorem sp_if {sa sb : List Stmt} (hc : PT X c (tIT Φ G W X.K X.mg ec)) (ha : PSs X sa (tP Φ G W X.K X.mg fu kp pa)) (hb : PSs X sb (tP Φ G W X.K X.mg fu kp pb)) : PS X (.If c sa sb pos) (tP Φ G W X.K X.mg fu kp (.iff ec pa pb)) :=
  psI (ps_if hc ha hb) fun D σ H ⟨F, en, A, s, q⟩ => by
    simp only [evS] at q
    refine ⟨F, en, A, s, q.st.mono fun k en1 q1 F1 H1 A1 g1 x1 => ?_⟩
    cases k with
    | true => exact iteT ⟨F1, en1, A1, x1, q1.go Kp.refl g1⟩
    | false => exact iteF ⟨F1, en1, A1, x1, q1.go Kp.refl g1⟩
theorem asg_ok {t : Tg} {D : Ends} {σ : L2.St} {H : Hp} (h : tP Φ G W X.K X.mg fu kp (.asg t ea) D σ H) : tAsg (tI Φ G W X.K X.mg ea) (tTg Φ G X.K X.mg kp t) D σ H := by
  obtain ⟨F, en, A, s, q⟩ := h
  simp only [evS] at q
  refine ⟨F, en, A, s, q.st.mono fun s1 en1 q1 v F1 H1 A1 ps1 g1 x1 h1 nd1 => ?_⟩
  cases hg : evG Φ G t s1 en1 with
  | none => rw [hg] at q1; exact q1.elim
  | some en2 =>
    rw [hg] at q1
    exact ⟨F1, en1, A1, ps1, s1, en2, x1, h1, nd1, hg, fun σ2 F2 H2 A2 k2 g2 x2 => q1 σ2 F2 H2 A2 k2 (g1.trans g2) x2⟩
theorem sp_asg (h : PE X e (tI Φ G W X.K X.mg ea)) (hg : PG X tg (tTg Φ G X.K X.mg kp t)) (hs : swapsWithSole [tg] e pos.line X.env = pure false := by rfl) (hw : swappedStores [tg] e X.env = pure none := by rfl)
    (h1 : (assignEach [tg] X.env).map (·.2) = [assign tg X.env] := by rfl) : PS X (.Assign [tg] e pos) (tP Φ G W X.K X.mg fu kp (.asg t ea)) := psI (ps_asg h hg hs hw h1) fun D σ H q => asg_ok q
theorem unpack_some {s : S} {ss : List S} (h : unpack s = some ss) : ∃ ds, s = .dat (.tup ds) ∧ ss = ds.map .dat := by
  cases s with
  | dat d => cases d <;> simp [unpack] at h; subst h; exact ⟨_, rfl, rfl⟩
  | _ => simp [unpack] at h
theorem owe_dats {K : PySem.W.Frag} {mg : Str → Option Value} {F H : Hp} : ∀ {ds : List D} {vs : List V}, Dens K mg F ds vs → OwE K mg F H ((ds.map S.dat).map some) (vs.map some) []
  | [], vs, h => by simp only [Dens] at h; subst h; simp [OwE]
  | d :: ds, vs, h => by
    simp only [Dens] at h
    obtain ⟨w, r, rfl, h1, h2⟩ := h
    simp only [List.map_cons, OwE]
    exact ⟨w, _, [], [], rfl, rfl, ⟨rfl, h1⟩, owe_dats h2⟩
/-- a tuple's items to the targets -/
theorem sp_asgU {n : Nat} {tp : Pos} (cal : X.calm = true) (h : PE X e (tI Φ G W X.K X.mg ea)) (hg : PGs X es (tTs Φ G X.K X.mg kp ts)) (hn : (assignEach es X.env).findIdx? (·.1) = none := by rfl) (hl : (assignEach es X.env).length = ts.len := by rfl)
    (hs : swapsWithSole [.Tuple es n tp] e pos.line X.env = pure false := by rfl) (hw : swappedStores [.Tuple es n tp] e X.env = pure none := by rfl)
    (h1 : (assignEach [.Tuple es n tp] X.env).map (·.2) = [assign (.Tuple es n tp) X.env] := by rfl) : PS X (.Assign [.Tuple es n tp] e pos) (tP Φ G W X.K X.mg fu kp (.asgU ts ea)) :=
  psI (ps_asg h (pg_tup (n := ts.len) cal hg hl hn) hs hw h1) fun D σ H ⟨F, en, A, s, q⟩ => by
    simp only [evS] at q
    refine ⟨F, en, A, s, q.st.mono fun s1 en1 q1 v F1 H1 A1 ps1 g1 x1 h1 nd1 => ?_⟩
    split at q1
    · rename_i ss e1
      obtain ⟨ds, rfl, rfl⟩ := unpack_some e1
      cases hg : evGs Φ G ts (ds.map .dat) en1 with
      | none => rw [hg] at q1; exact q1.elim
      | some en2 =>
        rw [hg] at q1
        obtain ⟨a, vs, rfl, hq, d⟩ := h1.vT x1.sub rfl
        refine ⟨a, vs, rfl, hq, by rw [d.len, ← evGs_len hg, List.length_map], F1, en1, A1, [], _, en2, x1, owe_dats d, by simpa using x1.nd, hg, fun σ2 F2 H2 A2 k2 g2 x2 => q1 σ2 F2 H2 A2 k2 ((go_tail g1).trans g2) x2⟩
    · exact q1.elim
/-! ### several at once -/
theorem tI_mono {K : PySem.W.Frag} {mg : Str → Option Value} {σ : L2.St} {H : Hp} {Q Q' : VK} (h : tI Φ G W K mg ea σ H Q) (m : ∀ v H, Q v H → Q' v H) : tI Φ G W K mg ea σ H Q' := by
  obtain ⟨F, en, A, s, q⟩ := h
  exact ⟨F, en, A, s, q.mono fun t en' q1 v F' H' A' ps g x o nd => m _ _ (q1 v F' H' A' ps g x o nd)⟩
theorem asgT_ok {D : Ends} {σ : L2.St} {H : Hp} (h : tP Φ G W X.K X.mg fu kp (.asgT ts ees) D σ H) : tIs Φ G W X.K X.mg ees σ H fun vs H1 => vs.length = ts.len ∧ tTs Φ G X.K X.mg kp ts vs σ H1 D.nx := by
  obtain ⟨F, en, A, s, q⟩ := h
  simp only [evS] at q
  refine ⟨F, en, A, s, q.st.mono fun ss en1 q1 vs F1 H1 A1 ps1 g1 x1 h1 nd1 => ?_⟩
  cases hg : evGs Φ G ts ss en1 with
  | none => rw [hg] at q1; exact q1.elim
  | some en2 =>
    rw [hg] at q1
    have hl := h1.len
    simp only [List.length_map] at hl
    exact ⟨by rw [hl, evGs_len hg], F1, en1, A1, ps1, ss, en2, x1, h1, nd1, hg, fun σ2 F2 H2 A2 k2 g2 x2 => q1 σ2 F2 H2 A2 k2 (g1.trans g2) x2⟩
theorem tIs_mono {K : PySem.W.Frag} {mg : Str → Option Value} {σ : L2.St} {H : Hp} {Q Q' : List V → Hp → Prop} (h : tIs Φ G W K mg ees σ H Q) (m : ∀ v H, Q v H → Q' v H) : tIs Φ G W K mg ees σ H Q' := by
  obtain ⟨F, en, A, s, q⟩ := h
  exact ⟨F, en, A, s, q.mono fun t en' q1 v F' H' A' ps g x o nd => m _ _ (q1 v F' H' A' ps g x o nd)⟩
theorem sp_par {i j : Nat} {y : Str} {px py pt : Pos} {kt k2 pt2} (cal : X.calm = true) (hN : X.N.Nodup) (hi : X.N[i]? = some x) (hj : X.N[j]? = some y) (hij : i ≠ j)
    (hx : X.env.scope.names.lookup x = some .local) (hy : X.env.scope.names.lookup y = some .local) (ha : PA X [a, b] (tIs Φ G W X.K X.mg ees))
    (hw : swappedStores [.Tuple [.Name x px, .Name y py] kt pt] (.Tuple [a, b] k2 pt2) X.env = pure (some [x, y]))
    (hki : kp.getD i false = false := by rfl) (hkj : kp.getD j false = false := by rfl)
    (hs : swapsWithSole [.Tuple [.Name x px, .Name y py] kt pt] (.Tuple [a, b] k2 pt2) pos.line X.env = pure false := by rfl) :
    PS X (.Assign [.Tuple [.Name x px, .Name y py] kt pt] (.Tuple [a, b] k2 pt2) pos) (tP Φ G W X.K X.mg fu kp (.asgT (.tcons (.nm i) (.tcons (.nm j) .tnil)) ees)) :=
  psI (ps_par cal hN hi hj hij hx hy ha hw hs) fun D σ H h => tIs_mono (asgT_ok h) fun vs H1 hq => by
    obtain ⟨_, q0⟩ := hq
    obtain ⟨v, r, e1, q1⟩ := tTs_cons q0
    have q2 : gName i v σ H1 (fun σ' H' => tTs Φ G X.K X.mg kp (.tcons (.nm j) .tnil) r σ' H' D.nx) := tTg_nm hki q1
    obtain ⟨w, r', e2, q3⟩ := tTs_cons (show tTs Φ G X.K X.mg kp (.tcons (.nm j) .tnil) r (σ.set i (some v)) H1 D.nx from q2)
    have q4 : gName j w (σ.set i (some v)) H1 (fun σ' H' => tTs Φ G X.K X.mg kp .tnil r' σ' H' D.nx) := tTg_nm hkj q3
    obtain ⟨e3, q5⟩ := tTs_nil (show tTs Φ G X.K X.mg kp .tnil r' ((σ.set i (some v)).set j (some w)) H1 D.nx from q4)
    exact ⟨v, w, by rw [e1, e2, e3], q5⟩
theorem sp_par3 {i j l : Nat} {y z : Str} {px py pz pt : Pos} {kt k2 pt2} (cal : X.calm = true) (hN : X.N.Nodup) (hi : X.N[i]? = some x) (hj : X.N[j]? = some y) (hl : X.N[l]? = some z) (hij : i ≠ j) (hil : i ≠ l) (hjl : j ≠ l)
    (hx : X.env.scope.names.lookup x = some .local) (hy : X.env.scope.names.lookup y = some .local) (hz : X.env.scope.names.lookup z = some .local) (ha : PA X [a, b, c] (tIs Φ G W X.K X.mg ees))
    (hw : swappedStores [.Tuple [.Name x px, .Name y py, .Name z pz] kt pt] (.Tuple [a, b, c] k2 pt2) X.env = pure (some [x, y, z]))
    (hki : kp.getD i false = false := by rfl) (hkj : kp.getD j false = false := by rfl) (hkl : kp.getD l false = false := by rfl)
    (hs : swapsWithSole [.Tuple [.Name x px, .Name y py, .Name z pz] kt pt] (.Tuple [a, b, c] k2 pt2) pos.line X.env = pure false := by rfl) :
    PS X (.Assign [.Tuple [.Name x px, .Name y py, .Name z pz] kt pt] (.Tuple [a, b, c] k2 pt2) pos) (tP Φ G W X.K X.mg fu kp (.asgT (.tcons (.nm i) (.tcons (.nm j) (.tcons (.nm l) .tnil))) ees)) :=
  psI (ps_par3 cal hN hi hj hl hij hil hjl hx hy hz ha hw hs) fun D σ H h => tIs_mono (asgT_ok h) fun vs H1 hq => by
    obtain ⟨_, q0⟩ := hq
    obtain ⟨v, r, e1, q1⟩ := tTs_cons q0
    have q2 : gName i v σ H1 (fun σ' H' => tTs Φ G X.K X.mg kp (.tcons (.nm j) (.tcons (.nm l) .tnil)) r σ' H' D.nx) := tTg_nm hki q1
    obtain ⟨w, r', e2, q3⟩ := tTs_cons (show tTs Φ G X.K X.mg kp (.tcons (.nm j) (.tcons (.nm l) .tnil)) r (σ.set i (some v)) H1 D.nx from q2)
    have q4 : gName j w (σ.set i (some v)) H1 (fun σ' H' => tTs Φ G X.K X.mg kp (.tcons (.nm l) .tnil) r' σ' H' D.nx) := tTg_nm hkj q3
    obtain ⟨u, r'', e3, q5⟩ := tTs_cons (show tTs Φ G X.K X.mg kp (.tcons (.nm l) .tnil) r' ((σ.set i (some v)).set j (some w)) H1 D.nx from q4)
    have q6 : gName l u ((σ.set i (some v)).set j (some w)) H1 (fun σ' H' => tTs Φ G X.K X.mg kp .tnil r'' σ' H' D.nx) := tTg_nm hkl q5
    obtain ⟨e4, q7⟩ := tTs_nil (show tTs Φ G X.K X.mg kp .tnil r'' (((σ.set i (some v)).set j (some w)).set l (some u)) H1 D.nx from q6)
    exact ⟨v, w, u, by rw [e1, e2, e3, e4], q7⟩
/-- by way of a tuple -/
theorem sp_asgT {us : List Expr} {n m : Nat} {tp tp2 : Pos} (cal : X.calm = true) (ha : PA X us (tIs Φ G W X.K X.mg ees)) (hg : PGs X es (tTs Φ G X.K X.mg kp ts)) (hw : swappedStores [.Tuple es n tp] (.Tuple us m tp2) X.env = pure none) (hz : ts.len ≤ 100 := by decide)
    (hn : (assignEach es X.env).findIdx? (·.1) = none := by rfl) (hl : (assignEach es X.env).length = ts.len := by rfl)
    (hs : swapsWithSole [.Tuple es n tp] (.Tuple us m tp2) pos.line X.env = pure false := by rfl)
    (h1 : (assignEach [.Tuple es n tp] X.env).map (·.2) = [assign (.Tuple es n tp) X.env] := by rfl) : PS X (.Assign [.Tuple es n tp] (.Tuple us m tp2) pos) (tP Φ G W X.K X.mg fu kp (.asgT ts ees)) :=
  psI (ps_asg (pe_tup ha) (pg_tup (n := ts.len) cal hg hl hn) hs hw h1) fun D σ H h => tIs_mono (asgT_ok h) fun vs H1 ⟨hlen, q⟩ => by
    refine ⟨by rw [hlen, sizeLine_eq]; omega, fun p hp => ?_⟩
    refine ⟨p, vs, rfl, .inl (.inl upd_same), hlen, ?_⟩
    obtain ⟨F, en, A, ps, ss, en', x, o, nd, e, q⟩ := q
    have g2 : Go F H1 [] F (upd H1 p (.tup vs)) [] := (go_own hp _).sub fun _ z => nomatch z
    have sb2 := sub_own hp x.sub (.tup vs)
    refine ⟨F, en, A, ps, ss, en', x.go g2 sb2 (fun _ _ z => nomatch z), o.go g2 (fun _ _ z => nomatch z), nd, e, fun σ' F' H' A' k g x' => q σ' F' H' A' k ?_ x'⟩
    have g3 := (g2.frame (C := ps ++ A)).trans (g.wide (C := (ps ++ A) ++ []) fun a ha => by simpa using ha)
    simpa using g3
/-! ### loops -/
theorem kp_of {tgs : List Nat} {σ σ' : L2.St} (h : wipe σ' tgs = wipe σ tgs) (hk : tgs.all (fun i => kp.getD i false == false) = true) : Kp kp σ σ' := by
  refine ⟨?_, fun i hi => ?_⟩
  · rw [← wipe_length σ' tgs, h, wipe_length]
  · have hn : i ∉ tgs := fun z => by
      have := List.all_eq_true.mp hk i z
      rw [List.getD_eq_getElem?_getD, hi] at this
      simp at this
    rw [← wipe_ne (σ := σ') hn, h, wipe_ne hn]
theorem sp_for {iter : Expr} {tgs : List Nat} {one : Bool} {kk : IK} {src : E} (hp : PassesOwn (model X.prog X.w) X.A X.env X.xe) (cal : X.calm = true) (hi : PI X tg iter (tIK Φ G W X.K X.mg kk src)) (hg : PG X tg (tG X.K one tgs)) (hb : PSs X sts (tP Φ G W X.K X.mg fu kp pa))
    (hk : tgs.all (fun i => kp.getD i false == false) = true := by rfl) (hs : ∀ x, foldedSetIterable iter X.env x = pure x := by intro _; rfl) : PS X (.For tg iter sts [] pos) (tP Φ G W X.K X.mg fu kp (.for_ tgs one kk src pa)) :=
  psI (ps_for hp cal hi hg hb hs) fun D σ H ⟨F, en, A, s, q⟩ => by
    simp only [evS] at q
    refine ⟨F, en, A, s, q.st.mono fun ss en1 q1 => ?_⟩
    split at q1
    · rename_i xs hxs
      refine ⟨xs, hxs, fun F' H' A' J g x w => ?_⟩
      obtain ⟨Y, wk, hy⟩ := w
      generalize hf : (fun d en => match setD en tgs one d with
        | some en => evS Φ G fu pa en
        | none => .stuck) = f at q1
      refine for_it wk (fun i σ1 H1 => ∃ F1 en1 A1, Sok X.K X.mg F1 H1 σ1 en1 A1 ∧ Sub F' F1 ∧ RnS X.K X.mg W kp D σ1 F1 H1 A1 (loopF f (xs.drop i) en1)) ?_ ?_ ?_ ?_
      · exact ⟨F', en1, A', x, fun _ _ h => h, q1.go Kp.refl g⟩
      · rintro i σ1 H1 _ ⟨F1, en1, A1, x1, s1, _⟩
        exact fun a o e => x1.sub a o (s1 a o e)
      · rintro i v σ1 H1 H2 hlt ⟨F1, en1, A1, x1, s1, q2⟩ yv
        obtain ⟨d, F2, e, g2, sb2, dv⟩ := hy i H1 v H2 F1 x1.sub s1 yv
        have hdrop : xs.drop i = d :: xs.drop (i + 1) := by
          rw [List.drop_eq_getElem_cons hlt]
          rw [List.getElem?_eq_getElem hlt] at e
          rw [Option.some.inj e]
        rw [hdrop] at q2
        simp only [loopF] at q2
        have x2 : Sok X.K X.mg F2 H2 σ1 en1 A1 := x1.go g2 sb2 fun _ _ z => nomatch z
        have gA : Go F1 H1 A1 F2 H2 A1 := by
          have := g2.frame (C := A1)
          rwa [List.append_nil] at this
        have e1 : f d en1 = match setD en1 tgs one d with
          | some en => evS Φ G fu pa en
          | none => .stuck := by rw [← hf]
        cases e2 : setD en1 tgs one d with
        | none =>
          rw [e2] at e1
          rw [e1] at q2
          exact q2.elim
        | some en2 =>
          rw [e2] at e1
          have e1 : f d en1 = evS Φ G fu pa en2 := e1
          rw [e1] at q2
          refine tG_ok x2 dv e2 fun σ2 A2 x3 h3 w => ⟨F2, en2, A2, x3, ?_⟩
          have kk := kp_of (w tgs fun _ h => h) hk
          have gB := gA.sub h3
          have sF : Sub F' F2 := fun a o z => g2.f a o (s1 a o z)
          cases hr : evS Φ G fu pa en2 with
          | stuck => rw [hr] at q2; exact q2.elim
          | nx en3 => rw [hr] at q2; exact fun σ' F3 H3 A3 k3 g3 x4 => ⟨F3, en3, A3, x4, fun a o z => g3.f a o (sF a o z), q2.go (kk.trans k3) (gB.trans g3)⟩
          | ct en3 => rw [hr] at q2; exact fun σ' F3 H3 A3 k3 g3 x4 => ⟨F3, en3, A3, x4, fun a o z => g3.f a o (sF a o z), q2.go (kk.trans k3) (gB.trans g3)⟩
          | bk en3 => rw [hr] at q2; exact fun σ' F3 H3 A3 k3 g3 x4 => q2 σ' F3 H3 A3 (kk.trans k3) (gB.trans g3) x4
          | rt t en3 => rw [hr] at q2; exact fun v σ' F3 H3 A3 ps k3 g3 x4 o nd => q2 v σ' F3 H3 A3 ps (kk.trans k3) (gB.trans g3) x4 o nd
          | exc c d en3 => rw [hr] at q2; exact fun cls ad σ' F3 H3 A3 k3 g3 x4 xo => q2 cls ad σ' F3 H3 A3 (kk.trans k3) (gB.trans g3) x4 xo
      · rintro σ1 H1 ⟨F1, en1, A1, x1, s1, q2⟩
        rw [List.drop_length] at q2
        exact q2 σ1 F1 H1 A1 Kp.refl Go.refl x1
    · exact q1.elim
theorem sp_whl (hp : PassesOwn (model X.prog X.w) X.A X.env X.xe) (hc : PT X c (tIT Φ G W X.K X.mg ec)) (hb : PSs X sts (tP Φ G W X.K X.mg fu kp pa)) : PS X (.While c sts [] pos) (tP Φ G W X.K X.mg fu kp (.whl ec pa)) :=
  psI (ps_while hp hc hb) fun D σ H ⟨F, en, A, s, q⟩ => by
    simp only [evS] at q
    refine ⟨fun m σ1 H1 => ∃ F1 en1 A1, Sok X.K X.mg F1 H1 σ1 en1 A1 ∧ RnS X.K X.mg W kp D σ1 F1 H1 A1 (loopW (fun en => evT Φ G ec en) (fun en => evS Φ G fu pa en) m en1), ⟨fu, F, en, A, s, q⟩, ?_⟩
    rintro m σ1 H1 ⟨F1, en1, A1, x1, q1⟩
    cases m with
    | zero => exact q1.elim
    | succ m =>
      simp only [loopW] at q1
      refine ⟨F1, en1, A1, x1, q1.st.mono fun k en2 q2 F2 H2 A2 g2 x2 => ?_⟩
      cases k with
      | false =>
        rw [if_neg (by simp)] at q2
        exact iteF (q2 σ1 F2 H2 A2 Kp.refl g2 x2)
      | true =>
        rw [if_pos rfl] at q2
        refine iteT ⟨fun σ' H' => ∃ F1 en1 A1, Sok X.K X.mg F1 H' σ' en1 A1 ∧ RnS X.K X.mg W kp D σ' F1 H' A1 (loopW (fun en => evT Φ G ec en) (fun en => evS Φ G fu pa en) m en1), fun σ' H' h => ⟨m, Nat.lt_succ_self m, h⟩, F2, en2, A2, x2, ?_⟩
        cases hr : evS Φ G fu pa en2 with
        | stuck => rw [hr] at q2; exact q2.elim
        | nx en3 => rw [hr] at q2; exact fun σ' F3 H3 A3 k3 g3 x4 => ⟨F3, en3, A3, x4, q2.go k3 (g2.trans g3)⟩
        | ct en3 => rw [hr] at q2; exact fun σ' F3 H3 A3 k3 g3 x4 => ⟨F3, en3, A3, x4, q2.go k3 (g2.trans g3)⟩
        | bk en3 => rw [hr] at q2; exact fun σ' F3 H3 A3 k3 g3 x4 => q2 σ' F3 H3 A3 k3 (g2.trans g3) x4
        | rt t en3 => rw [hr] at q2; exact fun v σ' F3 H3 A3 ps k3 g3 x4 o nd => q2 v σ' F3 H3 A3 ps k3 (g2.trans g3) x4 o nd
        | exc c d en3 => rw [hr] at q2; exact fun cls ad σ' F3 H3 A3 k3 g3 x4 xo => q2 cls ad σ' F3 H3 A3 k3 (g2.trans g3) x4 xo
/-- y = [..], y a plain local name -/
theorem sp_lc {i : Nat} {y : Str} {py : Pos} {elt iter : Expr} {ifs : List Expr} {scope : Scope} {own : List (Str × Nat)} {spos : Pos} {eelt src eifs : E} {tgs : List Nat} {one : Bool} {kk : IK} (cok : Cok Φ G fs bs k X W) (hy : X.N[i]? = some y) (hyl : X.env.scope.names.lookup y = some .local)
    (hsw : swapsWith (.ListComp elt [⟨tg, iter, ifs, 0⟩] scope pos) (some (.Name y py)) spos.line X.env = pure true) (hi : PI X tg iter (tIK Φ G W X.K X.mg kk src)) (ok : BlkOk X.N X.env.scope scope own)
    (hg : ∀ (s : Shared) (H : Hp) (C : Addr) (cl : List (Str × Addr)) (fp : List Addr), PG (X.blk s H scope (compEnvC scope cl C X.env) fp) tg (tG X.K one tgs))
    (ht : ∀ (s : Shared) (H : Hp) (C : Addr) (cl : List (Str × Addr)) (fp : List Addr), Cok Φ G fs bs k (X.blk s H scope (compEnvC scope cl C X.env) fp) WF → PTs (X.blk s H scope (compEnvC scope cl C X.env) fp) ifs (tIi Φ G WF X.K X.mg eifs))
    (he : ∀ (s : Shared) (H : Hp) (C : Addr) (cl : List (Str × Addr)) (fp : List Addr), Cok Φ G fs bs k (X.blk s H scope (compEnvC scope cl C X.env) fp) WF → PE (X.blk s H scope (compEnvC scope cl C X.env) fp) elt (tI Φ G WF X.K X.mg eelt))
    (hin : tgs.all (fun i => (own.map (·.2)).contains i) = true := by rfl) (hk : kp.getD i false = false := by rfl) (hs : ∀ x, foldedSetIterable iter X.env x = pure x := by intro _; rfl) :
    PS X (.Assign [.Name y py] (.ListComp elt [⟨tg, iter, ifs, 0⟩] scope pos) spos) (tP Φ G W X.K X.mg fu kp (.asg (.nm i) (.lc eelt tgs one kk src eifs (own.map (·.2))))) :=
  psI (ps_setLc cok.calm cok.nd hy hyl hsw hi ok hg (fun s H C cl fp => ht s H C cl fp (cok.blk ..)) (fun s H C cl fp => he s H C cl fp (cok.blk ..)) hs) fun D σ H q =>
    lc_tr hin (tI_mono (asg_ok q) fun v H1 h => tTg_nm hk h)
end
end Eng

set_option Elab.async false
set_option linter.all false
set_option maxRecDepth 100000
set_option maxHeartbeats 4000000
namespace Eng
open PySem PySem.Spec PyProof.Rows L2 RZ
/-! ### defs -/
theorem finE_ok {K : PySem.W.Frag} {mg : Str → Option Value} {F H : Hp} : ∀ {kp : List Bool} {en : En} {σ us : L2.St} {A : List Addr}, OwE K mg F H en σ A → us.length = kp.length → kp.length ≤ σ.length → (∀ i : Nat, kp[i]? = some true → σ[i]? = us[i]?) →
    ∃ B, B.Sublist A ∧ OwE K mg F H (finE kp en) us B
  | [], en, σ, us, A, o, hu, _, _ => by
    obtain rfl : us = [] := List.length_eq_zero_iff.mp hu
    exact ⟨[], List.nil_sublist _, by cases en <;> simp [finE, OwE]⟩
  | k :: kp, [], σ, us, A, o, hu, hl, _ => by
    have := o.len
    simp at this
    subst this
    simp at hl
  | k :: kp, none :: en, σ, us, A, o, hu, hl, h => by
    simp only [OwE] at o
    obtain ⟨v, r, rfl, o⟩ := o
    cases us with
    | nil => simp at hu
    | cons u us =>
      obtain ⟨B, h1, h2⟩ := finE_ok (kp := kp) o (by simpa using hu) (by simpa using hl) fun i hi => by simpa using h (i + 1) (by simpa using hi)
      refine ⟨B, h1, ?_⟩
      have : finE (k :: kp) (none :: en) = none :: finE kp en := by cases k <;> simp [finE]
      rw [this]
      simp only [OwE]
      exact ⟨u, us, rfl, h2⟩
  | k :: kp, some s :: en, σ, us, A, o, hu, hl, h => by
    simp only [OwE] at o
    obtain ⟨v, r, ps, C, rfl, rfl, o1, o⟩ := o
    cases us with
    | nil => simp at hu
    | cons u us =>
      obtain ⟨B, h1, h2⟩ := finE_ok (kp := kp) o (by simpa using hu) (by simpa using hl) fun i hi => by simpa using h (i + 1) (by simpa using hi)
      cases k with
      | false =>
        refine ⟨B, h1.trans (List.sublist_append_right _ _), ?_⟩
        simp only [finE, OwE]
        exact ⟨u, us, rfl, h2⟩
      | true =>
        have := h 0 rfl
        simp at this
        subst this
        refine ⟨ps ++ B, List.Sublist.append (.refl _) h1, ?_⟩
        simp only [finE, OwE]
        exact ⟨v, us, ps, B, rfl, rfl, o1, h2⟩
section
variable {P : Program} {w : World} {K : PySem.W.Frag} {mg : Str → Option Value} {base : Heap} {G : Str → Option D} {fs : Fs} {bs : List Str}
theorem fin_ok {F H : Hp} {kp : List Bool} {en : En} {σ : L2.St} {A : List Addr} {vs : List V} {N : List Str} (x : Sok K mg F H σ en A) (hv : vs.length = kp.length) (hN : kp.length ≤ N.length) (h : Kp kp (start N vs) σ) :
    ∃ B, (∀ a, a ∈ B → a ∈ A) ∧ B.Nodup ∧ OwE K mg F H (finE kp en) (vs.map some) B := by
  obtain ⟨A0, p, o⟩ := x.ow
  have hl : kp.length ≤ σ.length := by
    rw [h.1]
    unfold L2.start
    simp
    omega
  obtain ⟨B, h1, h2⟩ := finE_ok (us := vs.map some) o (by simpa using hv) hl fun i hi => by
    rw [h.2 i hi]
    unfold L2.start
    rw [List.getElem?_append_left]
    have := (List.getElem?_eq_some_iff.mp hi).1
    simpa using by omega
  exact ⟨B, fun a ha => p.mem_iff.mp (h1.subset ha), h1.nodup (p.nodup_iff.mpr x.nd), h2⟩
/-- THE RULE for a def -/
theorem fn_ok {d : Fn} {Φ : Str → List S → FR} {fu : Nat} {x qual : Str} {st : Stmt} {f : Addr} {fd : FuncData} {N ps : List Str} {k : Nat} (F : Fun K x qual st f fd) (S0 : FnScope N ps (defScope st)) (hp : ps.length = d.np) (hN : N.length = d.n) (hk : d.kp.length = d.np) (hnp : d.np ≤ d.n) (wd : Wd Φ G fs bs k P w K mg base)
    (hb : ∀ (cdv : Value) (A : Around) (outer : List Env) (s : Shared) (H : Hp) (E : XK), Cok Φ G fs bs k (cxOf (L2.CX P w) P w K mg base N qual (defScope st) f cdv A outer s H E) (fun cls d _ H => E cls d H) →
      PassesOwn (model P w) (cxOf (L2.CX P w) P w K mg base N qual (defScope st) f cdv A outer s H E).A (cxOf (L2.CX P w) P w K mg base N qual (defScope st) f cdv A outer s H E).env (cxOf (L2.CX P w) P w K mg base N qual (defScope st) f cdv A outer s H E).xe →
      PSs (cxOf (L2.CX P w) P w K mg base N qual (defScope st) f cdv A outer s H E) (defBody st) (tP Φ G (fun cls d _ H => E cls d H) K mg fu d.kp d.b)) :
    FnOk P w K mg base (L2.CX P w) (k + 1) f fd ps (spF K mg (runFn Φ G fu d) d.np) := by
  refine F.okX S0 (fun vs H Q E h => ?_) (fun cdv A outer s H vs Q E hr h => ⟨_, hb cdv A outer s H E ⟨S0.nd, rfl, hr, takes_of rfl rfl rfl rfl, wd⟩ (passes_of rfl), ?_⟩)
  · obtain ⟨_, _, _, hl, _⟩ := h
    rw [hl, hp]
  · obtain ⟨F0, ss, A0, hl, sb, o, nd, m⟩ := h
    have hs : ss.length = d.np := by
      have := o.len
      simp only [List.length_map] at this
      omega
    unfold runFn at m
    rw [if_pos hs] at m
    have st : start N vs = vs.map some ++ List.replicate (d.n - d.np) none := by unfold L2.start; rw [hN, hl]
    refine ⟨F0, ss.map some ++ List.replicate (d.n - d.np) none, A0, ⟨sb, ⟨A0, .refl _, ?_⟩, nd⟩, ?_⟩
    · rw [st]
      have := o.append (OwE.nones (K := K) (mg := mg) (F := F0) (H := H) (d.n - d.np))
      rwa [List.append_nil] at this
    · have ln : ∀ {σ' : L2.St} {F' H' : Hp} {en : En} {A' : List Addr}, Sok K mg F' H' σ' en A' → Kp d.kp (start N vs) σ' → ∃ B, (∀ a, a ∈ B → a ∈ A') ∧ B.Nodup ∧ OwE K mg F' H' (finE d.kp en) (vs.map some) B := by
        intro σ' F' H' en A' x k
        exact fin_ok x (by rw [hl, hk]) (by rw [hk, hN]; exact hnp) k
      cases hr : evS Φ G fu d.b (ss.map some ++ List.replicate (d.n - d.np) none) with
      | stuck => rw [hr] at m; exact m.elim
      | bk en => rw [hr] at m; exact m.elim
      | ct en => rw [hr] at m; exact m.elim
      | exc c x en =>
        rw [hr] at m
        exact fun cls ad σ' F' H' A' k g s xo => m cls ad F' H' A' g s.sub xo
      | nx en =>
        rw [hr] at m
        intro σ' F' H' A' k g s
        obtain ⟨B, h1, h2, h3⟩ := ln s k
        exact m .non F' H' [] B (g.sub fun a ha => h1 a (by simpa using ha)) s.sub ⟨rfl, denN⟩ h3 (by simpa using h2)
      | rt t en =>
        rw [hr] at m
        intro v σ' F' H' A' qs k g s ow nd2
        obtain ⟨B, h1, h2, h3⟩ := ln s k
        refine m v F' H' qs B (g.sub fun a ha => ?_) s.sub ow h3 ?_
        · rcases List.mem_append.mp ha with z | z
          · exact List.mem_append_left _ z
          · exact List.mem_append_right _ (h1 a z)
        · exact nodup_mk (List.nodup_append.mp nd2).1 h2 fun a ha hb => nodup_dis nd2 a ha (h1 a hb)
/-- one def of the text, what its body gives known -/
def DefOk (P : Program) (w : World) (K : PySem.W.Frag) (mg : Str → Option Value) (base : Heap) (G : Str → Option D) (fu : Nat) (fs : Fs) (bs : List Str) (f : Str) (d : Fn) : Prop :=
  ∃ fa fd ps, mg f = some (.ref fa) ∧ PySem.W.keepIn K (.ref fa) = true ∧ Binds K fd ps [] ∧ ps.length = d.np ∧ (∀ q, q ∈ fs.kw → q.f = f → KBinds K fd ps q.ks (pmF q) (pmF q)) ∧ ∀ Φ k, Wd Φ G fs bs k P w K mg base → FnOk P w K mg base (L2.CX P w) (k + 1) fa fd ps (spF K mg (runFn Φ G fu d) d.np)
theorem lookup_nd {T : List (Str × Fn)} (h : (T.map (·.1)).Nodup) : ∀ p, p ∈ T → T.lookup p.1 = some p.2 := by
  induction T with
  | nil => intro p hp; cases hp
  | cons q T ih =>
    intro p hp
    simp only [List.map_cons, List.nodup_cons] at h
    rcases List.mem_cons.mp hp with e | e
    · subst e; simp [List.lookup]
    · have hne : p.1 ≠ q.1 := fun z => h.1 (by rw [← z]; exact List.mem_map_of_mem e)
      rw [List.lookup_cons]
      have : (p.1 == q.1) = false := by simpa using hne
      rw [this]
      exact ih h.2 p e
theorem lookup_mem {α : Type} {T : List (Str × α)} {f : Str} {d : α} (e : T.lookup f = some d) : (f, d) ∈ T := by
  induction T with
  | nil => cases e
  | cons q T ih =>
    rw [List.lookup_cons] at e
    by_cases hx : (f == q.1) = true
    · rw [hx] at e
      cases e
      have : f = q.1 := by simpa using hx
      rw [this]; exact List.mem_cons_self
    · rw [Bool.eq_false_iff.mpr hx] at e
      exact List.mem_cons_of_mem _ (ih e)
theorem all_ok {T : List (Str × Fn)} {kw : List KwP} {fu : Nat} (hT : (T.map (·.1)).Nodup) (ok : ∀ p, p ∈ T → DefOk P w K mg base G fu ⟨T.map fun p => (p.1, p.2.np), kw⟩ bs p.1 p.2)
    (gl : ∀ x d, G x = some d → ∃ v u, mg x = some u ∧ RelV v u ∧ ∀ F, Den K mg F d v) (bl : ∀ x, x ∈ bs → mg x = none) (hg : ("gcd" : Str) ∈ bs ∨ mg "gcd" = some (.builtin "math.gcd")) :
    ∀ k, Wd (callN T G fu k) G ⟨T.map fun p => (p.1, p.2.np), kw⟩ bs k P w K mg base := by
  intro k
  induction k with
  | zero =>
    refine ⟨fun f n hf => ⟨fun ss h => absurd rfl h, ?_⟩, gl, bl, fun f ss h => absurd rfl h, hg⟩
    obtain ⟨p, hp, e⟩ := List.mem_map.mp hf
    cases e
    obtain ⟨fa, fd, ps, h1, h2, h3, h4, h6, _⟩ := ok p hp
    refine ⟨fa, fd, ps, ⟨fun vs H Q E h => ?_, fun A outer s H args us vs Q E hr e0 hb r h => ?_⟩, h1, h2, h3, h6⟩
    · obtain ⟨_, _, _, hl, _⟩ := h
      rw [hl, h4]
    · obtain ⟨_, _, _, _, _, _, _, m⟩ := h
      exact m.elim
  | succ k ih =>
    refine ⟨fun f n hf => ?_, gl, bl, fun f ss h => ?_, hg⟩
    case succ.refine_2 =>
      simp only [callN] at h
      cases e : T.lookup f with
      | none => rw [e] at h; exact absurd rfl h
      | some d => exact ⟨d.np, List.mem_map.mpr ⟨(f, d), lookup_mem e, rfl⟩⟩
    obtain ⟨p, hp, e⟩ := List.mem_map.mp hf
    cases e
    obtain ⟨fa, fd, ps, h1, h2, h3, h4, h6, h5⟩ := ok p hp
    have e : callN T G fu (k + 1) p.1 = runFn (callN T G fu k) G fu p.2 := by
      funext ss
      simp only [callN, lookup_nd hT p hp]
    refine ⟨fun ss h => ?_, fa, fd, ps, ?_, h1, h2, h3, h6⟩
    · rw [e] at h
      unfold runFn at h
      by_cases hs : ss.length = p.2.np
      · exact hs
      · rw [if_neg hs] at h; exact absurd rfl h
    · rw [e]
      exact h5 _ k ih
/-- the law answers True -/
theorem law_ok {Φ : Str → List S → FR} {x : Str} {H : Hp} {a : Addr} {ns : List Int} (hs : SqL K H a (ns.map V.int)) (h : ∃ fin, Φ x [.dat (.scr ns)] = .ret (.dat (.bl true)) fin) : spF K mg (Φ x) 1 [.ref a] H (fun v _ => v = .bl true) (fun _ _ _ => False) := by
  obtain ⟨fin, h⟩ := h
  refine ⟨H, [.dat (.scr ns)], [], rfl, fun _ _ h => h, ?_, List.nodup_nil, ?_⟩
  · simp only [List.map_cons, List.map_nil, OwE]
    refine ⟨.ref a, [], [], [], rfl, rfl, ⟨rfl, ?_⟩, rfl, rfl⟩
    simp only [Den]
    exact ⟨a, rfl, hs⟩
  · rw [h]
    exact fun v F' H' ps B _ _ o _ _ => o.bl
theorem CX_none {H : Hp} {s : Shared} {e : Value} {s' : Shared} : L2.CX P w [] H s (fun _ _ _ => False) e s' → False := fun h => by
  obtain ⟨_, _, _, _, _, _, _, _, _, _, _, _, z⟩ := h
  exact z.elim
end
end Eng

set_option Elab.async false
set_option linter.all false
set_option maxRecDepth 100000
set_option maxHeartbeats 4000000
namespace Eng
open PySem PySem.Spec PyProof.Rows L2 RZ
section
variable {Φ : Str → List S → FR} {G : Str → Option D} {fs : Fs} {bs : List Str} {k : Nat} {X : Cx} {W : WX} {fu : Nat} {kp : List Bool}
variable {a b c e : Expr} {es : List Expr} {ea eb ec ees : E} {pos p : Pos} {x : Str}
/-! ### what is never reached -/
theorem so_bad : PE X e (tI Φ G W X.K X.mg .bad) := ⟨fun pins s σ H Q I ⟨F, en, A, _, q⟩ => by simp only [ev] at q; exact q.elim⟩
theorem so_badT : PT X e (tIT Φ G W X.K X.mg .bad) := ⟨fun pins s σ H Q I ⟨F, en, A, _, q⟩ => by simp only [evT, opn, ev] at q; exact q.elim⟩
theorem so_badI {tg : Expr} {k : IK} : PI X tg e (tIK Φ G W X.K X.mg k .bad) := ⟨fun pins s σ H Q I ⟨F, en, A, _, q⟩ => by simp only [evs] at q; exact q.elim⟩
theorem so_bads : PA X es (tIs Φ G W X.K X.mg .bad) := ⟨fun pos pins s σ H Q I ⟨F, en, A, _, q⟩ => by simp only [evs] at q; exact q.elim⟩
theorem so_bada : PA X es (tIa Φ G W X.K X.mg .bad) := ⟨fun pos pins s σ H Q I ⟨F, en, A, _, q⟩ => by simp only [eva, evq, R.bind] at q; exact q.elim⟩
theorem sp_bad {st : Stmt} : PS X st (tP Φ G W X.K X.mg fu kp .bad) := ⟨fun pins s σ H D I ⟨F, en, A, _, q⟩ => by simp only [evS] at q; exact q.elim⟩
theorem sp_bads {st : List Stmt} : PSs X st (tP Φ G W X.K X.mg fu kp .bad) := ⟨fun pins s σ H D I ⟨F, en, A, _, q⟩ => by simp only [evS] at q; exact q.elim⟩
theorem so_gl {d : D} (cok : Cok Φ G fs bs k X W) (hG : G x = some d) (hg : Gl X x) (hd : (x == ("__debug__" : Str)) = false := by decide) : PE X (.Name x pos) (tI Φ G W X.K X.mg (.gl x)) := by
  obtain ⟨v, u, hm, r, dn⟩ := cok.wd.gl x d hG
  have h : PE X (.Name x pos) (tC v) := ⟨fun _ _ _ H _ I h => ld_glob I hg hm ⟨v, H, I, r, h⟩ hd⟩
  refine so_const h (fun en => ?_) dn
  simp only [ev, hG, Option.map, R.of]
/-! ### keywords -/
theorem pkI {kws : List Keyword} {t t' : TA} (h : PK X kws t') (m : ∀ σ H Q, t σ H Q → t' σ H Q) : PK X kws t := ⟨fun pos pins s σ H Q I q => h.run pos pins s σ H Q I (m σ H Q q)⟩
theorem tIs_nil {K : PySem.W.Frag} {mg : Str → Option Value} {σ : L2.St} {H : Hp} {Q : List V → Hp → Prop} (h : tIs Φ G W K mg .nil σ H Q) : Q [] H := by
  obtain ⟨F, en, A, s, q⟩ := h
  simp only [evs] at q
  exact q [] F H A [] Go.refl s (by simp [OwE]) (by simpa using s.nd)
theorem tIs_cons {K : PySem.W.Frag} {mg : Str → Option Value} {σ : L2.St} {H : Hp} {Q : List V → Hp → Prop} (h : tIs Φ G W K mg (.cons ea ees) σ H Q) : tI Φ G W K mg ea σ H fun v H1 => tIs Φ G W K mg ees σ H1 fun vs H2 => Q (v :: vs) H2 := by
  obtain ⟨F, en, A, s, q⟩ := h
  simp only [evs] at q
  refine ⟨F, en, A, s, q.next.mono fun s1 en1 q1 v F1 H1 A1 ps1 g1 x1 h1 nd1 => ?_⟩
  refine ⟨F1, en1, A1, x1, (q1.next.go (go_tail g1)).mono fun ss en2 q2 vs F2 H2 A2 ps2 g2 x2 h2 nd2 => ?_⟩
  obtain ⟨g, o, nd⟩ := cons_own g1 h1 nd1 g2 x2 h2 nd2
  exact q2 (v :: vs) F2 H2 A2 (ps1 ++ ps2) g x2 o nd
theorem sk_nil : PK X [] (tIs Φ G W X.K X.mg .nil) := pkI pk_nil fun σ H Q h => tIs_nil h
theorem sk_cons {nm : Option Str} {kpos : Pos} {kws : List Keyword} (ha : PE X a (tI Φ G W X.K X.mg ea)) (hr : PK X kws (tIs Φ G W X.K X.mg ees)) : PK X (⟨nm, a, kpos⟩ :: kws) (tIs Φ G W X.K X.mg (.cons ea ees)) := pkI (pk_cons ha hr) fun σ H Q h => tIs_cons h
theorem Dens.get_none {K : PySem.W.Frag} {mg : Str → Option Value} {F : Hp} {ds : List D} {vs : List V} {i : Nat} (h : Dens K mg F ds vs) (e : ds[i]? = none) : vs[i]? = none := by
  rw [List.getElem?_eq_none_iff] at e ⊢
  rw [h.len]; exact e
theorem Dens.pm {K : PySem.W.Frag} {mg : Str → Option Value} {F : Hp} {ds : List D} {vs : List V} (h : Dens K mg F ds vs) : ∀ perm : List Nat, Dens K mg F (pmL perm ds) (pmL perm vs)
  | [] => Dens.nil
  | i :: perm => by
    have ih := Dens.pm h perm
    unfold pmL at ih ⊢
    cases e : ds[i]? with
    | none => rw [List.filterMap_cons_none e, List.filterMap_cons_none (h.get_none e)]; exact ih
    | some d =>
      obtain ⟨v, e1, e2⟩ := h.get e
      rw [List.filterMap_cons_some e, List.filterMap_cons_some e1]
      exact Dens.cons e2 ih
theorem pmL_map {α β : Type} (f : α → β) (l : List α) : ∀ perm : List Nat, pmL perm (l.map f) = (pmL perm l).map f
  | [] => rfl
  | i :: perm => by
    have ih := pmL_map f l perm
    unfold pmL at ih ⊢
    cases e : l[i]? with
    | none => rw [List.filterMap_cons_none (by simp [e]), List.filterMap_cons_none e]; exact ih
    | some d => rw [List.filterMap_cons_some (b := f d) (by simp [e]), List.filterMap_cons_some e, List.map_cons, ih]
theorem run_fnkS {CX : CXT} {k : Nat} {f : Addr} {fd : FuncData} {ps ks : List Str} {sp : Sp} {E : L2.St → XK} {g : List Value → List Value → List Value} {gV : List V → List V → List V} {pins : List (Addr × Obj)} {σ : L2.St} {H : Hp} {s : Shared} {Q : VK} {us ws : List Value} {vs zs : List V} (F : FnOk X.prog X.w X.K X.mg X.base CX k f fd ps sp) (hr : Room k X.A) (hb : KBinds X.K fd ps ks g gV) (hx : PassesAt CX X σ (E σ))
    (I : Inv X pins σ H s) (r : Vals vs us) (rz : Vals zs ws) (h : sp (gV vs zs) H Q (E σ)) : wpAny (model X.prog X.w) X.A (PySem.call (.ref f) us (ks.zip ws)) (EP X pins σ Q) X.xe s := by
  have r2 := hb.rel r rz
  have hl : (g us ws).length = ps.length := by rw [← r2.length]; exact F.len _ _ _ _ h
  refine wpAny_call (codeAny_mono (F.run X.A X.stack s H ⟨us, ks.zip ws⟩ (g us ws) (gV vs zs) Q (E σ) hr I.env0 (hb.to s us ws I.kIn hl) r2 h) fun r s' hq => ?_)
  cases r with
  | error e => exact hx pins H s e s' I hq
  | ok fl =>
    cases fl with
    | ret u => exact I.after hq
    | next => exact False.elim hq
    | brk => exact False.elim hq
    | cont => exact False.elim hq
def E.chain : E → Bool
  | .nil => true | .cons _ es => es.chain | _ => false
def E.clen : E → Nat
  | .cons _ es => es.clen + 1
  | _ => 0
theorem evs_len : ∀ {e : E} {en en' : En} {ss : List S}, evs Φ G e en = .ok ss en' → ss.length = e.clen := by
  intro e
  induction e with
  | nil => intro en en' ss h; simp only [evs] at h; cases h; rfl
  | cons a b _ ih =>
    intro en en' ss h
    simp only [evs] at h
    cases h1 : ev Φ G a en with
    | ok s en1 =>
      rw [h1] at h
      simp only [R.bind] at h
      cases h2 : evs Φ G b en1 with
      | ok ss2 en2 =>
        rw [h2] at h
        cases h
        rw [List.length_cons, ih h2]; rfl
      | exc c d en2 => rw [h2] at h; cases h
      | stuck => rw [h2] at h; cases h
    | exc c d en2 => rw [h1] at h; cases h
    | stuck => rw [h1] at h; cases h
  | _ => intro en en' ss h; simp [evs] at h
theorem Rn.len {K : PySem.W.Frag} {mg : Str → Option Value} {σ : L2.St} {F H : Hp} {A : List Addr} {en : En} {Q : List S → En → Prop} (h : Rn K mg W σ F H A (evs Φ G ees en) Q) : Rn K mg W σ F H A (evs Φ G ees en) fun ss en' => ss.length = ees.clen ∧ Q ss en' := by
  cases e : evs Φ G ees en with
  | ok ss en' => rw [e] at h; exact ⟨evs_len e, h⟩
  | exc c d en' => rw [e] at h; exact h
  | stuck => rw [e] at h; exact h
theorem callk_ok {f : Str} {n : Nat} {q0 : KwP} (hf : (f, n) ∈ fs) (cok : Cok Φ G fs bs k X W) {ek : E} (hn1 : ees.clen = q0.np) (hn2 : ek.clen = q0.ks.length) {σ : L2.St} {H : Hp} {Q : VK} (h : tI Φ G W X.K X.mg (.callk f ees ek q0.perm) σ H Q) :
    tIs Φ G W X.K X.mg ees σ H fun vs H1 => tIs Φ G W X.K X.mg ek σ H1 fun zs H2 => spF X.K X.mg (Φ f) n (pmF q0 vs zs) H2 Q (WE W σ) := by
  obtain ⟨F, en, A, s, q⟩ := h
  simp only [ev] at q
  refine ⟨F, en, A, s, q.next.len.mono fun ss1 en1 q1 vs F1 H1 A1 ps1 g1 x1 h1 nd1 => ?_⟩
  obtain ⟨l1, q1⟩ := q1
  refine ⟨F1, en1, A1, x1, (q1.next.go (go_tail g1)).len.mono fun ss2 en2 q2 zs F2 H2 A2 ps2 g2 x2 h2 nd2 => ?_⟩
  obtain ⟨l2, q2⟩ := q2
  have hl : vs.length = q0.np ∧ zs.length = q0.ks.length := by
    have e1 := h1.len
    have e2 := h2.len
    simp only [List.length_map] at e1 e2
    omega
  have dis := nodup_dis nd1
  have o1 := h1.go g2 dis
  have o : OwE X.K X.mg F2 H2 ((ss1 ++ ss2).map some) ((vs ++ zs).map some) (ps1 ++ ps2) := by
    rw [List.map_append, List.map_append]; exact o1.append h2
  have nd : ((ps1 ++ ps2) ++ A2).Nodup := by
    rw [List.append_assoc]
    exact nodup_mk (List.nodup_append.mp nd1).1 nd2 (dis_go g2 dis fun a ha => (h1.here a ha).2)
  have g : Go F H A F2 H2 ((ps1 ++ ps2) ++ A2) := by
    have := g1.trans (g2.frame (C := ps1))
    rw [← List.append_assoc] at this
    exact this
  obtain ⟨x3, g3, d⟩ := frz_all x2 o nd
  have dp := d.pm q0.perm
  rw [pmL_map] at dp
  have e : pmF q0 vs zs = pmL q0.perm (vs ++ zs) := by unfold pmF; rw [if_pos hl]
  rw [e]
  have ow : OwE X.K X.mg (frz F2 H2 (ps1 ++ ps2)) H2 (((pmL q0.perm (ss1 ++ ss2)).map fun s => S.dat (fz s)).map some) ((pmL q0.perm (vs ++ zs)).map some) [] := by
    have e3 : (pmL q0.perm (ss1 ++ ss2)).map (fun s => S.dat (fz s)) = ((pmL q0.perm (ss1 ++ ss2)).map fz).map S.dat := by rw [List.map_map]; rfl
    rw [e3]
    exact owe_dats dp
  have av : ArgV .nil σ (pmL q0.perm (vs ++ zs)) := by simp [ArgV]
  refine call_run (ees := .nil) (en1 := en2) (ps := []) (A1 := A2) hf cok (by simpa using g.trans g3) x3 ow (by simpa using x3.nd) av ?_ fun s en' h => h
  cases hΦ : Φ f ((pmL q0.perm (ss1 ++ ss2)).map fun s => S.dat (fz s)) with
  | ret s fin => rw [hΦ] at q2; simpa [back] using q2
  | exc c d => rw [hΦ] at q2; exact q2
  | stuck => rw [hΦ] at q2; exact q2
theorem so_callk {n : Nat} {q0 : KwP} {ek : E} {kws : List Keyword} (cok : Cok Φ G fs bs k X W) (hf : (x, n) ∈ fs) (hq : q0 ∈ fs.kw) (hqf : q0.f = x) (hg : Gl X x) (ha : PA X (e :: es) (tIs Φ G W X.K X.mg ees)) (hkw : PK X kws (tIs Φ G W X.K X.mg ek))
    (hnp : ees.clen = q0.np := by rfl) (hnk : ek.clen = q0.ks.length := by rfl)
    (hall : (backToKw pos (keywordEach kws X.env)).all (·.1.isSome) = true := by rfl) (hks : (backToKw pos (keywordEach kws X.env)).filterMap (·.1) = q0.ks := by rfl)
    (hdb : (x == ("__debug__" : Str)) = false := by decide) (he : starEach (e :: es) X.env = (false, eval e X.env) :: starEach es X.env := by rfl)
    (hpl : ((backTo pos (starEach (e :: es) X.env)).any (·.1) || (backToKw pos (keywordEach kws X.env)).any (·.1.isNone)) = false := by rfl) :
    PE X (.Call (.Name x p) (e :: es) kws pos) (tI Φ G W X.K X.mg (.callk x ees ek q0.perm)) := by
  obtain ⟨_, fa, fd, ps, FO, hm, hk, _, hb⟩ := cok.wd.fn x n hf
  refine ⟨fun pins s σ H Q I h => ?_⟩
  have h := callk_ok (q0 := q0) hf cok hnp hnk h
  refine wpAny_Call_Name_kw (ld_glob I hg hm ?_ hdb)
  refine PySem.W.callWith_KW (h₀ := X.base) I.ok.mod.kin hk hall (thn (ha.run pos pins s σ H _ I h) fun us s1 ⟨vs, H1, I1, r, q⟩ => ?_) hpl he
  refine thn (hkw.run pos pins s1 σ H1 _ I1 q) fun ws s2 ⟨zs, H2, I2, rz, q2⟩ => ⟨I2.kIn, ?_⟩
  rw [hks]
  exact run_fnkS (E := WE W) FO cok.room (hb q0 hq hqf) (passAt cok.tk σ) I2 r rz q2
theorem so_callk0 {n : Nat} {q0 : KwP} {ek : E} {kws : List Keyword} (cok : Cok Φ G fs bs k X W) (hf : (x, n) ∈ fs) (hq : q0 ∈ fs.kw) (hqf : q0.f = x) (hg : Gl X x) (hkw : PK X kws (tIs Φ G W X.K X.mg ek))
    (hnp : 0 = q0.np := by rfl) (hnk : ek.clen = q0.ks.length := by rfl)
    (hall : (backToKw pos (keywordEach kws X.env)).all (·.1.isSome) = true := by rfl) (hks : (backToKw pos (keywordEach kws X.env)).filterMap (·.1) = q0.ks := by rfl)
    (hdb : (x == ("__debug__" : Str)) = false := by decide)
    (hpl : ((backTo pos (starEach [] X.env)).any (·.1) || (backToKw pos (keywordEach kws X.env)).any (·.1.isNone)) = false := by rfl) :
    PE X (.Call (.Name x p) [] kws pos) (tI Φ G W X.K X.mg (.callk x .nil ek q0.perm)) := by
  obtain ⟨_, fa, fd, ps, FO, hm, hk, _, hb⟩ := cok.wd.fn x n hf
  refine ⟨fun pins s σ H Q I h => ?_⟩
  have h := tIs_nil (callk_ok (q0 := q0) (ees := .nil) hf cok hnp hnk h)
  refine wpAny_Call_Name_kw (ld_glob I hg hm ?_ hdb)
  refine PySem.W.callWith_KW0 (h₀ := X.base) I.ok.mod.kin hk hall ?_ hpl
  refine thn (hkw.run pos pins s σ H _ I h) fun ws s2 ⟨zs, H2, I2, rz, q2⟩ => ⟨I2.kIn, ?_⟩
  rw [hks]
  exact run_fnkS (us := []) (vs := []) (E := WE W) FO cok.room (hb q0 hq hqf) (passAt cok.tk σ) I2 .nil rz q2
/-- how a def takes keywords -/
theorem kb_ok {K : PySem.W.Frag} {qual : Str} {st : Stmt} {f : Addr} {fd : FuncData} {ps : List Str} {q : KwP} (F : Fun K x qual st f fd) (h0 : ps ≠ [])
    (h : ∀ (kV doc pm : Value) (an : Option Addr) (cdv ct : Value) (us ws : List Value), us.length = q.np → ws.length = q.ks.length → bindArgs (PySem.W.fnOf x qual (defArgs st) (defBody st) (defScope st) .none kV doc pm an cdv ct) ⟨us, q.ks.zip ws⟩ = pure (ps.zip (pmL q.perm (us ++ ws)))) : KBinds K fd ps q.ks (pmF q) (pmF q) := by
  obtain ⟨oc, od, kV, doc, pm, an, cdv, ct, osl, rfl, lk, hcd⟩ := F.ex
  refine ⟨fun s us ws _ hl => ?_, fun {vs us zs ws} r1 r2 => ?_⟩
  · unfold pmF at hl ⊢
    by_cases e : us.length = q.np ∧ ws.length = q.ks.length
    · rw [if_pos e]
      exact .of_eq (h kV doc pm an cdv ct us ws e.1 e.2)
    · rw [if_neg e] at hl
      exact absurd (List.length_eq_zero_iff.mp hl.symm) h0
  · unfold pmF
    rw [r1.length, r2.length]
    split
    · have r := r1.append r2
      generalize vs ++ zs = a at r
      generalize us ++ ws = b at r
      induction q.perm with
      | nil => exact .nil
      | cons i perm ih =>
        unfold pmL at ih ⊢
        cases e : a[i]? with
        | none =>
          have e2 : b[i]? = none := by
            rw [List.getElem?_eq_none_iff] at e ⊢
            rw [← r.length]; exact e
          rw [List.filterMap_cons_none e, List.filterMap_cons_none e2]; exact ih
        | some d =>
          obtain ⟨u, e1, e2⟩ := r.get e
          rw [List.filterMap_cons_some e, List.filterMap_cons_some e1]
          exact .cons e2 ih
    · exact .nil
/-! ### dicts -/
theorem so_dnew (ks0 : ea = .dic .nil .nil) : PE X (.Dict [] [] pos) (tI Φ G W X.K X.mg ea) := by
  subst ks0
  refine peI pe_dnewK fun σ H Q ⟨F, en, A, s, q⟩ p hp => ?_
  simp only [ev, keyE] at q
  rw [if_pos (by simp)] at q
  simp only [evs, R.bind, List.length_nil, if_true] at q
  obtain ⟨g3, x3, n3⟩ := out_done Go.refl s (go_own hp (.dK [])) (sub_own hp s.sub _) (by simp)
  exact q _ _ _ A [p] g3 x3 ⟨p, rfl, rfl, sub_none hp s.sub, .inl ⟨[], upd_same, rfl, Dens.nil⟩⟩ n3
theorem so_dnt : PE X (.Dict [] [] pos) (tI Φ G W X.K X.mg .dnt) :=
  peI pe_dnewT fun σ H Q ⟨F, en, A, s, q⟩ p hp => by
    simp only [ev] at q
    obtain ⟨g3, x3, n3⟩ := out_done Go.refl s (go_own hp (.dT [])) (sub_own hp s.sub _) (by simp)
    exact q _ _ _ A [p] g3 x3 ⟨p, rfl, rfl, sub_none hp s.sub, .inr ⟨[], upd_same, rfl, Dens.nil⟩⟩ n3
def dicT (Φ : Str → List S → FR) (G : Str → Option D) (W : WX) (K : PySem.W.Frag) (mg : Str → Option Value) : List Key → E → List (TE × TE)
  | k :: ks, .cons e es => (tC (kV k), tI Φ G W K mg e) :: dicT Φ G W K mg ks es
  | _, _ => []
theorem sd_nil : PPs X pos [] [] (dicT Φ G W X.K X.mg [] .nil) := pps_nil
theorem sd_str {kk : List Key} {s : Str} {j : Nat} {p2 : Pos} {ks : List (Option Expr)} {vs : List Expr} (hv : PE X a (tI Φ G W X.K X.mg ea)) (hr : PPs X pos ks vs (dicT Φ G W X.K X.mg kk ees)) : PPs X pos (some (.Constant (.str s) j p2) :: ks) (a :: vs) (dicT Φ G W X.K X.mg (.inr s :: kk) (.cons ea ees)) :=
  pps_cons pe_str hv hr
theorem sd_int {kk : List Key} {s : Int} {j : Nat} {p2 : Pos} {ks : List (Option Expr)} {vs : List Expr} (hv : PE X a (tI Φ G W X.K X.mg ea)) (hr : PPs X pos ks vs (dicT Φ G W X.K X.mg kk ees)) : PPs X pos (some (.Constant (.int s) j p2) :: ks) (a :: vs) (dicT Φ G W X.K X.mg (.inl s :: kk) (.cons ea ees)) :=
  pps_cons pe_int hv hr
theorem putK_new {kvs : List (Key × V)} {k : Key} {v : V} (h : k ∉ kvs.map (·.1)) : putK kvs k v = kvs ++ [(k, v)] := by
  unfold putK
  rw [if_neg]
  intro z
  obtain ⟨p, hp, e⟩ := List.any_eq_true.mp z
  exact h (by rw [← of_decide_eq_true e]; exact List.mem_map_of_mem hp)
theorem mergeK_new : ∀ {more acc : List (Key × V)}, ((acc ++ more).map (·.1)).Nodup → mergeK acc more = acc ++ more
  | [], acc, _ => by simp [mergeK]
  | p :: more, acc, h => by
    have e : putK acc p.1 p.2 = acc ++ [p] := putK_new fun z => by
      rw [List.map_append, List.map_cons] at h
      exact (List.nodup_append.mp h).2.2 _ z _ List.mem_cons_self rfl
    have := mergeK_new (more := more) (acc := acc ++ [p]) (by rwa [List.append_assoc])
    unfold mergeK at this ⊢
    rw [List.foldl_cons, e, this, List.append_assoc]; rfl
theorem tPairs_ok {K : PySem.W.Frag} {mg : Str → Option Value} {σ : L2.St} {ees : E} : ∀ {kk : List Key} {H : Hp} {Q : List (V × V) → Hp → Prop}, kk.length = ees.clen → ees.chain = true → tIs Φ G W K mg ees σ H (fun vs H2 => Q ((kk.map kV).zip vs) H2) → tPairs (dicT Φ G W K mg kk ees) σ H Q := by
  induction ees with
  | nil =>
    intro kk H Q hl _ h
    cases kk with
    | nil => exact tIs_nil h
    | cons k kk => simp [E.clen] at hl
  | cons e es _ ih =>
    intro kk H Q hl hc h
    cases kk with
    | nil => simp [E.clen] at hl
    | cons k kk =>
      show tI Φ G W K mg e σ H fun y H2 => tPairs (dicT Φ G W K mg kk es) σ H2 fun ps H3 => Q ((kV k, y) :: ps) H3
      exact tI_mono (tIs_cons h) fun v H1 h1 => ih (by simpa [E.clen] using hl) hc h1
  | _ => intro kk H Q hl hc h; cases hc
theorem tIs_len {K : PySem.W.Frag} {mg : Str → Option Value} {σ : L2.St} {H : Hp} {Q : List V → Hp → Prop} (h : tIs Φ G W K mg ees σ H Q) : tIs Φ G W K mg ees σ H fun vs H2 => vs.length = ees.clen ∧ Q vs H2 := by
  obtain ⟨F, en, A, s, q⟩ := h
  refine ⟨F, en, A, s, q.len.mono fun ss en' q1 vs F' H' A' ps g s' o nd => ⟨?_, q1.2 vs F' H' A' ps g s' o nd⟩⟩
  have := o.len
  simp only [List.length_map] at this
  rw [this, q1.1]
theorem zip_kV : ∀ (kk : List Key) (vs : List V), (kk.map kV).zip vs = (kk.zip vs).map fun kv => (kV kv.1, kv.2)
  | [], _ => rfl
  | _ :: _, [] => rfl
  | k :: kk, v :: vs => by simp [zip_kV kk vs]
theorem zip_kD : ∀ {kk : List Key} {vs : List V}, vs.length = kk.length → kk.map kD = (kk.zip vs).map fun p => kD p.1
  | [], _, _ => rfl
  | _ :: _, [], h => by simp at h
  | k :: kk, v :: vs, h => by
    simp only [List.map_cons, List.zip_cons_cons, List.cons.injEq, true_and]
    exact zip_kD (by simpa using h)
theorem so_dic {kk : List Key} {ek : E} {keys : List (Option Expr)} {values : List Expr} (h : PPs X pos keys values (dicT Φ G W X.K X.mg kk ees)) (hk : keyE ek = some kk) (hall : keys.all (·.isSome) = true := by rfl) (hl : keys.length = values.length := by rfl) (h0 : keys ≠ [] := by exact List.cons_ne_nil _ _)
    (h15 : keys.length ≤ 15 := by decide) (hkl : kk.length = ees.clen := by rfl) (hch : ees.chain = true := by rfl) : PE X (.Dict keys values pos) (tI Φ G W X.K X.mg (.dic ek ees)) :=
  peI (pe_disp h hall hl h0 h15) fun σ H Q ⟨F, en, A, s, q⟩ p hp => by
    simp only [ev, hk] at q
    by_cases hn : kk.Nodup ∧ kk.length ≤ 15
    · rw [if_pos hn] at q
      have g0 : Go F H [] F (upd H p (.dK [])) [] := (go_own hp _).sub fun _ z => nomatch z
      have sb0 := sub_own hp s.sub (.dK [])
      have s0 := s.go g0 sb0 fun _ _ z => nomatch z
      have fp := sub_none hp s.sub
      have np : p ∉ A := fun z => (s.here p z).2 hp
      have gA : Go F H A F (upd H p (.dK [])) A := by
        have := g0.frame (C := A)
        rwa [List.append_nil] at this
      refine tPairs_ok hkl hch ⟨F, en, A, s0, (q.next.go gA).len.mono fun ss en1 q1 vs F1 H1 A1 ps g1 x1 o nd => ?_⟩
      obtain ⟨l1, q1⟩ := q1
      rw [if_pos (by rw [l1, hkl])] at q1
      obtain ⟨f1, n1, h1⟩ := keepD g1 fp np upd_same
      have hv : vs.length = kk.length := by
        have := o.len
        simp only [List.length_map] at this
        omega
      refine ⟨h1, kk.zip vs, ?_, ?_, ?_⟩
      · exact zip_kV kk vs
      · rw [List.length_zip]; omega
      · have hm : mergeK [] (kk.zip vs) = kk.zip vs := by
          have := mergeK_new (more := kk.zip vs) (acc := []) (by
            rw [List.nil_append, List.map_fst_zip (by omega)]
            exact hn.1)
          simpa using this
        rw [hm]
        obtain ⟨x3, g3, d⟩ := frz_all x1 o nd
        have f3 : frz F1 H1 ps p = none := by
          unfold frz
          rw [if_neg (fun z => n1 (List.mem_append_left _ z))]
          exact f1
        have n3 : p ∉ A1 := fun z => n1 (List.mem_append_right _ z)
        have gW : Go (frz F1 H1 ps) H1 [p] (frz F1 H1 ps) (upd H1 p (.dK (kk.zip vs))) [p] :=
          ⟨fun _ _ z => z, fun a o ha z => by rw [upd_ne (fun w => ha (by simp [w]))]; exact z, fun a z => .inl z, fun a z => .inl z⟩
        have sbW : Sub (frz F1 H1 ps) (upd H1 p (.dK (kk.zip vs))) := fun a o z => by
          rw [upd_ne (fun w => by rw [w, f3] at z; cases z)]
          exact x3.sub a o z
        have x4 := x3.go gW sbW fun a ha hb => by
          have : a = p := by simpa using hb
          subst this
          exact n3 ha
        refine q1 (.ref p) _ _ A1 [p] ?_ x4 ⟨p, rfl, rfl, f3, .inl ⟨kk.zip vs, upd_same, ?_, ?_⟩⟩ (nodup_mk (by simp) x4.nd fun a ha hb => n3 (by
          have : a = p := by simpa using ha
          rwa [this] at hb))
        · -- from the start: p is new
          have gP : Go F H A F (upd H p (.dK [])) ([p] ++ A) := by
            have := (go_own (F := F) hp (.dK [])).frame (C := A)
            rw [List.append_nil] at this
            exact this.sub fun a ha => by
              rcases List.mem_append.mp ha with z | z
              · exact List.mem_append_right _ z
              · exact List.mem_append_left _ z
          have gQ := (g1.trans g3).frame (C := [p])
          have gR : Go (frz F1 H1 ps) H1 ([p] ++ A1) (frz F1 H1 ps) (upd H1 p (.dK (kk.zip vs))) ([p] ++ A1) :=
            ⟨gW.f, fun a o ha z => gW.h a o (fun w => ha (List.mem_append_left _ w)) z, fun a z => .inl z, fun a z => .inl z⟩
          exact (gP.trans gQ).trans gR
        · exact zip_kD hv
        · rw [List.map_snd_zip (by omega)]; exact d
    · rw [if_neg hn] at q; exact q.elim
end
end Eng

set_option Elab.async false
set_option linter.all false
set_option maxRecDepth 100000
set_option maxHeartbeats 4000000
namespace Eng
open PySem PySem.Spec PyProof.Rows L2 RZ
structure Nm (x : Str) : Prop where
  d : (x == ("__debug__" : Str)) = false
  c : (x == ("__classdict__" : Str)) = false
section
variable {Φ : Str → List S → FR} {G : Str → Option D} {fs : Fs} {bs : List Str} {k : Nat} {X : Cx} {W : WX} {fu : Nat} {kp : List Bool}
variable {a b c e : Expr} {es : List Expr} {ea eb ec ees : E} {pos p : Pos} {x : Str}
theorem so_int {i : Int} {j : Nat} : PE X (.Constant (.int i) j pos) (tI Φ G W X.K X.mg (.int i)) := so_const pe_int (fun _ => by simp only [ev]) fun _ => denI
theorem so_bl {i : Bool} {j : Nat} : PE X (.Constant (.bool i) j pos) (tI Φ G W X.K X.mg (.bl i)) := so_const pe_bl (fun _ => by simp only [ev]) fun _ => denB
theorem so_str {i : Str} {j : Nat} : PE X (.Constant (.str i) j pos) (tI Φ G W X.K X.mg (.str i)) := so_const pe_str (fun _ => by simp only [ev]) fun _ => denS
theorem so_nn {j : Nat} : PE X (.Constant .none j pos) (tI Φ G W X.K X.mg .non) := so_const pe_non (fun _ => by simp only [ev]) fun _ => denN
theorem so_v {i : Nat} (n : Nm x) (hN : X.N[i]? = some x) (hv : Vis X.env.scope x) : PE X (.Name x pos) (tI Φ G W X.K X.mg (.var i)) := so_var hN hv n.d n.c
theorem so_o {i : Nat} (n : Nm x) (hN : X.N[i]? = some x) (hv : Vis X.env.scope x) : PE X (.Name x pos) (tO Φ G W X.K X.mg (.var i)) := so_opv hN hv n.d n.c
theorem so_t (ha : PE X a (tI Φ G W X.K X.mg ea)) (h : ea.isV = false := by rfl) : PE X a (tO Φ G W X.K X.mg ea) := so_op (isV_ne h) ha
theorem so_av {i : Nat} (n : Nm x) (hN : X.N[i]? = some x) (hv : Vis X.env.scope x) (hr : PA X es (tIq Φ G W X.K X.mg ees))
    (hs : starEach (.Name x p :: es) X.env = (false, eval (.Name x p) X.env) :: starEach es X.env := by rfl) : PA X (.Name x p :: es) (tIq Φ G W X.K X.mg (.cons (.var i) ees)) := so_aconsv hN hv hr n.d n.c hs
theorem so_fn {n : Nat} (nm : Nm x) (cok : Cok Φ G fs bs k X W) (hf : (x, n) ∈ fs) (hg : Gl X x) (ha : PA X (e :: es) (tIa Φ G W X.K X.mg ees))
    (he : starEach (e :: es) X.env = (false, eval e X.env) :: starEach es X.env := by rfl) (hpl : (backTo pos (starEach es X.env)).any (·.1) = false := by rfl) : PE X (.Call (.Name x p) (e :: es) [] pos) (tI Φ G W X.K X.mg (.call x ees)) := so_call cok hf hg ha nm.d he hpl
theorem so_fn0 (nm : Nm x) (cok : Cok Φ G fs bs k X W) (hf : (x, 0) ∈ fs) (hg : Gl X x) : PE X (.Call (.Name x p) [] [] pos) (tI Φ G W X.K X.mg (.call x .nil)) := so_call0 cok hf hg nm.d
theorem so_g {d : D} (nm : Nm x) (cok : Cok Φ G fs bs k X W) (hG : G x = some d) (hg : Gl X x) : PE X (.Name x pos) (tI Φ G W X.K X.mg (.gl x)) := so_gl cok hG hg nm.d
theorem sp_rv {i : Nat} (n : Nm x) (hN : X.N[i]? = some x) (hv : Vis X.env.scope x) : PS X (.Return (some (.Name x p)) pos) (tP Φ G W X.K X.mg fu kp (.ret (.var i))) := sp_retv hN hv n.d n.c
theorem so_trm (ha : PE X a (tO Φ G W X.K X.mg ea)) (he : ∀ en, evT Φ G ea en = (opn Φ G ea en).bind fun x en => R.of (truD x) en) (hp : ∀ whole, isTrue a X.env whole = (do let v ← whole; standAt a.pos; holding [v] (truthy v)) := by intro _; rfl) : PT X a (tIT Φ G W X.K X.mg ea) := so_tru ha hp he
def E.isT : E → Bool
  | .and_ _ _ => true | .or_ _ _ => true | .not_ _ => true | .cmp _ _ _ => true | .chn _ _ _ _ _ => true | _ => false
theorem evT_eq {e : E} (h : e.isT = false) (en : En) : evT Φ G e en = (opn Φ G e en).bind fun x en => R.of (truD x) en := by
  cases e <;> first | (simp only [evT]; done) | (exact absurd h (by simp [E.isT]))
theorem so_tr (ha : PE X a (tO Φ G W X.K X.mg ea)) (h : ea.isT = false := by rfl) (hp : ∀ whole, isTrue a X.env whole = (do let v ← whole; standAt a.pos; holding [v] (truthy v)) := by intro _; rfl) : PT X a (tIT Φ G W X.K X.mg ea) := so_tru ha hp (evT_eq h)
/-- a function that a name holds -/
theorem so_callv {i : Nat} (nm : Nm x) (cok : Cok Φ G fs bs k X W) (hN : X.N[i]? = some x) (hv : Vis X.env.scope x) (ha : PA X (e :: es) (tIa Φ G W X.K X.mg ees))
    (he : starEach (e :: es) X.env = (false, eval e X.env) :: starEach es X.env := by rfl) (hpl : (backTo pos (starEach es X.env)).any (·.1) = false := by rfl) : PE X (.Call (.Name x p) (e :: es) [] pos) (tI Φ G W X.K X.mg (.callv i ees)) := by
  refine ⟨fun pins s0 σ H Q I ⟨F, en, A, s, q⟩ => ?_⟩
  simp only [ev] at q
  split at q
  · rename_i f hf
    obtain ⟨v, ps, e1, o, _⟩ := s.own hf
    have o2 := o.2
    simp only [Den] at o2
    obtain ⟨a, rfl, hm⟩ := o2
    change Rn X.K X.mg W σ F H A ((R.nox (eva Φ G ees en)).bind _) _ at q
    cases hev : eva Φ G ees en with
    | stuck => rw [hev] at q; exact q.elim
    | exc c d en1 => rw [hev] at q; exact q.elim
    | ok ss en1 =>
      rw [hev] at q
      obtain ⟨n, hfn⟩ := cok.wd.ex f ss fun z => by
        simp only [R.nox, R.bind] at q
        rw [z] at q
        exact q
      obtain ⟨_, fa, fd, pp, FO, hm2, hk, hb, _⟩ := cok.wd.fn f n hfn
      rw [hm] at hm2
      cases hm2
      refine wpAny_Call_Name_kw (thn ((pe_var hN hv nm.d nm.c).run pins s0 σ H (fun w H1 => w = V.ref a ∧ H1 = H) I ⟨_, e1, rfl, rfl⟩) fun u s1 ⟨w, H1, I1, r1, hw, hH⟩ => ?_)
      subst hw hH
      cases r1
      refine PySem.W.callWith_K (h₀ := X.base) I1.ok.mod.kin hk (thn (ha.run pos pins s1 σ _ (fun vs H2 => spF X.K X.mg (Φ f) n vs H2 Q (WE W σ)) I1 ⟨F, en, A, s, ?_⟩) fun us s2 ⟨vs, H2, I2, r, q2⟩ => ⟨I2.kIn, run_fnS (E := WE W) FO cok.room hb (passAt cok.tk σ) I2 r q2⟩) he hpl
      rw [hev]
      intro vs F1 H1 A1 ps1 g1 x1 o nd av
      exact call_run hfn cok g1 x1 o nd av q fun s en' h => h
  · exact q.elim
/-- one target of a block's or loop's -/
theorem tg_1 {i : Nat} (hN : X.N.Nodup) (hi : X.N[i]? = some x) (hx : Loc X.env.scope x) (hf : X.fn x = true ∨ X.env.scope.names.lookup x = some .local) : PG X (.Name x pos) (tG X.K true [i]) := pg_name hN hi hx hf
theorem ns_nil : PGs X [] (gNs []) := pgs_nil
theorem ns_cons {i : Nat} {is : List Nat} (hN : X.N.Nodup) (hi : X.N[i]? = some x) (hx : Loc X.env.scope x) (hf : X.fn x = true ∨ X.env.scope.names.lookup x = some .local) (h : PGs X es (gNs is))
    (hs : (assignEach (.Name x pos :: es) X.env).map (·.2) = assign (.Name x pos) X.env :: (assignEach es X.env).map (·.2) := by rfl) : PGs X (.Name x pos :: es) (gNs (i :: is)) := pgs_cons (pg_name hN hi hx hf) h hs
theorem tg_n {is : List Nat} {n : Nat} (cal : X.calm = true) (h : PGs X es (gNs is)) (hn : (assignEach es X.env).length = is.length := by rfl) (hst : (assignEach es X.env).findIdx? (·.1) = none := by rfl) : PG X (.Tuple es n pos) (tG X.K false is) := by
  unfold tG
  exact pg_tup cal h hn hst
end
end Eng

set_option Elab.async false
set_option linter.all false
set_option maxRecDepth 100000
set_option maxHeartbeats 4000000
namespace Eng
open PySem PySem.Spec PyProof.Rows L2 RZ
/-! ### grids: an owned list of owned lists -/
section
variable {K : PySem.W.Frag} {mg : Str → Option Value} {F H F' H' F2 H2 : Hp} {A B C ps : List Addr} {σ : L2.St} {en en2 : En} {i : Nat} {s t : S} {v : V}
theorem Rws.len : ∀ {rows : List (List D)} {qs : List Addr}, Rws K mg F H rows qs → qs.length = rows.length
  | [], qs, h => by simp only [Rws] at h; rw [h]; rfl
  | r :: rs, qs, h => by
    simp only [Rws] at h
    obtain ⟨q, t, rfl, _, _, h⟩ := h
    rw [List.length_cons, List.length_cons, Rws.len h]
theorem Rws.row : ∀ {rows : List (List D)} {qs : List Addr} {k : Nat} {r : List D}, Rws K mg F H rows qs → rows[k]? = some r → ∃ q vs, qs[k]? = some q ∧ F q = none ∧ H q = some (.lst vs) ∧ Dens K mg F r vs
  | [], _, _, _, _, e => by simp at e
  | r :: rs, qs, 0, _, h, e => by
    simp only [Rws] at h
    obtain ⟨q, t, rfl, h1, ⟨vs, h2, h3⟩, _⟩ := h
    simp at e; subst e
    exact ⟨q, vs, rfl, h1, h2, h3⟩
  | r :: rs, qs, k + 1, _, h, e => by
    simp only [Rws] at h
    obtain ⟨q, t, rfl, _, _, h⟩ := h
    obtain ⟨q', vs, e1, e2⟩ := Rws.row (k := k) h (by simpa using e)
    exact ⟨q', vs, by simpa using e1, e2⟩
/-- a row is written -/
theorem Rws.write {r : List D} {vs : List V} {q : Addr} (d : Dens K mg F r vs) : ∀ {rows : List (List D)} {qs : List Addr} {k : Nat}, Rws K mg F H rows qs → qs.Nodup → qs[k]? = some q → F q = none → Rws K mg F (upd H q (.lst vs)) (rows.set k r) qs
  | [], qs, k, h, _, e, _ => by simp only [Rws] at h; subst h; simp at e
  | r0 :: rs, qs, 0, h, nd, e, hF => by
    simp only [Rws] at h
    obtain ⟨q0, t, rfl, h1, ⟨vs0, h2, h3⟩, h4⟩ := h
    simp at e; subst e
    simp only [List.set_cons_zero, Rws]
    refine ⟨q0, t, rfl, h1, ⟨vs, upd_same, d⟩, h4.keep (fun _ _ z => z) fun a ha => ?_⟩
    have hne : a ≠ q0 := fun z => (List.nodup_cons.mp nd).1 (z ▸ ha)
    exact ⟨(h4.here a ha).1, upd_ne hne⟩
  | r0 :: rs, qs, k + 1, h, nd, e, hF => by
    simp only [Rws] at h
    obtain ⟨q0, t, rfl, h1, ⟨vs0, h2, h3⟩, h4⟩ := h
    have e' : t[k]? = some q := by simpa using e
    have hne : q0 ≠ q := fun z => (List.nodup_cons.mp nd).1 (z ▸ List.mem_of_getElem? e')
    simp only [List.set_cons_succ, Rws]
    exact ⟨q0, t, rfl, h1, ⟨vs0, by rw [upd_ne hne]; exact h2, h3⟩, Rws.write d h4 (List.nodup_cons.mp nd).2 e' hF⟩
/-- another row in its place -/
theorem Rws.repl {r : List D} {vs : List V} {q : Addr} (d : Dens K mg F r vs) (hF : F q = none) (hH : H q = some (.lst vs)) : ∀ {rows : List (List D)} {qs : List Addr} {k : Nat}, Rws K mg F H rows qs → Rws K mg F H (rows.set k r) (qs.set k q)
  | [], qs, k, h => by simp only [Rws] at h; subst h; simp [Rws]
  | r0 :: rs, qs, 0, h => by
    simp only [Rws] at h
    obtain ⟨q0, t, rfl, _, _, h4⟩ := h
    simp only [List.set_cons_zero, Rws]
    exact ⟨q, t, rfl, hF, ⟨vs, hH, d⟩, h4⟩
  | r0 :: rs, qs, k + 1, h => by
    simp only [Rws] at h
    obtain ⟨q0, t, rfl, h1, h2, h4⟩ := h
    simp only [List.set_cons_succ, Rws]
    exact ⟨q0, _, rfl, h1, h2, Rws.repl d hF hH h4⟩
theorem Rws.snoc {r : List D} {vs : List V} {q : Addr} (d : Dens K mg F r vs) (hF : F q = none) (hH : H q = some (.lst vs)) : ∀ {rows : List (List D)} {qs : List Addr}, Rws K mg F H rows qs → Rws K mg F H (rows ++ [r]) (qs ++ [q])
  | [], qs, h => by
    simp only [Rws] at h; subst h
    simp only [List.nil_append, Rws]
    exact ⟨q, [], rfl, hF, ⟨vs, hH, d⟩, rfl⟩
  | r0 :: rs, qs, h => by
    simp only [Rws] at h
    obtain ⟨q0, t, rfl, h1, h2, h4⟩ := h
    simp only [List.cons_append, Rws]
    exact ⟨q0, _, rfl, h1, h2, Rws.snoc d hF hH h4⟩
/-- a name taken out while other work goes on, and put back -/
theorem Sok.back (x : Sok K mg F H σ en A) (e : getE en i = some s) : ∃ v ps B, σ[i]? = some (some v) ∧ Own K mg F H s v ps ∧ Sok K mg F H σ (en.set i none) B ∧ Go F H A F H B ∧ (ps ++ B).Nodup ∧
    ∀ F2 H2 en2 A2, Go F H B F2 H2 A2 → Sok K mg F2 H2 σ en2 A2 → Own K mg F2 H2 s v ps ∧ (ps ++ A2).Nodup ∧ Go F H A F2 H2 (ps ++ A2) := by
  obtain ⟨v, ps, B, e1, o, x2, pm⟩ := x.take e
  have nd := pm.nodup_iff.mp x.nd
  have dis := nodup_dis nd
  refine ⟨v, ps, B, e1, o, x2, Go.refl.sub fun a ha => pm.mem_iff.mpr (List.mem_append_right _ ha), nd, fun F2 H2 en2 A2 g x3 => ⟨o.go g dis, ?_, ?_⟩⟩
  · exact nodup_mk (List.nodup_append.mp nd).1 x3.nd (dis_go g dis fun a ha => (o.here a ha).2)
  · exact (g.frame (C := ps)).wide fun a ha => pm.mem_iff.mpr ha
theorem gRow_some {rows : List (List D)} {a : S} {r : Nat × List D} (h : gRow rows a = some r) : ∃ k, a = .dat (.int k) ∧ ixN rows.length k = some r.1 ∧ rows[r.1]? = some r.2 := by
  unfold gRow at h
  split at h
  · rename_i k
    obtain ⟨j, e1, e2⟩ := Option.bind_eq_some_iff.mp h
    obtain ⟨q, e3, rfl⟩ := Option.map_eq_some_iff.mp e2
    exact ⟨k, rfl, e1, e3⟩
  · cases h
theorem gAt_some {r : List D} {b : S} {d : D} (h : gAt r b = some d) : ∃ l, b = .dat (.int l) ∧ atI r l = some d := by
  unfold gAt at h
  split at h
  · exact ⟨_, rfl, h⟩
  · cases h
theorem gIx_some {r : List D} {b : S} {j : Nat} (h : gIx r b = some j) : ∃ l, b = .dat (.int l) ∧ ixN r.length l = some j := by
  unfold gIx at h
  split at h
  · exact ⟨_, rfl, h⟩
  · cases h
/-- the grid's row by a Python index -/
theorem Own.gRow {rows : List (List D)} {a : S} {r : Nat × List D} {ps : List Addr} {v : V} (o : Own K mg F H (.mg rows) v ps) (h : Eng.gRow rows a = some r) :
    ∃ p qs q vs k, v = .ref p ∧ ps = p :: qs ∧ F p = none ∧ H p = some (.lst (qs.map V.ref)) ∧ Rws K mg F H rows qs ∧ a = .dat (.int k) ∧ ixN qs.length k = some r.1 ∧ atI (qs.map V.ref) k = some (.ref q) ∧ qs[r.1]? = some q ∧ F q = none ∧ H q = some (.lst vs) ∧ Dens K mg F r.2 vs := by
  obtain ⟨p, qs, rfl, rfl, h1, h2, h3⟩ := o
  obtain ⟨k, rfl, e1, e2⟩ := gRow_some h
  obtain ⟨q, vs, e3, e4, e5, e6⟩ := h3.row e2
  rw [← h3.len] at e1
  refine ⟨p, qs, q, vs, k, rfl, rfl, h1, h2, h3, rfl, e1, ?_, e3, e4, e5, e6⟩
  unfold atI
  rw [List.length_map, e1]
  simp [e3]
end
section
variable {Φ : Str → List S → FR} {G : Str → Option D} {fs : Fs} {bs : List Str} {k : Nat} {X : Cx} {W : WX} {fu : Nat} {kp : List Bool}
variable {a b c e o i j : Expr} {es : List Expr} {ea eb ec ees ei ej : E} {pos p p1 p2 : Pos} {x : Str} {n : Nat}
/-- rows[i] as a base: the state without the grid behind it -/
theorem base_row {σ : L2.St} {H : Hp} {F : Hp} {en : En} {A : List Addr} {rows : List (List D)} {Rf : V → Hp → Prop} {β : Type} {f : Nat × List D → En → R β} {Qf : β → En → Prop} (s : Sok X.K X.mg F H σ en A) (e : getE en n = some (.mg rows))
    (q : Rn X.K X.mg W σ F H A ((opn Φ G ei (en.set n none)).bind fun a en1 => match gRow rows a with
      | some r => f r en1
      | none => .stuck) Qf)
    (h : ∀ p qs q vs r en1 F1 H1 A1, σ[n]? = some (some (.ref p)) → rows[r.1]? = some r.2 → Go F H A F1 H1 A1 → Sok X.K X.mg F1 H1 σ en1 A1 → Rn X.K X.mg W σ F H A (f r en1) Qf → qs[r.1]? = some q → Own X.K X.mg F1 H1 (.mg rows) (.ref p) (p :: qs) → H1 q = some (.lst vs) → Dens X.K X.mg F1 r.2 vs → ((p :: qs) ++ A1).Nodup →
      (∀ F2 H2 en2 A2, Go F1 H1 A1 F2 H2 A2 → Sok X.K X.mg F2 H2 σ en2 A2 → Own X.K X.mg F2 H2 (.mg rows) (.ref p) (p :: qs) ∧ ((p :: qs) ++ A2).Nodup ∧ Go F H A F2 H2 ((p :: qs) ++ A2) ∧ H2 q = some (.lst vs) ∧ Dens X.K X.mg F2 r.2 vs ∧ F2 q = none) → Rf (.ref q) H1) :
    tOp (rIxL X.K) (fun σ H Q => ∃ v, σ[n]? = some (some v) ∧ Q v H) (tO Φ G W X.K X.mg ei) σ H Rf := by
  obtain ⟨v, ps, B, e1, o, x2, gB, nd, bk⟩ := s.back e
  refine ⟨v, e1, F, _, B, x2, (q.next.go gB).mono fun t en1 q1 w F1 H1 A1 ps1 g1 x1 h1 nd1 => ?_⟩
  cases hr : gRow rows t with
  | none => rw [hr] at q1; exact q1.elim
  | some r =>
    rw [hr] at q1
    have g1' := go_tail g1
    obtain ⟨o1, n1, g2⟩ := bk F1 H1 en1 A1 g1' x1
    obtain ⟨p, qs, q', vs, k, rfl, rfl, hF, hH, hR, rfl, e3, e4, e5, e6, e7, e8⟩ := o1.gRow hr
    obtain ⟨_, ow⟩ := has_now h1 x1
    refine ⟨p, qs.map V.ref, k, .ref q', rfl, ow.int, .inl (.inl hH), e4, ?_⟩
    obtain ⟨_, _, _, e9⟩ := gRow_some hr
    refine h p qs q' vs r en1 F1 H1 A1 e1 e9 (g2.sub fun a ha => List.mem_append_right _ ha) x1 q1 e5 o1 e7 e8 n1 fun F2 H2 en2 A2 g3 x3 => ?_
    obtain ⟨o2, n2, g4⟩ := bk F2 H2 en2 A2 (g1'.trans g3) x3
    have dis : ∀ a, a ∈ p :: qs → a ∉ A1 := nodup_dis n1
    have hq : q' ∈ p :: qs := List.mem_cons_of_mem _ (List.mem_of_getElem? e5)
    exact ⟨o2, n2, g4, g3.h q' _ (dis q' hq) e7, Dens.mono g3.f _ _ e8, (o2.here q' hq).1⟩
theorem so_gix (nm : Nm x) (hN : X.N[n]? = some x) (hv : Vis X.env.scope x) (hi : PE X i (tO Φ G W X.K X.mg ei)) (hj : PE X j (tO Φ G W X.K X.mg ej)) (h1 : PlainIx i := by exact fun _ _ => rfl) (h2 : PlainIx j := by exact fun _ _ => rfl) :
    PE X (.Subscript (.Subscript (.Name x p) i p1) j p2) (tI Φ G W X.K X.mg (.gix n ei ej)) :=
  peI (pe_ix ix_list (pe_ix ix_list (pe_var hN hv nm.d nm.c) hi h1) hj h2) fun σ H Q ⟨F, en, A, s, q⟩ => by
    simp only [ev] at q
    split at q
    · rename_i rows e
      refine base_row s e q fun p qs q' vs r en1 F1 H1 A1 e1 er g1 x1 q1 eq o1 hH d nd bk => ?_
      refine ⟨F1, en1, A1, x1, (q1.next.go g1).mono fun t en2 q2 w F2 H2 A2 ps2 g2 x2 h2 nd2 => ?_⟩
      have g2' := go_tail g2
      obtain ⟨o2, n2, g3, hH2, d2, hF2⟩ := bk F2 H2 en2 A2 g2' x2
      obtain ⟨u, e2, q3⟩ := R_of q2
      obtain ⟨dd, e3, rfl⟩ := Option.map_eq_some_iff.mp e2
      obtain ⟨l, rfl, e4⟩ := gAt_some e3
      obtain ⟨_, ow⟩ := has_now h2 x2
      obtain ⟨z, e5, dz⟩ := d2.at e4
      refine ⟨q', vs, l, z, rfl, ow.int, .inl (.inl hH2), e5, ?_⟩
      obtain ⟨A', x3, h3⟩ := x2.setD (i := n) o2 n2 e1
      exact q3 z F2 H2 A' [] (g3.sub h3) x3 ⟨rfl, dz⟩ (by simpa using x3.nd)
    · exact q.elim
theorem so_gbi {f : BF} {y : Str} {py : Pos} (nm : Nm x) (cok : Cok Φ G fs bs k X W) (hN : X.N[n]? = some x) (hv : Vis X.env.scope x) (hb : y ∈ bs) (hy : y = bfN f) (hg : Gl X y) (hvf : bootBuiltins (bfN f) = some (bfV f)) (hi : PE X i (tO Φ G W X.K X.mg ei)) (h1 : PlainIx i := by exact fun _ _ => rfl)
    (hs : starEach [.Subscript (.Name x p) i p1] X.env = (false, eval (.Subscript (.Name x p) i p1) X.env) :: starEach [] X.env := by rfl) :
    PE X (.Call (.Name y py) [.Subscript (.Name x p) i p1] [] pos) (tI Φ G W X.K X.mg (.gbi f n ei)) :=
  peI (pe_bf (call_b1 (mg := X.mg) cok.calm) (cok.wd.bl _ hb) hy hg hvf (pa_cons (pe_ix ix_list (pe_var hN hv nm.d nm.c) hi h1) (pa_nil (X := X)) hs) hs) fun σ H Q ⟨F, en, A, s, q⟩ => by
    simp only [ev] at q
    split at q
    · rename_i rows e
      refine base_row s e q fun p qs q' vs r en1 F1 H1 A1 e1 er g1 x1 q1 eq o1 hH d nd bk => ?_
      obtain ⟨u, e2, q3⟩ := R_of q1
      obtain ⟨_, _, _, _, _, hF⟩ := bk F1 H1 en1 A1 Go.refl x1
      refine ⟨F1, .ml r.2, _, [q'], u, rfl, x1.sub, ⟨q', vs, rfl, rfl, hF, hH, d⟩, e2, fun w F' H' ps g2 sb ow nd2 => ?_⟩
      have x2 := x1.go g2 sb fun _ _ z => nomatch z
      have gA : Go F1 H1 A1 F' H' A1 := by
        have := g2.frame (C := A1)
        rw [List.append_nil] at this
        exact this.sub fun a ha => List.mem_append_left _ ha
      obtain ⟨o2, n2, g3, _⟩ := bk F' H' en1 A1 gA x2
      obtain ⟨A', x3, h3⟩ := x2.setD (i := n) o2 n2 e1
      have nw : ∀ a, a ∈ ps → H1 a = none := fun a ha => (g2.b a ha).resolve_left fun z => nomatch z
      have dd : ∀ a, a ∈ ps → a ∉ A' := fun a ha hb => by
        rcases List.mem_append.mp (h3 a hb) with z | z
        · exact (o1.here a z).2 (nw a ha)
        · exact (x1.here a z).2 (nw a ha)
      refine q3 w F' H' A' ps ⟨g3.f, g3.h, g3.n, fun a ha => ?_⟩ x3 ow (nodup_mk nd2 x3.nd dd)
      rcases List.mem_append.mp ha with z | z
      · cases hh : H a with
        | none => exact .inr rfl
        | some oo =>
          refine .inl (Classical.byContradiction fun hn => ?_)
          have := g1.h a oo hn hh
          rw [nw a z] at this; cases this
      · exact g3.b a (h3 a z)
    · exact q.elim
theorem so_mgn : PE X (.List [] pos) (tI Φ G W X.K X.mg .mgn) :=
  peI (pe_lst (pa_nil (X := X))) fun σ H Q ⟨F, en, A, s, q⟩ => by
    simp only [ev] at q
    refine ⟨Nat.zero_le _, fun p hp => ?_⟩
    obtain ⟨g3, x3, n3⟩ := out_done Go.refl s (go_own hp (.lst [])) (sub_own hp s.sub _) (by simp)
    exact q _ _ _ A [p] g3 x3 ⟨p, [], rfl, rfl, sub_none hp s.sub, upd_same, by simp [Rws]⟩ n3
theorem so_gapp (hN : X.N[n]? = some x) (hv : Vis X.env.scope x) (nm : Nm x) (ha : PE X a (tI Φ G W X.K X.mg ea)) {apos : Pos}
    (hbase : attributeBase (.Name x p) "append" X.env (eval (.Name x p) X.env) = eval (.Name x p) X.env := by rfl)
    (hfew : ((backTo pos (starEach [a] X.env)).all (fun x => !x.1) && (backToKw pos (keywordEach [] X.env)).all (fun x => x.1.isSome)
      && decide ([a].length + ([] : List Keyword).length + (if ([] : List Keyword).isEmpty then 0 else 1) < 30)) = true := by rfl)
    (hline : (apos.endLine == pos.line) = true := by rfl) (hs : starEach [a] X.env = (false, eval a X.env) :: starEach [] X.env := by rfl) :
    PE X (.Call (.Attribute (.Name x p) "append" apos) [a] [] pos) (tI Φ G W X.K X.mg (.gapp n ea)) :=
  peI (pe_bm PySem.F.plainAttrs_list PySem.F.slot_list_append PySem.F.type_list_append mt_append (pe_var hN hv nm.d nm.c) (pa_cons ha (pa_nil (X := X)) hs) hbase hfew hline hs rfl) fun σ H Q ⟨F, en, A, s, q⟩ => by
    simp only [ev] at q
    split at q
    · rename_i rows0 e0
      obtain ⟨v, ps, e1, o, _⟩ := s.own e0
      obtain ⟨l, qs0, rfl, rfl, hF, hH, d0⟩ := o
      refine ⟨_, e1, .inl ⟨rfl, _, .inl (.inl hH)⟩, F, en, A, s, q.next.mono fun s1 en1 q1 v F1 H1 A1 ps1 g1 x1 h1 nd1 => ?_⟩
      split at q1
      · rename_i ds rows e2
        split at q1
        · rename_i hl
          obtain ⟨r, vs, rfl, rfl, hFr, hHr, dr⟩ := h1
          obtain ⟨v', ps, B, e3, o2, x2, gB, n2, bk⟩ := x1.back e2
          rw [e1] at e3; cases e3
          obtain ⟨p', qs, e4, rfl, hF2, hH2, hR⟩ := o2
          cases e4
          have hrA : r ∉ A1 := fun z => nodup_dis nd1 r (by simp) z
          have hrl : r ∉ l :: qs := fun z => by
            have gb := gB
            obtain ⟨_, _, g9⟩ := bk F1 H1 _ B Go.refl x2
            rcases g9.b r (List.mem_append_left _ z) with w | w
            · exact hrA w
            · rw [hHr] at w; cases w
          have hrB : r ∉ B := fun z => by
            rcases gB.b r z with w | w
            · exact hrA w
            · rw [hHr] at w; cases w
          have hne : r ≠ l := fun z => hrl (by simp [z])
          refine ⟨l, qs.map V.ref, .ref r, rfl, rfl, hH2, by rw [List.length_map, hR.len, ← SZ_eq]; exact hl, ?_⟩
          have hm : qs.map V.ref ++ [V.ref r] = (qs ++ [r]).map V.ref := by simp
          rw [hm]
          have gW : Go F1 H1 [l] F1 (upd H1 l (.lst ((qs ++ [r]).map V.ref))) [l] :=
            ⟨fun _ _ z => z, fun a o ha z => by rw [upd_ne (fun w => ha (by simp [w]))]; exact z, fun a z => .inl z, fun a z => .inl z⟩
          have sbW : Sub F1 (upd H1 l (.lst ((qs ++ [r]).map V.ref))) := fun a o z => by
            rw [upd_ne (fun w => by rw [w, hF2] at z; cases z)]
            exact x1.sub a o z
          have x3 := x2.go gW sbW fun a ha hb => nodup_dis n2 a (by simp at hb; simp [hb]) ha
          have hR2 : Rws X.K X.mg F1 (upd H1 l (.lst ((qs ++ [r]).map V.ref))) (rows ++ [ds]) (qs ++ [r]) :=
            (Rws.snoc dr hFr hHr hR).keep (fun _ _ z => z) fun a ha => by
              have hal : a ≠ l := fun z => by
                rcases List.mem_append.mp ha with w | w
                · exact (List.nodup_cons.mp (List.nodup_append.mp n2).1).1 (z ▸ w)
                · simp at w; exact hne (w ▸ z)
              refine ⟨?_, upd_ne hal⟩
              rcases List.mem_append.mp ha with w | w
              · exact (hR.here a w).1
              · simp at w; rw [w]; exact hFr
          have o3 : Own X.K X.mg F1 (upd H1 l (.lst ((qs ++ [r]).map V.ref))) (.mg (rows ++ [ds])) (.ref l) (l :: (qs ++ [r])) := ⟨l, _, rfl, rfl, hF2, upd_same, hR2⟩
          have n3 : ((l :: (qs ++ [r])) ++ B).Nodup := by
            have e9 : (l :: (qs ++ [r])) ++ B = (l :: qs) ++ (r :: B) := by simp
            rw [e9]
            obtain ⟨m1, m2, m3⟩ := List.nodup_append.mp n2
            refine nodup_mk m1 (List.nodup_cons.mpr ⟨hrB, m2⟩) fun a ha hb => ?_
            rcases List.mem_cons.mp hb with z | z
            · exact hrl (z ▸ ha)
            · exact m3 a ha a z rfl
          obtain ⟨A', x4, h4⟩ := x3.setD (i := n) o3 n3 e1
          rw [List.set_set] at x4
          obtain ⟨_, _, g9⟩ := bk F1 H1 _ B Go.refl x2
          have hl2 : l ∈ [r] ++ A1 := by
            rcases g9.b l (by simp) with w | w
            · exact List.mem_append_right _ w
            · rw [hH2] at w; cases w
          have gX : Go F1 H1 ([r] ++ A1) F1 (upd H1 l (.lst ((qs ++ [r]).map V.ref))) A' :=
            ⟨fun _ _ z => z, fun a o ha z => by rw [upd_ne (fun w => ha (by rw [w]; exact hl2))]; exact z, fun a z => .inl z, fun a ha => by
              by_cases har : a = r
              · exact .inl (List.mem_append_left _ (by simp [har]))
              · have hm2 : a ∈ (l :: qs) ++ B := by
                  have := h4 a ha
                  simp only [List.cons_append, List.mem_cons, List.mem_append, List.append_assoc, List.nil_append] at this ⊢
                  rcases this with w | w | w | w
                  · exact .inl w
                  · exact .inr (.inl w)
                  · exact absurd (by simpa using w) har
                  · exact .inr (.inr w)
                exact (g9.b a hm2).imp (List.mem_append_right _) id⟩
          exact q1 _ _ _ A' [] (g1.trans gX) x4 ⟨rfl, denN⟩ (by simpa using x4.nd)
        · exact q1.elim
      · exact q1.elim
    · exact q.elim
end
end Eng

set_option Elab.async false
set_option linter.all false
set_option maxRecDepth 100000
set_option maxHeartbeats 4000000
namespace Eng
open PySem PySem.Spec PyProof.Rows L2 RZ
section
variable {Φ : Str → List S → FR} {G : Str → Option D} {fs : Fs} {bs : List Str} {k : Nat} {X : Cx} {W : WX} {fu : Nat} {kp : List Bool}
variable {a b c e o i j : Expr} {es : List Expr} {ea eb ec ees ei ej : E} {pos p p1 p2 : Pos} {x : Str} {n : Nat}
theorem evG_gst {s : S} {en en' : En} (h : evG Φ G (.gst n ei ej) s en = some en') : ∃ rows a en1 r b en2 l, getE en n = some (.mg rows) ∧ opn Φ G ei (en.set n none) = .ok a en1 ∧ gRow rows a = some r ∧ opn Φ G ej en1 = .ok b en2 ∧ gIx r.2 b = some l ∧ en' = en2.set n (some (.mg (rows.set r.1 (r.2.set l (fz s))))) := by
  simp only [evG] at h
  split at h
  · rename_i rows e0
    split at h
    · rename_i a en1 e1
      split at h
      · rename_i r e2
        split at h
        · rename_i b en2 e3
          obtain ⟨l, e4, e5⟩ := Option.map_eq_some_iff.mp h
          exact ⟨rows, a, en1, r, b, en2, l, e0, e1, e2, e3, e4, e5.symm⟩
        · cases h
      · cases h
    · cases h
  · cases h
theorem tg_gst (nm : Nm x) (hN : X.N[n]? = some x) (hv : Vis X.env.scope x) (hi : PE X i (tO Φ G W X.K X.mg ei)) (hj : PE X j (tO Φ G W X.K X.mg ej)) (h1 : PlainIx i := by exact fun _ _ => rfl)
    (ha : ∀ v, assign (.Subscript (.Subscript (.Name x p) i p1) j pos) X.env v = (do
      let ov ← holding [v] (eval (.Subscript (.Name x p) i p1) X.env)
      let iv ← holding [v, ov] (eval j X.env)
      standAt pos
      holding [v, ov, iv] (setItem ov iv v)
      release [v, ov, iv] []) := by intro _; rfl) : PG X (.Subscript (.Subscript (.Name x p) i p1) j pos) (tTg Φ G X.K X.mg kp (.gst n ei ej)) :=
  pgI (pg_sub (pe_ix ix_list (pe_var hN hv nm.d nm.c) hi h1) hj set_list ha) fun v σ H Q ⟨F, en, A, psv, s, en', x, o, nd, e, q⟩ => by
    obtain ⟨rows, t1, en1, r, t2, en2, l, e0, ea, er, eb, el, rfl⟩ := evG_gst e
    obtain ⟨x0, g0⟩ := frz_go x nd fun a ha => (o.here a ha).1
    have dv := o.fz
    refine base_row (Φ := Φ) (G := G) (f := fun r en => R.ok r en) (Qf := fun r' en' => r' = r ∧ en' = en1) (W := W) x0 e0 (by rw [ea]; simp only [R.bind, er]; exact ⟨rfl, rfl⟩) fun p qs q' vs r' en1' F1 H1 A1 e1 er' g1 x1 q1 eq o1 hH d nd1 bk => ?_
    obtain ⟨rfl, rfl⟩ := q1
    refine ⟨F1, en1', A1, x1, ?_⟩
    rw [eb]
    intro w F2 H2 A2 ps2 g2 x2 h2 nd2
    obtain ⟨o2, n2, g3, hH2, d2, hF2⟩ := bk F2 H2 en2 A2 (go_tail g2) x2
    obtain ⟨li, rfl, el⟩ := gIx_some el
    obtain ⟨_, ow⟩ := has_now h2 x2
    refine ⟨q', vs, li, l, rfl, ow.int, hH2, by rw [d2.len]; exact el, ?_⟩
    have dv2 := Den.mono g3.f _ _ dv
    have hq : q' ∈ p :: qs := List.mem_cons_of_mem _ (List.mem_of_getElem? eq)
    have gW : Go F2 H2 [q'] F2 (upd H2 q' (.lst (vs.set l v))) [q'] :=
      ⟨fun _ _ z => z, fun a o ha z => by rw [upd_ne (fun w => ha (by simp [w]))]; exact z, fun a z => .inl z, fun a z => .inl z⟩
    have sbW : Sub F2 (upd H2 q' (.lst (vs.set l v))) := fun a o z => by
      rw [upd_ne (fun w => by rw [w, hF2] at z; cases z)]
      exact x2.sub a o z
    have x3 := x2.go gW sbW fun a ha hb => nodup_dis n2 a (by simp at hb; rw [hb]; exact hq) ha
    obtain ⟨p', qs', e4, e5, hF3, hH3, hR⟩ := o2
    cases e4; cases e5
    have npq := (List.nodup_append.mp n2).1
    have hne : p ≠ q' := fun z => (List.nodup_cons.mp npq).1 (z ▸ List.mem_of_getElem? eq)
    have o3 : Own X.K X.mg F2 (upd H2 q' (.lst (vs.set l v))) (.mg (rows.set r'.1 (r'.2.set l (fz s)))) (.ref p) (p :: qs) :=
      ⟨p, qs, rfl, rfl, hF3, by rw [upd_ne hne]; exact hH3, hR.write (d2.set dv2 l) (List.nodup_cons.mp npq).2 eq hF2⟩
    obtain ⟨A', x4, h4⟩ := x3.setD (i := n) o3 n2 e1
    refine q σ F2 _ A' Kp.refl (g0.trans ?_) x4
    have gX : Go F2 H2 ((p :: qs) ++ A2) F2 (upd H2 q' (.lst (vs.set l v))) A' :=
      ⟨fun _ _ z => z, fun a o ha z => by rw [upd_ne (fun w => ha (by rw [w]; exact List.mem_append_left _ hq))]; exact z, fun a z => .inl z, fun a ha => .inl (h4 a ha)⟩
    exact g3.trans gX
theorem nodup_set {qs : List Addr} {k : Nat} {r : Addr} (h : qs.Nodup) (hr : r ∉ qs) : (qs.set k r).Nodup := by
  induction qs generalizing k with
  | nil => simp
  | cons a l ih =>
    cases k with
    | zero => simp only [List.set_cons_zero]; exact List.nodup_cons.mpr ⟨fun z => hr (List.mem_cons_of_mem _ z), (List.nodup_cons.mp h).2⟩
    | succ k =>
      simp only [List.set_cons_succ]
      refine List.nodup_cons.mpr ⟨fun z => ?_, ih (List.nodup_cons.mp h).2 fun z => hr (List.mem_cons_of_mem _ z)⟩
      rcases List.mem_or_eq_of_mem_set z with w | w
      · exact (List.nodup_cons.mp h).1 w
      · exact hr (by simp [w])
theorem evG_grw {s : S} {en en' : En} (h : evG Φ G (.grw n ei) s en = some en') : ∃ ds rows a en1 r, s = .ml ds ∧ getE en n = some (.mg rows) ∧ opn Φ G ei (en.set n none) = .ok a en1 ∧ gRow rows a = some r ∧ en' = en1.set n (some (.mg (rows.set r.1 ds))) := by
  cases s with
  | ml ds =>
    simp only [evG] at h
    split at h
    · rename_i rows e0
      split at h
      · rename_i a en1 e1
        obtain ⟨r, e4, e5⟩ := Option.map_eq_some_iff.mp h
        exact ⟨ds, rows, a, en1, r, rfl, e0, e1, e4, e5.symm⟩
      · cases h
    · cases h
  | _ => simp [evG] at h
theorem tg_grw (nm : Nm x) (hN : X.N[n]? = some x) (hv : Vis X.env.scope x) (hi : PE X i (tO Φ G W X.K X.mg ei))
    (ha : ∀ v, assign (.Subscript (.Name x p) i pos) X.env v = (do
      let ov ← holding [v] (eval (.Name x p) X.env)
      let iv ← holding [v, ov] (eval i X.env)
      standAt pos
      holding [v, ov, iv] (setItem ov iv v)
      release [v, ov, iv] []) := by intro _; rfl) : PG X (.Subscript (.Name x p) i pos) (tTg Φ G X.K X.mg kp (.grw n ei)) :=
  pgI (pg_sub (pe_var hN hv nm.d nm.c) hi set_list ha) fun v σ H Q ⟨F, en, A, psv, s, en', x, o, nd, e, q⟩ => by
    obtain ⟨ds, rows, t1, en1, r, rfl, e0, ea, er, rfl⟩ := evG_grw e
    obtain ⟨rr, vs, rfl, rfl, hFr, hHr, dr⟩ := o
    obtain ⟨v, ps, B, e1, o2, x2, gB, n2, bk⟩ := x.back e0
    refine ⟨v, e1, F, _, B, x2, ?_⟩
    rw [ea]
    intro w F1 H1 A1 ps1 g1 x1 h1 nd1
    obtain ⟨_, ow⟩ := has_now h1 x1
    have g1' := go_tail g1
    obtain ⟨o3, n3, g3⟩ := bk F1 H1 en1 A1 g1' x1
    obtain ⟨p, qs, q', vs', k, rfl, rfl, hF, hH, hR, rfl, e3, e4, e5, e6, e7, e8⟩ := o3.gRow er
    have hrA : rr ∉ A := fun z => nodup_dis nd rr (by simp) z
    have hrn : H rr ≠ none := by rw [hHr]; simp
    have hr3 : rr ∉ (p :: qs) ++ A1 := fun z => by
      rcases g3.b rr z with w | w
      · exact hrA w
      · exact hrn w
    have hF1 : F1 rr = none := by
      cases ez : F1 rr with
      | none => rfl
      | some u =>
        rcases g3.n rr (by rw [ez]; simp) with z | z | z
        · exact absurd hFr z
        · exact absurd z hrn
        · exact absurd z hrA
    have hH1 : H1 rr = some (.lst vs) := g3.h rr _ hrA hHr
    have dr1 := Dens.mono g3.f _ _ dr
    refine ⟨p, qs.map V.ref, k, r.1, rfl, ow.int, hH, by rw [List.length_map]; exact e3, ?_⟩
    have hm : (qs.map V.ref).set r.1 (V.ref rr) = (qs.set r.1 rr).map V.ref := by rw [List.map_set]
    rw [hm]
    have hrp : rr ≠ p := fun z => hr3 (by simp [z])
    have gW : Go F1 H1 [p] F1 (upd H1 p (.lst ((qs.set r.1 rr).map V.ref))) [p] :=
      ⟨fun _ _ z => z, fun a o ha z => by rw [upd_ne (fun w => ha (by simp [w]))]; exact z, fun a z => .inl z, fun a z => .inl z⟩
    have sbW : Sub F1 (upd H1 p (.lst ((qs.set r.1 rr).map V.ref))) := fun a o z => by
      rw [upd_ne (fun w => by rw [w, hF] at z; cases z)]
      exact x1.sub a o z
    have x3 := x1.go gW sbW fun a ha hb => nodup_dis n3 a (by simp at hb; simp [hb]) ha
    have npq := (List.nodup_append.mp n3).1
    have hsub : ∀ a, a ∈ qs.set r.1 rr → a = rr ∨ a ∈ qs := fun a ha => (List.mem_or_eq_of_mem_set ha).symm
    have hpn : p ∉ qs := (List.nodup_cons.mp npq).1
    have hR2 : Rws X.K X.mg F1 (upd H1 p (.lst ((qs.set r.1 rr).map V.ref))) (rows.set r.1 ds) (qs.set r.1 rr) :=
      (Rws.repl dr1 hF1 hH1 hR).keep (fun _ _ z => z) fun a ha => by
        rcases hsub a ha with z | z
        · rw [z]; exact ⟨hF1, upd_ne hrp⟩
        · exact ⟨(hR.here a z).1, upd_ne fun w => hpn (w ▸ z)⟩
    have o4 : Own X.K X.mg F1 (upd H1 p (.lst ((qs.set r.1 rr).map V.ref))) (.mg (rows.set r.1 ds)) (.ref p) (p :: qs.set r.1 rr) := ⟨p, _, rfl, rfl, hF, upd_same, hR2⟩
    have nset : (qs.set r.1 rr).Nodup := by
      have hq : rr ∉ qs := fun z => hr3 (List.mem_append_left _ (List.mem_cons_of_mem _ z))
      have nq := (List.nodup_cons.mp npq).2
      exact nodup_set nq hq
    have n4 : ((p :: qs.set r.1 rr) ++ A1).Nodup := by
      obtain ⟨m1, m2, m3⟩ := List.nodup_append.mp n3
      refine nodup_mk (List.nodup_cons.mpr ⟨fun z => ?_, nset⟩) m2 fun a ha hb => ?_
      · rcases hsub p z with w | w
        · exact hrp w.symm
        · exact hpn w
      · rcases List.mem_cons.mp ha with z | z
        · exact m3 a (by simp [z]) a hb rfl
        · rcases hsub a z with w | w
          · exact hr3 (List.mem_append_right _ (w ▸ hb))
          · exact m3 a (List.mem_cons_of_mem _ w) a hb rfl
    obtain ⟨A', x4, h4⟩ := x3.setD (i := n) o4 n4 e1
    refine q σ F1 _ A' Kp.refl ?_ x4
    have g4 : Go F H ([rr] ++ A) F1 H1 ([rr] ++ ((p :: qs) ++ A1)) := g3.frame (C := [rr])
    have gX : Go F1 H1 ([rr] ++ ((p :: qs) ++ A1)) F1 (upd H1 p (.lst ((qs.set r.1 rr).map V.ref))) A' :=
      ⟨fun _ _ z => z, fun a o ha z => by rw [upd_ne (fun w => ha (by rw [w]; simp))]; exact z, fun a z => .inl z, fun a ha => .inl (by
        rcases List.mem_append.mp (h4 a ha) with z | z
        · rcases List.mem_cons.mp z with w | w
          · simp [w]
          · rcases hsub a w with u | u
            · simp [u]
            · simp [u]
        · simp [z])⟩
    exact g4.trans gX
/-! ### a walk's turns, whatever the turn does -/
theorem it_it {J : It} {n : Nat} {Gd : Hp → Prop} {Y : Nat → Hp → V → Hp → Prop} {H0 : Hp} {Qd : Hp → Prop} {Bd : V → Hp → (Hp → Prop) → Prop} (w : L2.Walk J n Gd Y) (Pv : Nat → Hp → Prop) (h0 : Pv 0 H0) (hG : ∀ i H, i ≤ n → Pv i H → Gd H)
    (hs : ∀ i x H H', i < n → Pv i H → Y i H x H' → Bd x H' (Pv (i + 1))) (hd : ∀ H, Pv n H → Qd H) :
    ∃ W : Nat → Nat → Hp → Prop, (∃ m, W 0 m H0) ∧ ∀ i m H, W i m H →
      (J.stop i H ∧ Qd H) ∨ (J.go i H ∧ ∃ Nx : Hp → Prop, (∀ H', Nx H' → ∃ m', m' < m ∧ W (i + 1) m' H') ∧ ∀ x H', J.yld i H x H' → Bd x H' Nx) := by
  refine ⟨fun i m H => m = n - i ∧ i ≤ n ∧ Pv i H, ⟨n, by simp, Nat.zero_le _, h0⟩, ?_⟩
  rintro i m H ⟨rfl, hi, p⟩
  have q := hG i H hi p
  by_cases hlt : i < n
  · exact .inr ⟨w.goes i H hlt q, Pv (i + 1), fun H' p' => ⟨n - (i + 1), by omega, rfl, hlt, p'⟩, fun x H' y => hs i x H H' hlt p (w.yields i H x H' hlt q y)⟩
  · have e : i = n := by omega
    subst e
    exact .inl ⟨w.stops H q, hd H p⟩
end
end Eng

set_option Elab.async false
set_option linter.all false
set_option maxRecDepth 100000
set_option maxHeartbeats 4000000
namespace Eng
open PySem PySem.Spec PyProof.Rows L2 RZ
section
variable {Φ : Str → List S → FR} {G : Str → Option D} {fs : Fs} {bs : List Str} {k : Nat} {X : Cx} {W : WX} {fu : Nat} {kp : List Bool}
/-- a new row behind a grid at D -/
theorem grid_snoc {K : PySem.W.Frag} {mg : Str → Option Value} {F H : Hp} {σ : L2.St} {en : En} {A qs : List Addr} {p r : Addr} {rows : List (List D)} {ds : List D} {vs : List V} (x : Sok K mg F H σ en A) (o : Own K mg F H (.mg rows) (.ref p) (p :: qs)) (n : ((p :: qs) ++ ([r] ++ A)).Nodup)
    (hF : F r = none) (hH : H r = some (.lst vs)) (d : Dens K mg F ds vs) :
    H p = some (.lst (qs.map V.ref)) ∧ qs.length = rows.length ∧ Sok K mg F (upd H p (.lst (qs.map V.ref ++ [V.ref r]))) σ en A ∧ Own K mg F (upd H p (.lst (qs.map V.ref ++ [V.ref r]))) (.mg (rows ++ [ds])) (.ref p) (p :: (qs ++ [r])) ∧ ((p :: (qs ++ [r])) ++ A).Nodup ∧
      Go F H ((p :: qs) ++ ([r] ++ A)) F (upd H p (.lst (qs.map V.ref ++ [V.ref r]))) ((p :: (qs ++ [r])) ++ A) := by
  obtain ⟨p', qs', e1, e2, hFp, hHp, hR⟩ := o
  cases e1; cases e2
  have e9 : (p :: (qs ++ [r])) ++ A = (p :: qs) ++ ([r] ++ A) := by simp
  have hm : qs.map V.ref ++ [V.ref r] = (qs ++ [r]).map V.ref := by simp
  rw [hm, e9]
  obtain ⟨m1, m2, m3⟩ := List.nodup_append.mp n
  have hrp : r ≠ p := fun z => m3 p (by simp) r (by simp) z.symm
  have hpq := (List.nodup_cons.mp m1).1
  have gW : Go F H [p] F (upd H p (.lst ((qs ++ [r]).map V.ref))) [p] :=
    ⟨fun _ _ z => z, fun a o ha z => by rw [upd_ne (fun w => ha (by simp [w]))]; exact z, fun a z => .inl z, fun a z => .inl z⟩
  have sbW : Sub F (upd H p (.lst ((qs ++ [r]).map V.ref))) := fun a o z => by
    rw [upd_ne (fun w => by rw [w, hFp] at z; cases z)]
    exact x.sub a o z
  have hR2 : Rws K mg F (upd H p (.lst ((qs ++ [r]).map V.ref))) (rows ++ [ds]) (qs ++ [r]) :=
    (Rws.snoc d hF hH hR).keep (fun _ _ z => z) fun a ha => by
      have hap : a ≠ p := fun z => by
        rcases List.mem_append.mp ha with w | w
        · exact hpq (z ▸ w)
        · simp at w; exact hrp (w ▸ z)
      refine ⟨?_, upd_ne hap⟩
      rcases List.mem_append.mp ha with w | w
      · exact (hR.here a w).1
      · simp at w; rw [w]; exact hF
  refine ⟨hHp, hR.len, x.go gW sbW fun a ha hb => ?_, ⟨p, _, rfl, rfl, hFp, upd_same, hR2⟩, n, ?_⟩
  · simp at hb
    exact m3 p (by simp) a (List.mem_append_right _ ha) hb.symm
  · exact ⟨fun _ _ z => z, fun a o ha z => by rw [upd_ne (fun w => ha (by simp [w]))]; exact z, fun a z => .inl z, fun a z => .inl z⟩
theorem lg_tr {eelt src eifs : E} {tgs vs : List Nat} {one : Bool} {kk : IK} (hin : tgs.all (fun i => vs.contains i) = true) {σ : L2.St} {H : Hp} {Q : VK} (q : tI Φ G W X.K X.mg (.lcg eelt tgs one kk src eifs vs) σ H Q) :
    tLc (tIK Φ G W X.K X.mg kk src) (tG X.K one tgs) (tIi Φ G WF X.K X.mg eifs) (tI Φ G WF X.K X.mg eelt) vs σ H Q := by
  have hin : ∀ i, i ∈ tgs → i ∈ vs := fun i hi => by simpa using List.all_eq_true.mp hin i hi
  obtain ⟨F, en, A, s, q⟩ := q
  simp only [ev] at q
  refine ⟨F, en, A, s, q.next.mono fun ss en1 q1 => ?_⟩
  split at q1
  · rename_i xs hxs
    refine ⟨xs, hxs, fun F' H' A' J g x w => fun D hD => ?_⟩
    obtain ⟨Y, wk, hy⟩ := w
    generalize hfdef : lgF (fun x1 x2 => setD x1 tgs one x2) (fun en2 => evi Φ G eifs en2) (fun en3 => ev Φ G eelt en3) vs = f at q1
    cases hL : loopL f xs [] (Eng.wipeE en1 vs) with
    | stuck => rw [hL] at q1; exact q1.elim
    | exc c d e => rw [hL] at q1; exact q1.elim
    | ok accf enf =>
      rw [hL] at q1
      have q1 : ∀ v F'' H'' A'' ps, Go F H A F'' H'' (ps ++ A'') → Sok X.K X.mg F'' H'' σ (restE en1 enf vs) A'' → Own X.K X.mg F'' H'' (.mg accf) v ps → (ps ++ A'').Nodup → Q v H'' := q1
      have sb0 := sub_own hD x.sub (.lst [])
      obtain ⟨y, nd0, g0⟩ := x.grown (go_own hD (.lst [])) sb0 (by simp)
      obtain ⟨B0, y1, hB0⟩ := y.wipeE vs
      have y2 := y1.wiped (σ' := wipe σ vs) (wipe_wipe σ vs)
      refine lc_it wk (fun i H2 => ∃ F1 en2 A1 acc qs, Sok X.K X.mg F1 H2 (wipe σ vs) en2 A1 ∧ Sub F' F1 ∧ Own X.K X.mg F1 H2 (.mg acc) (.ref D) (D :: qs) ∧ ((D :: qs) ++ A1).Nodup ∧ Go F' H' A' F1 H2 ((D :: qs) ++ A1) ∧ loopL f (xs.drop i) acc en2 = .ok accf enf) ?_ ?_ ?_ ?_
      · refine ⟨F', _, B0, [], [], y2, fun _ _ h => h, ⟨D, [], rfl, rfl, sub_none hD x.sub, upd_same, by simp [Rws]⟩, nodup_mk (by simp) y2.nd fun a ha hb => nodup_dis nd0 a ha (hB0 a hb), g0.sub fun a ha => ?_, by simpa using hL⟩
        rcases List.mem_append.mp ha with z | z
        · exact List.mem_append_left _ z
        · exact List.mem_append_right _ (hB0 a z)
      · rintro i H2 _ ⟨F1, en2, A1, acc, qs, x1, s1, _⟩
        exact fun a o e => x1.sub a o (s1 a o e)
      · rintro i v H2 H3 hlt ⟨F1, en2, A1, acc, qs, x1, s1, o1, n1, g1, hl⟩ yv
        obtain ⟨d, F2, e, g2, sb2, dv⟩ := hy i H2 v H3 F1 x1.sub s1 yv
        have hdrop : xs.drop i = d :: xs.drop (i + 1) := by
          rw [List.drop_eq_getElem_cons hlt]
          rw [List.getElem?_eq_getElem hlt] at e
          rw [Option.some.inj e]
        rw [hdrop] at hl
        simp only [loopL] at hl
        cases hf : f acc d en2 with
        | stuck => rw [hf] at hl; cases hl
        | exc c d e => rw [hf] at hl; cases hl
        | ok acc' en' =>
          rw [hf] at hl
          have hl : loopL f (xs.drop (i + 1)) acc' en' = .ok accf enf := hl
          rw [← hfdef] at hf
          unfold lgF at hf
          dsimp only at hf
          split at hf
          · rename_i en3 e3
            have x2 : Sok X.K X.mg F2 H3 (wipe σ vs) en2 A1 := x1.go g2 sb2 fun _ _ z => nomatch z
            have gA : Go F1 H2 A1 F2 H3 A1 := by
              have := g2.frame (C := A1)
              rwa [List.append_nil] at this
            have dis := nodup_dis n1
            refine tG_ok x2 dv e3 fun σ' A2 x3 h3 w => ⟨by rw [w vs hin, wipe_wipe], ?_⟩
            have hw : wipe σ' vs = wipe σ vs := by rw [w vs hin, wipe_wipe]
            have gB : Go F1 H2 A1 F2 H3 A2 := gA.sub h3
            refine ⟨F2, en3, A2, x3, ?_⟩
            cases hb : evi Φ G eifs en3 with
            | stuck => rw [hb] at hf; cases hf
            | exc c d e => rw [hb] at hf; cases hf
            | ok b en4 =>
              rw [hb] at hf
              intro F3 H4 A3 g4 x4
              cases b with
              | false =>
                rw [if_neg (by simp)]
                have hf : R.ok acc (Eng.wipeE en4 vs) = .ok acc' en' := hf
                cases hf
                have gC := gB.trans g4
                obtain ⟨B, x5, hB⟩ := x4.wipeE vs
                have x6 := x5.wiped (σ' := wipe σ vs) (by rw [wipe_wipe, hw])
                have dd := dis_go gC dis fun a ha => (o1.here a ha).2
                refine ⟨F3, _, B, acc, qs, x6, fun a o e => gC.f a o (s1 a o e), o1.go gC dis, nodup_mk (List.nodup_append.mp n1).1 x6.nd fun a ha hb => dd a ha (hB a hb), (g1.trans (gC.frame (C := D :: qs))).sub fun a ha => ?_, hl⟩
                rcases List.mem_append.mp ha with z | z
                · exact List.mem_append_left _ z
                · exact List.mem_append_right _ (hB a z)
              | true =>
                rw [if_pos rfl]
                refine ⟨F3, en4, A3, x4, ?_⟩
                cases hv : ev Φ G eelt en4 with
                | stuck => simp only [R.bind, hv] at hf; cases hf
                | exc c d e => simp only [R.bind, hv] at hf; cases hf
                | ok t en5 =>
                  simp only [R.bind, hv, if_true] at hf
                  split at hf
                  · rename_i ds
                    split at hf
                    · rename_i hz
                      cases hf
                      intro u F4 H5 A4 ps g5 x5 o nd
                      obtain ⟨r, rvs, rfl, rfl, hFr, hHr, dr⟩ := o
                      have gC := (gB.trans g4).trans g5
                      have o2 := o1.go gC dis
                      have dd := dis_go gC dis fun a ha => (o1.here a ha).2
                      have n2 : ((D :: qs) ++ ([r] ++ A4)).Nodup := nodup_mk (List.nodup_append.mp n1).1 nd dd
                      obtain ⟨hp, hlen, x6, o3, n3, g6⟩ := grid_snoc x5 o2 n2 hFr hHr dr
                      obtain ⟨B, x7, hB⟩ := x6.wipeE vs
                      have x8 := x7.wiped (σ' := wipe σ vs) (by rw [wipe_wipe, hw])
                      refine ⟨qs.map V.ref, hp, by rw [List.length_map, hlen, ← SZ_eq]; exact hz, F4, _, B, acc ++ [ds], qs ++ [r], x8, fun a o e => gC.f a o (s1 a o e), o3, nodup_mk (List.nodup_append.mp n3).1 x8.nd fun a ha hb => nodup_dis n3 a ha (hB a hb), ?_, hl⟩
                      refine ((g1.trans (gC.frame (C := D :: qs))).trans g6).sub fun a ha => ?_
                      rcases List.mem_append.mp ha with z | z
                      · exact List.mem_append_left _ z
                      · exact List.mem_append_right _ (hB a z)
                    · cases hf
                  · cases hf
          · cases hf
      · rintro H2 ⟨F1, en2, A1, acc, qs, x1, s1, o1, n1, g1, hl⟩
        rw [List.drop_length] at hl
        have hl : R.ok acc en2 = R.ok accf enf := hl
        cases hl
        obtain ⟨B, x2, hB⟩ := x1.wipeE vs
        have x3 := x2.wiped (σ' := σ) (wipe_wipe σ vs).symm
        obtain ⟨C, x4, hC⟩ := x3.restD (old := en1) (fun i d e => by
          obtain ⟨v, ps, e1, o, _⟩ := x.own e
          exact ⟨v, e1, Den.mono s1 _ _ o.2⟩) vs
        refine q1 (.ref D) F1 H2 C (D :: qs) ((g.trans g1).sub fun a ha => ?_) x4 o1 ?_
        · rcases List.mem_append.mp ha with z | z
          · exact List.mem_append_left _ z
          · exact List.mem_append_right _ (hB a (hC a z))
        · exact nodup_mk (List.nodup_append.mp n1).1 x4.nd fun a ha hb => nodup_dis n1 a ha (hB a (hC a hb))
  · exact q1.elim
variable {tg : Expr} {x : Str}
theorem so_lcg {elt tg iter : Expr} {ifs : List Expr} {scope : Scope} {own : List (Str × Nat)} {pos : Pos} {eelt src eifs : E} {tgs : List Nat} {one : Bool} {kk : IK} (cok : Cok Φ G fs bs k X W) (hi : PI X tg iter (tIK Φ G W X.K X.mg kk src)) (ok : BlkOk X.N X.env.scope scope own)
    (hg : ∀ (s : Shared) (H : Hp) (C : Addr) (cl : List (Str × Addr)) (fp : List Addr), PG (X.blk s H scope (compEnvC scope cl C X.env) fp) tg (tG X.K one tgs))
    (ht : ∀ (s : Shared) (H : Hp) (C : Addr) (cl : List (Str × Addr)) (fp : List Addr), Cok Φ G fs bs k (X.blk s H scope (compEnvC scope cl C X.env) fp) WF → PTs (X.blk s H scope (compEnvC scope cl C X.env) fp) ifs (tIi Φ G WF X.K X.mg eifs))
    (he : ∀ (s : Shared) (H : Hp) (C : Addr) (cl : List (Str × Addr)) (fp : List Addr), Cok Φ G fs bs k (X.blk s H scope (compEnvC scope cl C X.env) fp) WF → PE (X.blk s H scope (compEnvC scope cl C X.env) fp) elt (tI Φ G WF X.K X.mg eelt))
    (hin : tgs.all (fun i => (own.map (·.2)).contains i) = true := by rfl) (hs : ∀ x, foldedSetIterable iter X.env x = pure x := by intro _; rfl) :
    PE X (.ListComp elt [⟨tg, iter, ifs, 0⟩] scope pos) (tI Φ G W X.K X.mg (.lcg eelt tgs one kk src eifs (own.map (·.2)))) :=
  peI (pe_lc cok.calm cok.nd hi ok hg (fun s H C cl fp => ht s H C cl fp (cok.blk ..)) (fun s H C cl fp => he s H C cl fp (cok.blk ..)) hs) fun σ H Q q => lg_tr hin q
theorem sp_lcg {i : Nat} {y : Str} {py : Pos} {elt iter : Expr} {ifs : List Expr} {scope : Scope} {own : List (Str × Nat)} {spos pos : Pos} {eelt src eifs : E} {tgs : List Nat} {one : Bool} {kk : IK} (cok : Cok Φ G fs bs k X W) (hy : X.N[i]? = some y) (hyl : X.env.scope.names.lookup y = some .local)
    (hsw : swapsWith (.ListComp elt [⟨tg, iter, ifs, 0⟩] scope pos) (some (.Name y py)) spos.line X.env = pure true) (hi : PI X tg iter (tIK Φ G W X.K X.mg kk src)) (ok : BlkOk X.N X.env.scope scope own)
    (hg : ∀ (s : Shared) (H : Hp) (C : Addr) (cl : List (Str × Addr)) (fp : List Addr), PG (X.blk s H scope (compEnvC scope cl C X.env) fp) tg (tG X.K one tgs))
    (ht : ∀ (s : Shared) (H : Hp) (C : Addr) (cl : List (Str × Addr)) (fp : List Addr), Cok Φ G fs bs k (X.blk s H scope (compEnvC scope cl C X.env) fp) WF → PTs (X.blk s H scope (compEnvC scope cl C X.env) fp) ifs (tIi Φ G WF X.K X.mg eifs))
    (he : ∀ (s : Shared) (H : Hp) (C : Addr) (cl : List (Str × Addr)) (fp : List Addr), Cok Φ G fs bs k (X.blk s H scope (compEnvC scope cl C X.env) fp) WF → PE (X.blk s H scope (compEnvC scope cl C X.env) fp) elt (tI Φ G WF X.K X.mg eelt))
    (hin : tgs.all (fun i => (own.map (·.2)).contains i) = true := by rfl) (hk : kp.getD i false = false := by rfl) (hs : ∀ x, foldedSetIterable iter X.env x = pure x := by intro _; rfl) :
    PS X (.Assign [.Name y py] (.ListComp elt [⟨tg, iter, ifs, 0⟩] scope pos) spos) (tP Φ G W X.K X.mg fu kp (.asg (.nm i) (.lcg eelt tgs one kk src eifs (own.map (·.2))))) :=
  psI (ps_setLc cok.calm cok.nd hy hyl hsw hi ok hg (fun s H C cl fp => ht s H C cl fp (cok.blk ..)) (fun s H C cl fp => he s H C cl fp (cok.blk ..)) hs) fun D σ H q =>
    lg_tr hin (tI_mono (asg_ok q) fun v H1 h => tTg_nm hk h)
/-! ### two sources -/
theorem wipe_sub {σ : L2.St} {vs1 vs : List Nat} (h : ∀ i, i ∈ vs1 → i ∈ vs) : wipe (wipe σ vs1) vs = wipe σ vs := by
  apply List.ext_getElem?
  intro i
  have none_at : ∀ {σ : L2.St} {vs : List Nat}, i ∈ vs → i < σ.length → (wipe σ vs)[i]? = some none := by
    intro σ vs
    induction vs with
    | nil => intro h; cases h
    | cons v vs ih =>
      intro h hl
      unfold wipe
      by_cases hv : v = i
      · subst hv; rw [List.getElem?_set_self (by rw [wipe_length]; exact hl)]
      · rw [List.getElem?_set_ne hv]
        exact ih (by rcases List.mem_cons.mp h with z | z; exact absurd z.symm hv; exact z) hl
  by_cases hi : i ∈ vs
  · by_cases hl : i < σ.length
    · rw [none_at hi (by rw [wipe_length]; exact hl), none_at hi hl]
    · rw [List.getElem?_eq_none (by rw [wipe_length, wipe_length]; omega), List.getElem?_eq_none (by rw [wipe_length]; omega)]
  · rw [wipe_ne hi, wipe_ne hi, wipe_ne fun z => hi (h i z)]
theorem l2_tr {eelt src eifs src2 eifs2 : E} {tgs vs tgs2 vs1 : List Nat} {one one2 : Bool} {kk kk2 : IK} (hin : tgs.all (fun i => vs.contains i) = true) (hin2 : tgs2.all (fun i => vs1.contains i) = true) (hin3 : vs1.all (fun i => vs.contains i) = true) {σ : L2.St} {H : Hp} {Q : VK}
    (q : tI Φ G W X.K X.mg (.lc2 eelt tgs one kk src eifs tgs2 one2 kk2 src2 eifs2 vs vs1) σ H Q) :
    tLc2 (tIK Φ G W X.K X.mg kk src) (tG X.K one tgs) (tIi Φ G WF X.K X.mg eifs) (tIK Φ G WF X.K X.mg kk2 src2) (tG X.K one2 tgs2) (tIi Φ G WF X.K X.mg eifs2) (tI Φ G WF X.K X.mg eelt) vs vs1 σ H Q := by
  have hin : ∀ i, i ∈ tgs → i ∈ vs := fun i hi => by simpa using List.all_eq_true.mp hin i hi
  have hin2 : ∀ i, i ∈ tgs2 → i ∈ vs1 := fun i hi => by simpa using List.all_eq_true.mp hin2 i hi
  have hin3 : ∀ i, i ∈ vs1 → i ∈ vs := fun i hi => by simpa using List.all_eq_true.mp hin3 i hi
  obtain ⟨F, en, A, s, q⟩ := q
  simp only [ev] at q
  refine ⟨F, en, A, s, q.next.mono fun ss en1 q1 => ?_⟩
  split at q1
  · rename_i xs hxs
    refine ⟨xs, hxs, fun F' H' A' J g x w => fun D hD => ?_⟩
    obtain ⟨Y, wk, hy⟩ := w
    generalize htn : lcF (fun x1 x2 => setD x1 tgs2 one2 x2) (fun en2 => evi Φ G eifs2 en2) (fun en3 => ev Φ G eelt en3) vs1 = tn at q1
    generalize hfdef : l2F (fun x1 x2 => setD x1 tgs one x2) (fun en2 => evi Φ G eifs en2) (fun en3 => evs Φ G src2 en3) kk2 tn vs vs1 = f at q1
    cases hL : loopL f xs [] (Eng.wipeE en1 vs) with
    | stuck => rw [hL] at q1; exact q1.elim
    | exc c d e => rw [hL] at q1; exact q1.elim
    | ok accf enf =>
      rw [hL] at q1
      have q1 : ∀ v F'' H'' A'' ps, Go F H A F'' H'' (ps ++ A'') → Sok X.K X.mg F'' H'' σ (restE en1 enf vs) A'' → Own X.K X.mg F'' H'' (.ml accf) v ps → (ps ++ A'').Nodup → Q v H'' := q1
      have sb0 := sub_own hD x.sub (.lst [])
      obtain ⟨y, nd0, g0⟩ := x.grown (go_own hD (.lst [])) sb0 (by simp)
      obtain ⟨B0, y1, hB0⟩ := y.wipeE vs
      have y2 := y1.wiped (σ' := wipe σ vs) (wipe_wipe σ vs)
      refine it_it wk (fun i H2 => ∃ F1 en2 A1 acc accV, Sok X.K X.mg F1 H2 (wipe σ vs) en2 A1 ∧ Sub F' F1 ∧ F1 D = none ∧ D ∉ A1 ∧ H2 D = some (.lst accV) ∧ Dens X.K X.mg F1 acc accV ∧ Go F' H' A' F1 H2 ([D] ++ A1) ∧ loopL f (xs.drop i) acc en2 = .ok accf enf) ?_ ?_ ?_ ?_
      · refine ⟨F', _, B0, [], [], y2, fun _ _ h => h, sub_none hD x.sub, fun z => nodup_dis nd0 D (by simp) (hB0 D z), upd_same, Dens.nil, g0.sub fun a ha => ?_, by simpa using hL⟩
        rcases List.mem_append.mp ha with z | z
        · exact List.mem_append_left _ z
        · exact List.mem_append_right _ (hB0 a z)
      · rintro i H2 _ ⟨F1, en2, A1, acc, accV, x1, s1, _⟩
        exact fun a o e => x1.sub a o (s1 a o e)
      · rintro i v H2 H3 hlt ⟨F1, en2, A1, acc, accV, x1, s1, fD, nD, hDl, dA, g1, hl⟩ yv
        obtain ⟨d, F2, e, g2, sb2, dv⟩ := hy i H2 v H3 F1 x1.sub s1 yv
        have hdrop : xs.drop i = d :: xs.drop (i + 1) := by
          rw [List.drop_eq_getElem_cons hlt]
          rw [List.getElem?_eq_getElem hlt] at e
          rw [Option.some.inj e]
        rw [hdrop] at hl
        simp only [loopL] at hl
        cases hf : f acc d en2 with
        | stuck => rw [hf] at hl; cases hl
        | exc c d e => rw [hf] at hl; cases hl
        | ok acc' en' =>
          rw [hf] at hl
          have hl : loopL f (xs.drop (i + 1)) acc' en' = .ok accf enf := hl
          rw [← hfdef] at hf
          unfold l2F at hf
          dsimp only at hf
          split at hf
          · rename_i en3 e3
            have x2 : Sok X.K X.mg F2 H3 (wipe σ vs) en2 A1 := x1.go g2 sb2 fun _ _ z => nomatch z
            have gA : Go F1 H2 A1 F2 H3 A1 := by
              have := g2.frame (C := A1)
              rwa [List.append_nil] at this
            refine tG_ok x2 dv e3 fun σ' A2 x3 h3 w => ⟨by rw [w vs hin, wipe_wipe], ?_⟩
            have hw : wipe σ' vs = wipe σ vs := by rw [w vs hin, wipe_wipe]
            have gB : Go F1 H2 A1 F2 H3 A2 := gA.sub h3
            refine ⟨F2, en3, A2, x3, ?_⟩
            cases hb : evi Φ G eifs en3 with
            | stuck => rw [hb] at hf; cases hf
            | exc c d e => rw [hb] at hf; cases hf
            | ok b en4 =>
              rw [hb] at hf
              intro F3 H4 A3 g4 x4
              cases b with
              | false =>
                rw [if_neg (by simp)]
                have hf : R.ok acc (Eng.wipeE en4 vs) = .ok acc' en' := hf
                cases hf
                have gC := gB.trans g4
                obtain ⟨f5, n5, h5⟩ := keepD gC fD nD hDl
                obtain ⟨B, x5, hB⟩ := x4.wipeE vs
                have x6 := x5.wiped (σ' := wipe σ vs) (by rw [wipe_wipe, hw])
                refine ⟨F3, _, B, acc, accV, x6, fun a o e => gC.f a o (s1 a o e), f5, fun z => n5 (hB D z), h5, Dens.mono gC.f _ _ dA, (g1.trans (gC.frame (C := [D]))).sub fun a ha => ?_, hl⟩
                rcases List.mem_append.mp ha with z | z
                · exact List.mem_append_left _ z
                · exact List.mem_append_right _ (hB a z)
              | true =>
                rw [if_pos rfl]
                refine ⟨F3, en4, A3, x4, ?_⟩
                cases hv : evs Φ G src2 en4 with
                | stuck => simp only [R.bind, hv] at hf; cases hf
                | exc c d e => simp only [R.bind, hv] at hf; cases hf
                | ok ss2 en5 =>
                  simp only [R.bind, hv, if_true] at hf
                  split at hf
                  · rename_i ys hys
                    cases hL1 : loopL tn ys acc (Eng.wipeE en5 vs1) with
                    | stuck => rw [hL1] at hf; cases hf
                    | exc c d e => rw [hL1] at hf; cases hf
                    | ok acc1 en6 =>
                      rw [hL1] at hf
                      have hf : R.ok acc1 (Eng.wipeE en6 vs) = .ok acc' en' := hf
                      cases hf
                      refine ⟨ys, hys, fun F4 H5 A4 J1 g5 x5 w1 => ?_⟩
                      obtain ⟨Y1, wk1, hy1⟩ := w1
                      have gC := (gB.trans g4).trans g5
                      obtain ⟨f5, n5, h5⟩ := keepD gC fD nD hDl
                      obtain ⟨B5, x6, hB5⟩ := x5.wipeE vs1
                      have x7 := x6.wiped (σ' := wipe σ' vs1) (wipe_wipe σ' vs1)
                      refine it_it wk1 (fun j Hj => ∃ Fj enj Aj accj accVj, Sok X.K X.mg Fj Hj (wipe σ' vs1) enj Aj ∧ Sub F4 Fj ∧ Fj D = none ∧ D ∉ Aj ∧ Hj D = some (.lst accVj) ∧ Dens X.K X.mg Fj accj accVj ∧ Go F4 H5 ([D] ++ A4) Fj Hj ([D] ++ Aj) ∧ loopL tn (ys.drop j) accj enj = .ok acc' en6) ?_ ?_ ?_ ?_
                      · refine ⟨F4, _, B5, acc, accV, x7, fun _ _ h => h, f5, fun z => n5 (hB5 D z), h5, Dens.mono gC.f _ _ dA, Go.refl.sub fun a ha => ?_, by simpa using hL1⟩
                        rcases List.mem_append.mp ha with z | z
                        · exact List.mem_append_left _ z
                        · exact List.mem_append_right _ (hB5 a z)
                      · rintro j Hj _ ⟨Fj, enj, Aj, accj, accVj, xj, sj, _⟩
                        exact fun a o e => xj.sub a o (sj a o e)
                      · rintro j v2 Hj Hk hlt2 ⟨Fj, enj, Aj, accj, accVj, xj, sj, fDj, nDj, hDj, dAj, gj, hlj⟩ yv2
                        obtain ⟨d2, Fk, e2, gk, sbk, dv2⟩ := hy1 j Hj v2 Hk Fj xj.sub sj yv2
                        have hdrop2 : ys.drop j = d2 :: ys.drop (j + 1) := by
                          rw [List.drop_eq_getElem_cons hlt2]
                          rw [List.getElem?_eq_getElem hlt2] at e2
                          rw [Option.some.inj e2]
                        rw [hdrop2] at hlj
                        simp only [loopL] at hlj
                        cases hft : tn accj d2 enj with
                        | stuck => rw [hft] at hlj; cases hlj
                        | exc c d e => rw [hft] at hlj; cases hlj
                        | ok accn enn =>
                          rw [hft] at hlj
                          have hlj : loopL tn (ys.drop (j + 1)) accn enn = .ok acc' en6 := hlj
                          rw [← htn] at hft
                          unfold lcF at hft
                          dsimp only at hft
                          split at hft
                          · rename_i en7 e7
                            have xk : Sok X.K X.mg Fk Hk (wipe σ' vs1) enj Aj := xj.go gk sbk fun _ _ z => nomatch z
                            have gAk : Go Fj Hj Aj Fk Hk Aj := by
                              have := gk.frame (C := Aj)
                              rwa [List.append_nil] at this
                            refine tG_ok xk dv2 e7 fun σ2 A8 x8 h8 w2 => ⟨by rw [w2 vs1 hin2, wipe_wipe], ?_⟩
                            have hw2 : wipe σ2 vs1 = wipe σ' vs1 := by rw [w2 vs1 hin2, wipe_wipe]
                            have gBk : Go Fj Hj Aj Fk Hk A8 := gAk.sub h8
                            refine ⟨Fk, en7, A8, x8, ?_⟩
                            cases hb2 : evi Φ G eifs2 en7 with
                            | stuck => rw [hb2] at hft; cases hft
                            | exc c d e => rw [hb2] at hft; cases hft
                            | ok b2 en8 =>
                              rw [hb2] at hft
                              intro F9 H9 A9 g9 x9
                              cases b2 with
                              | false =>
                                rw [if_neg (by simp)]
                                have hft : R.ok accj (Eng.wipeE en8 vs1) = .ok accn enn := hft
                                cases hft
                                have gD := gBk.trans g9
                                obtain ⟨f10, n10, h10⟩ := keepD gD fDj nDj hDj
                                obtain ⟨B, x10, hB⟩ := x9.wipeE vs1
                                have x11 := x10.wiped (σ' := wipe σ' vs1) (by rw [wipe_wipe, hw2])
                                refine ⟨F9, _, B, accj, accVj, x11, fun a o e => gD.f a o (sj a o e), f10, fun z => n10 (hB D z), h10, Dens.mono gD.f _ _ dAj, (gj.trans (gD.frame (C := [D]))).sub fun a ha => ?_, hlj⟩
                                rcases List.mem_append.mp ha with z | z
                                · exact List.mem_append_left _ z
                                · exact List.mem_append_right _ (hB a z)
                              | true =>
                                rw [if_pos rfl]
                                refine ⟨F9, en8, A9, x9, ?_⟩
                                cases hv2 : ev Φ G eelt en8 with
                                | stuck => simp only [R.bind, hv2] at hft; cases hft
                                | exc c d e => simp only [R.bind, hv2] at hft; cases hft
                                | ok t en9 =>
                                  simp only [R.bind, hv2, if_true] at hft
                                  split at hft
                                  · rename_i hz
                                    cases hft
                                    intro u F10 H10 A10 ps g10 x10 o nd
                                    obtain ⟨x11, g11⟩ := frz_go x10 nd fun a ha => (o.here a ha).1
                                    have gD := (gBk.trans g9).trans (g10.trans g11)
                                    obtain ⟨f12, n12, h12⟩ := keepD gD fDj nDj hDj
                                    have du := o.fz
                                    have dA2 := Dens.mono gD.f _ _ dAj
                                    obtain ⟨B, x12, hB⟩ := x11.wipeE vs1
                                    have x13 := x12.wiped (σ' := wipe σ' vs1) (by rw [wipe_wipe, hw2])
                                    have gW : Go (frz F10 H10 ps) H10 [D] (frz F10 H10 ps) (upd H10 D (.lst (accVj ++ [u]))) [D] :=
                                      ⟨fun _ _ z => z, fun a o ha z => by rw [upd_ne (fun w => ha (by simp [w]))]; exact z, fun a z => .inl z, fun a z => .inl z⟩
                                    have sbW : Sub (frz F10 H10 ps) (upd H10 D (.lst (accVj ++ [u]))) := fun a o z => by
                                      rw [upd_ne (fun w => by rw [w, f12] at z; cases z)]
                                      exact x13.sub a o z
                                    have x14 := x13.go gW sbW fun a ha hb => by
                                      have : a = D := by simpa using hb
                                      subst this
                                      exact n12 (hB a ha)
                                    refine ⟨accVj, h12, by rw [dAj.len, ← SZ_eq]; exact hz, frz F10 H10 ps, _, B, accj ++ [fz t], accVj ++ [u], x14, fun a o e => gD.f a o (sj a o e), f12, fun z => n12 (hB D z), upd_same, dA2.append (Dens.cons du Dens.nil), ?_, hlj⟩
                                    have gX := gj.trans (gD.frame (C := [D]))
                                    have gY : Go (frz F10 H10 ps) H10 ([D] ++ A10) (frz F10 H10 ps) (upd H10 D (.lst (accVj ++ [u]))) ([D] ++ A10) :=
                                      ⟨gW.f, fun a o ha z => gW.h a o (fun w => ha (List.mem_append_left _ w)) z, fun a z => .inl z, fun a z => .inl z⟩
                                    refine (gX.trans gY).sub fun a ha => ?_
                                    rcases List.mem_append.mp ha with z | z
                                    · exact List.mem_append_left _ z
                                    · exact List.mem_append_right _ (hB a z)
                                  · cases hft
                          · cases hft
                      · rintro Hj ⟨Fj, enj, Aj, accj, accVj, xj, sj, fDj, nDj, hDj, dAj, gj, hlj⟩
                        rw [List.drop_length] at hlj
                        have hlj : R.ok accj enj = R.ok acc' en6 := hlj
                        cases hlj
                        obtain ⟨B, x8, hB⟩ := xj.wipeE vs
                        have x9 := x8.wiped (σ' := wipe σ vs) (by rw [wipe_wipe, wipe_sub hin3, hw])
                        refine ⟨Fj, _, B, acc', accVj, x9, fun a o e => sj a o (gC.f a o (s1 a o e)), fDj, fun z => nDj (hB D z), hDj, dAj, ((g1.trans (gC.frame (C := [D]))).trans gj).sub fun a ha => ?_, hl⟩
                        rcases List.mem_append.mp ha with z | z
                        · exact List.mem_append_left _ z
                        · exact List.mem_append_right _ (hB a z)
                  · cases hf
          · cases hf
      · rintro H2 ⟨F1, en2, A1, acc, accV, x1, s1, fD, nD, hDl, dA, g1, hl⟩
        rw [List.drop_length] at hl
        have hl : R.ok acc en2 = R.ok accf enf := hl
        cases hl
        obtain ⟨B, x2, hB⟩ := x1.wipeE vs
        have x3 := x2.wiped (σ' := σ) (wipe_wipe σ vs).symm
        obtain ⟨C, x4, hC⟩ := x3.restD (old := en1) (fun i d e => by
          obtain ⟨v, ps, e1, o, _⟩ := x.own e
          exact ⟨v, e1, Den.mono s1 _ _ o.2⟩) vs
        refine q1 (.ref D) F1 H2 C [D] ((g.trans g1).sub fun a ha => ?_) x4 ⟨D, accV, rfl, rfl, fD, hDl, dA⟩ ?_
        · rcases List.mem_append.mp ha with z | z
          · exact List.mem_append_left _ z
          · exact List.mem_append_right _ (hB a (hC a z))
        · exact nodup_mk (by simp) x4.nd fun a ha hb => by
            have : a = D := by simpa using ha
            subst this
            exact nD (hB a (hC a hb))
  · exact q1.elim
theorem so_lc2 {elt tg iter tg1 iter1 : Expr} {ifs ifs1 : List Expr} {scope : Scope} {own : List (Str × Nat)} {pos : Pos} {eelt src eifs src2 eifs2 : E} {tgs tgs2 : List Nat} {one one2 : Bool} {kk kk2 : IK} (cok : Cok Φ G fs bs k X W) (hi : PI X tg iter (tIK Φ G W X.K X.mg kk src)) (ok : BlkOk X.N X.env.scope scope own)
    (hg : ∀ (s : Shared) (H : Hp) (C : Addr) (cl : List (Str × Addr)) (fp : List Addr), PG (X.blk s H scope (compEnvC scope cl C X.env) fp) tg (tG X.K one tgs))
    (ht : ∀ (s : Shared) (H : Hp) (C : Addr) (cl : List (Str × Addr)) (fp : List Addr), Cok Φ G fs bs k (X.blk s H scope (compEnvC scope cl C X.env) fp) WF → PTs (X.blk s H scope (compEnvC scope cl C X.env) fp) ifs (tIi Φ G WF X.K X.mg eifs))
    (hi1 : ∀ (s : Shared) (H : Hp) (C : Addr) (cl : List (Str × Addr)) (fp : List Addr), Cok Φ G fs bs k (X.blk s H scope (compEnvC scope cl C X.env) fp) WF → PI (X.blk s H scope (compEnvC scope cl C X.env) fp) tg1 iter1 (tIK Φ G WF X.K X.mg kk2 src2))
    (hg1 : ∀ (s : Shared) (H : Hp) (C : Addr) (cl : List (Str × Addr)) (fp : List Addr), PG (X.blk s H scope (compEnvC scope cl C X.env) fp) tg1 (tG X.K one2 tgs2))
    (ht1 : ∀ (s : Shared) (H : Hp) (C : Addr) (cl : List (Str × Addr)) (fp : List Addr), Cok Φ G fs bs k (X.blk s H scope (compEnvC scope cl C X.env) fp) WF → PTs (X.blk s H scope (compEnvC scope cl C X.env) fp) ifs1 (tIi Φ G WF X.K X.mg eifs2))
    (he : ∀ (s : Shared) (H : Hp) (C : Addr) (cl : List (Str × Addr)) (fp : List Addr), Cok Φ G fs bs k (X.blk s H scope (compEnvC scope cl C X.env) fp) WF → PE (X.blk s H scope (compEnvC scope cl C X.env) fp) elt (tI Φ G WF X.K X.mg eelt))
    (hin : tgs.all (fun i => (own.map (·.2)).contains i) = true := by rfl) (hin3 : tgs2.all (fun i => (own.map (·.2)).contains i) = true := by rfl) (hs : ∀ x, foldedSetIterable iter X.env x = pure x := by intro _; rfl) (hs1 : ∀ env x, foldedSetIterable iter1 env x = pure x := by intro _ _; rfl) :
    PE X (.ListComp elt [⟨tg, iter, ifs, 0⟩, ⟨tg1, iter1, ifs1, 0⟩] scope pos) (tI Φ G W X.K X.mg (.lc2 eelt tgs one kk src eifs tgs2 one2 kk2 src2 eifs2 (own.map (·.2)) tgs2)) :=
  peI (pe_lc2 cok.calm cok.nd hi ok (fun i hi => by simpa using List.all_eq_true.mp hin3 i hi) hg (fun s H C cl fp => ht s H C cl fp (cok.blk ..)) (fun s H C cl fp => hi1 s H C cl fp (cok.blk ..)) hg1 (fun s H C cl fp => ht1 s H C cl fp (cok.blk ..)) (fun s H C cl fp => he s H C cl fp (cok.blk ..)) hs hs1) fun σ H Q q => l2_tr hin (by simp) hin3 q
theorem sp_lc2 {i : Nat} {y : Str} {py : Pos} {elt iter tg1 iter1 : Expr} {ifs ifs1 : List Expr} {scope : Scope} {own : List (Str × Nat)} {spos pos : Pos} {eelt src eifs src2 eifs2 : E} {tgs tgs2 : List Nat} {one one2 : Bool} {kk kk2 : IK} (cok : Cok Φ G fs bs k X W) (hy : X.N[i]? = some y) (hyl : X.env.scope.names.lookup y = some .local)
    (hsw : swapsWith (.ListComp elt [⟨tg, iter, ifs, 0⟩, ⟨tg1, iter1, ifs1, 0⟩] scope pos) (some (.Name y py)) spos.line X.env = pure true) (hi : PI X tg iter (tIK Φ G W X.K X.mg kk src)) (ok : BlkOk X.N X.env.scope scope own)
    (hg : ∀ (s : Shared) (H : Hp) (C : Addr) (cl : List (Str × Addr)) (fp : List Addr), PG (X.blk s H scope (compEnvC scope cl C X.env) fp) tg (tG X.K one tgs))
    (ht : ∀ (s : Shared) (H : Hp) (C : Addr) (cl : List (Str × Addr)) (fp : List Addr), Cok Φ G fs bs k (X.blk s H scope (compEnvC scope cl C X.env) fp) WF → PTs (X.blk s H scope (compEnvC scope cl C X.env) fp) ifs (tIi Φ G WF X.K X.mg eifs))
    (hi1 : ∀ (s : Shared) (H : Hp) (C : Addr) (cl : List (Str × Addr)) (fp : List Addr), Cok Φ G fs bs k (X.blk s H scope (compEnvC scope cl C X.env) fp) WF → PI (X.blk s H scope (compEnvC scope cl C X.env) fp) tg1 iter1 (tIK Φ G WF X.K X.mg kk2 src2))
    (hg1 : ∀ (s : Shared) (H : Hp) (C : Addr) (cl : List (Str × Addr)) (fp : List Addr), PG (X.blk s H scope (compEnvC scope cl C X.env) fp) tg1 (tG X.K one2 tgs2))
    (ht1 : ∀ (s : Shared) (H : Hp) (C : Addr) (cl : List (Str × Addr)) (fp : List Addr), Cok Φ G fs bs k (X.blk s H scope (compEnvC scope cl C X.env) fp) WF → PTs (X.blk s H scope (compEnvC scope cl C X.env) fp) ifs1 (tIi Φ G WF X.K X.mg eifs2))
    (he : ∀ (s : Shared) (H : Hp) (C : Addr) (cl : List (Str × Addr)) (fp : List Addr), Cok Φ G fs bs k (X.blk s H scope (compEnvC scope cl C X.env) fp) WF → PE (X.blk s H scope (compEnvC scope cl C X.env) fp) elt (tI Φ G WF X.K X.mg eelt))
    (hin : tgs.all (fun i => (own.map (·.2)).contains i) = true := by rfl) (hin3 : tgs2.all (fun i => (own.map (·.2)).contains i) = true := by rfl) (hk : kp.getD i false = false := by rfl) (hs : ∀ x, foldedSetIterable iter X.env x = pure x := by intro _; rfl) (hs1 : ∀ env x, foldedSetIterable iter1 env x = pure x := by intro _ _; rfl) :
    PS X (.Assign [.Name y py] (.ListComp elt [⟨tg, iter, ifs, 0⟩, ⟨tg1, iter1, ifs1, 0⟩] scope pos) spos) (tP Φ G W X.K X.mg fu kp (.asg (.nm i) (.lc2 eelt tgs one kk src eifs tgs2 one2 kk2 src2 eifs2 (own.map (·.2)) tgs2))) :=
  psI (ps_setLc2 cok.calm cok.nd hy hyl hsw hi ok (fun i hi => by simpa using List.all_eq_true.mp hin3 i hi) hg (fun s H C cl fp => ht s H C cl fp (cok.blk ..)) (fun s H C cl fp => hi1 s H C cl fp (cok.blk ..)) hg1 (fun s H C cl fp => ht1 s H C cl fp (cok.blk ..)) (fun s H C cl fp => he s H C cl fp (cok.blk ..)) hs hs1) fun D σ H q =>
    l2_tr hin (by simp) hin3 (tI_mono (asg_ok q) fun v H1 h => tTg_nm hk h)
end
end Eng

set_option Elab.async false
set_option linter.all false
set_option maxRecDepth 100000
set_option maxHeartbeats 4000000
namespace Eng
open PySem PySem.Spec PyProof.Rows L2 RZ
/-! ### a loop over a name, in place -/
def kpS (kp : List Bool) (x : Nat) : List Bool := (List.range (max kp.length (x + 1))).map fun i => i == x || kp.getD i false
theorem kpS_x {kp : List Bool} {x : Nat} : (kpS kp x)[x]? = some true := by
  unfold kpS
  rw [List.getElem?_map, List.getElem?_range (by omega)]
  simp
theorem kpS_i {kp : List Bool} {x i : Nat} (h : kp[i]? = some true) : (kpS kp x)[i]? = some true := by
  have hi := (List.getElem?_eq_some_iff.mp h).1
  unfold kpS
  rw [List.getElem?_map, List.getElem?_range (by omega)]
  simp [h]
theorem Kp.less {kp : List Bool} {x : Nat} {σ σ' : L2.St} (h : Kp (kpS kp x) σ σ') : Kp kp σ σ' := ⟨h.1, fun i hi => h.2 i (kpS_i hi)⟩
section
variable {K : PySem.W.Frag} {mg : Str → Option Value} {W : WX} {kp : List Bool} {dd : Ends} {σ : L2.St} {F H : Hp} {A B ps : List Addr} {en : En} {x : Nat} {s : S} {v : V}
theorem RnS.unput {r : RS} (e1 : σ[x]? = some (some v)) (hO : Own K mg F H s v ps) (nd : (ps ++ B).Nodup) (hA : ∀ a, a ∈ ps ++ B → a ∈ A) (q : RnS K mg W kp dd σ F H A (putB x s r)) : RnS K mg W (kpS kp x) dd σ F H B r := by
  have dis := nodup_dis nd
  have wide : ∀ {F' H' : Hp} {C : List Addr}, Go F H B F' H' C → Go F H A F' H' (ps ++ C) := fun {F' H' C} g => (g.frame (C := ps)).wide hA
  have back : ∀ {σ' : L2.St} {F' H' : Hp} {en' : En} {A' : List Addr}, Kp (kpS kp x) σ σ' → Go F H B F' H' A' → Sok K mg F' H' σ' en' A' → ∃ A2, Sok K mg F' H' σ' (en'.set x (some s)) A2 ∧ Go F H A F' H' A2 ∧ ∀ a, a ∈ A2 → a ∈ ps ++ A' := by
    intro σ' F' H' en' A' k g y
    have o2 := hO.go g dis
    have n2 : (ps ++ A').Nodup := nodup_mk (List.nodup_append.mp nd).1 y.nd (dis_go g dis fun a ha => (hO.here a ha).2)
    obtain ⟨A2, y2, h2⟩ := y.setD (i := x) o2 n2 (by rw [k.2 x kpS_x]; exact e1)
    exact ⟨A2, y2, (wide g).sub h2, h2⟩
  cases r with
  | nx en' =>
    intro σ' F' H' A' k g y
    obtain ⟨A2, y2, g2, _⟩ := back k g y
    exact q σ' F' H' A2 k.less g2 y2
  | bk en' =>
    intro σ' F' H' A' k g y
    obtain ⟨A2, y2, g2, _⟩ := back k g y
    exact q σ' F' H' A2 k.less g2 y2
  | ct en' =>
    intro σ' F' H' A' k g y
    obtain ⟨A2, y2, g2, _⟩ := back k g y
    exact q σ' F' H' A2 k.less g2 y2
  | exc c d en' =>
    intro cls ad σ' F' H' A' k g y xo
    obtain ⟨A2, y2, g2, _⟩ := back k g y
    exact q cls ad σ' F' H' A2 k.less g2 y2 xo
  | rt t en' =>
    intro w σ' F' H' A' qs k g y o nd2
    have gA : Go F H B F' H' A' := go_tail g
    obtain ⟨A2, y2, g2, h2⟩ := back k gA y
    have dq := dis_go g dis fun a ha => (hO.here a ha).2
    refine q w σ' F' H' A2 qs k.less ((wide g).sub fun a ha => ?_) y2 o (nodup_mk (List.nodup_append.mp nd2).1 y2.nd fun a ha hb => ?_)
    · rcases List.mem_append.mp ha with z | z
      · exact List.mem_append_right _ (List.mem_append_left _ z)
      · rcases List.mem_append.mp (h2 a z) with w | w
        · exact List.mem_append_left _ w
        · exact List.mem_append_right _ (List.mem_append_right _ w)
    · rcases List.mem_append.mp (h2 a hb) with z | z
      · exact dq a z (List.mem_append_left _ ha)
      · exact nodup_dis nd2 a ha z
  | stuck => exact q
end
/-- a walk over what a name has -/
def IWo (K : PySem.W.Frag) (mg : Str → Option Value) (F H : Hp) (ps : List Addr) (xs : List D) (J : It) : Prop :=
  ∃ Y, L2.Walk J xs.length (fun H2 => Sub F H2 ∧ ∀ q, q ∈ ps → H2 q = H q) Y ∧ ∀ i H1 v H2 F1, Sub F1 H1 → Sub F F1 → Y i H1 v H2 → ∃ d F', xs[i]? = some d ∧ Go F1 H1 [] F' H2 [] ∧ Sub F' H2 ∧ Den K mg F' d v
section
variable {K : PySem.W.Frag} {mg : Str → Option Value} {F H : Hp} {ds : List D} {vs : List V} {a : Addr} {ps : List Addr}
theorem iwo_list (h : ∀ H2 : Hp, Sub F H2 → (∀ q, q ∈ ps → H2 q = H q) → SqL K H2 a vs) (d : Dens K mg F ds vs) : IWo K mg F H ps ds (Itl K a) :=
  ⟨YAt vs, by rw [← d.len]; exact walk_list.mono (fun H2 s => h H2 s.1 s.2) fun _ _ _ _ _ _ y => y, fun i H1 v H2 F1 sb s2 y => at_item d sb s2 y⟩
theorem iwo_tup (h : ∀ H2 : Hp, Sub F H2 → (∀ q, q ∈ ps → H2 q = H q) → SqT K H2 a vs) (d : Dens K mg F ds vs) : IWo K mg F H ps ds (Itt K a) :=
  ⟨YAt vs, by rw [← d.len]; exact walk_tup.mono (fun H2 s => h H2 s.1 s.2) fun _ _ _ _ _ _ y => y, fun i H1 v H2 F1 sb s2 y => at_item d sb s2 y⟩
theorem iwo_enumL (h : ∀ H2 : Hp, Sub F H2 → (∀ q, q ∈ ps → H2 q = H q) → SqL K H2 a vs) (d : Dens K mg F ds vs) : IWo K mg F H ps (enumD 0 ds) (Ite K a) :=
  ⟨_, by rw [enumD_len, ← d.len]; exact walk_enum.mono (fun H2 s => h H2 s.1 s.2) fun _ _ _ _ _ _ y => y, fun i H1 v H2 F1 sb s2 y => enum_item d sb s2 y⟩
theorem iwo_enumT (h : ∀ H2 : Hp, Sub F H2 → (∀ q, q ∈ ps → H2 q = H q) → SqT K H2 a vs) (d : Dens K mg F ds vs) : IWo K mg F H ps (enumD 0 ds) (IteT K a) :=
  ⟨_, by rw [enumD_len, ← d.len]; exact walk_enumT.mono (fun H2 s => h H2 s.1 s.2) fun _ _ _ _ _ _ y => y, fun i H1 v H2 F1 sb s2 y => enum_item d sb s2 y⟩
/-- what a name has, a list or a tuple, while it stays -/
theorem own_L {s : S} {v : V} (o : Own K mg F H s v ps) (sb : Sub F H) (e : vL s = some ds) : ∃ a vs, v = .ref a ∧ Dens K mg F ds vs ∧ SqL K H a vs ∧ ∀ H2 : Hp, Sub F H2 → (∀ q, q ∈ ps → H2 q = H q) → SqL K H2 a vs := by
  cases s with
  | dat d =>
    obtain ⟨a, vs, e1, h1, h2⟩ := Own.vL (F := F) (H := F) (s := .dat d) (ps := []) ⟨rfl, o.2⟩ (fun _ _ h => h) e
    exact ⟨a, vs, e1, h2, SqL_mono sb h1, fun H2 s2 _ => SqL_mono s2 h1⟩
  | ml xs =>
    simp only [vL, Option.some.injEq] at e
    subst e
    obtain ⟨p, vs, rfl, rfl, h1, h2, h3⟩ := o
    exact ⟨p, vs, rfl, h3, .inl (.inl h2), fun H2 _ k => .inl (.inl (by rw [k p (by simp)]; exact h2))⟩
  | mg rows => simp [vL] at e
  | md ks ws => simp [vL] at e
theorem own_T {s : S} {v : V} (o : Own K mg F H s v ps) (sb : Sub F H) (e : vT s = some ds) : ∃ a vs, v = .ref a ∧ Dens K mg F ds vs ∧ SqT K H a vs ∧ ∀ H2 : Hp, Sub F H2 → (∀ q, q ∈ ps → H2 q = H q) → SqT K H2 a vs := by
  cases s with
  | dat d =>
    obtain ⟨a, vs, e1, h1, h2⟩ := Own.vT (F := F) (H := F) (s := .dat d) (ps := []) ⟨rfl, o.2⟩ (fun _ _ h => h) e
    exact ⟨a, vs, e1, h2, SqT_mono sb h1, fun H2 s2 _ => SqT_mono s2 h1⟩
  | _ => simp [vT] at e
end
section
variable {Φ : Str → List S → FR} {G : Str → Option D} {fs : Fs} {bs : List Str} {k : Nat} {X : Cx} {W : WX} {fu : Nat} {kp : List Bool}
variable {a b c e tg : Expr} {es : List Expr} {pos p : Pos} {x : Str} {n : Nat} {sts : List Stmt} {pa : P}
def tIV (K : PySem.W.Frag) (mg : Str → Option Value) (k : IK) (n : Nat) : TI := fun σ H R => ∃ F en A s xs, Sok K mg F H σ en A ∧ getE en n = some s ∧ itD k [s] = some xs ∧
  ∀ v ps J, σ[n]? = some (some v) → Own K mg F H s v ps → IWo K mg F H ps xs J → R J H
theorem iv_seq (nm : Nm x) (hN : X.N[n]? = some x) (hv : Vis X.env.scope x) : PI X tg (.Name x p) (tIV X.K X.mg .seq n) := piC fun σ H R ⟨F, en, A, s, xs, sk, eg, ei, q⟩ => by
  obtain ⟨v, ps, e1, o, _⟩ := sk.own eg
  have ei : vSq s = some xs := ei
  cases ht : vL s with
  | some ds =>
    have := vSq_L ht
    rw [ei] at this; cases this
    obtain ⟨a, vs, rfl, d, h1, h2⟩ := own_L o sk.sub ht
    exact ⟨_, pi_list (pe_var hN hv nm.d nm.c), _, e1, a, rfl, ⟨vs, h1⟩, q _ ps _ e1 o (iwo_list h2 d)⟩
  | none =>
    cases ht2 : vT s with
    | some ds =>
      have := vSq_T ht2
      rw [ei] at this; cases this
      obtain ⟨a, vs, rfl, d, h1, h2⟩ := own_T o sk.sub ht2
      exact ⟨_, pi_tup (pe_var hN hv nm.d nm.c), _, e1, a, rfl, ⟨vs, h1⟩, q _ ps _ e1 o (iwo_tup h2 d)⟩
    | none => rw [vSq_N ht ht2] at ei; cases ei
theorem iv_enum {elts : List Expr} {kk : Nat} {tpos p3 : Pos} {y : Str} (cok : Cok Φ G fs bs k X W) (hy : y = "enumerate") (hb' : y ∈ bs) (hg : Gl X y) (nm : Nm x) (hN : X.N[n]? = some x) (hv : Vis X.env.scope x) (hs : starEach [.Name x p] X.env = [(false, eval (.Name x p) X.env)] := by rfl) :
    PI X (.Tuple elts kk tpos) (.Call (.Name y pos) [.Name x p] [] p3) (tIV X.K X.mg .enum n) := by
  subst hy
  have hm := cok.wd.bl _ hb'
  have pa := pa_cons (pe_var hN hv nm.d nm.c) (pa_nil (X := X)) hs
  refine piC fun σ H R ⟨F, en, A, s, xs, sk, eg, ei, q⟩ => ?_
  obtain ⟨v, ps, e1, o, _⟩ := sk.own eg
  obtain ⟨ds, e2, rfl⟩ := Option.map_eq_some_iff.mp (show (vSq s).map (enumD 0) = some xs from ei)
  cases ht : vL s with
  | some ds' =>
    have := vSq_L ht
    rw [e2] at this; cases this
    obtain ⟨a, vs, rfl, d, h1, h2⟩ := own_L o sk.sub ht
    exact ⟨_, pi_enum hg hm pa hs, _, e1, a, vs, rfl, h1, q _ ps _ e1 o (iwo_enumL h2 d)⟩
  | none =>
    cases ht2 : vT s with
    | some ds' =>
      have := vSq_T ht2
      rw [e2] at this; cases this
      obtain ⟨a, vs, rfl, d, h1, h2⟩ := own_T o sk.sub ht2
      exact ⟨_, pi_enumT hg hm pa hs, _, e1, a, vs, rfl, h1, q _ ps _ e1 o (iwo_enumT h2 d)⟩
    | none => rw [vSq_N ht ht2] at e2; cases e2
theorem sp_forv {iter : Expr} {tgs : List Nat} {one : Bool} {kk : IK} (hp : PassesOwn (model X.prog X.w) X.A X.env X.xe) (cal : X.calm = true) (hi : PI X tg iter (tIV X.K X.mg kk n)) (hg : PG X tg (tG X.K one tgs)) (hb : PSs X sts (tP Φ G W X.K X.mg fu (kpS kp n) pa))
    (hk : tgs.all (fun i => (kpS kp n).getD i false == false) = true := by rfl) (hs : ∀ x, foldedSetIterable iter X.env x = pure x := by intro _; rfl) : PS X (.For tg iter sts [] pos) (tP Φ G W X.K X.mg fu kp (.forv tgs one kk n pa)) :=
  psI (ps_for hp cal hi hg hb hs) fun D σ H ⟨F, en, A, s, q⟩ => by
    simp only [evS] at q
    split at q
    · rename_i t eg
      split at q
      · rename_i xs hxs
        obtain ⟨v, ps, B, e1, o, x2, pm⟩ := s.take eg
        have nd := pm.nodup_iff.mp s.nd
        have q := q.unput e1 o nd fun a ha => pm.mem_iff.mpr ha
        refine ⟨F, en, A, t, xs, s, eg, hxs, fun v' ps' J e1' o' w => ?_⟩
        rw [e1] at e1'; cases e1'
        have hps : ∀ q, q ∈ ps' → q ∈ ps := by
          cases t with
          | dat d => rw [o'.1]; intro q hq; cases hq
          | ml ds =>
            obtain ⟨p1, _, r1, r2, _⟩ := o
            obtain ⟨p2, _, r3, r4, _⟩ := o'
            rw [r1] at r3; cases r3
            rw [r2, r4]; exact fun _ h => h
          | md ks ws =>
            obtain ⟨p1, r1, r2, _⟩ := o
            obtain ⟨p2, r3, r4, _⟩ := o'
            rw [r1] at r3; cases r3
            rw [r2, r4]; exact fun _ h => h
          | mg rows =>
            exfalso
            cases kk <;> simp [itD, vSq] at hxs
        have dis := nodup_dis nd
        obtain ⟨Y, wk, hy⟩ := w
        generalize hf : (fun d en => match setD en tgs one d with
          | some en => evS Φ G fu pa en
          | none => RS.stuck) = f at q
        refine for_it wk (fun i σ1 H1 => ∃ F1 en1 A1, Sok X.K X.mg F1 H1 σ1 en1 A1 ∧ Go F H B F1 H1 A1 ∧ RnS X.K X.mg W (kpS kp n) D σ1 F1 H1 A1 (loopF f (xs.drop i) en1)) ?_ ?_ ?_ ?_
        · exact ⟨F, _, B, x2, Go.refl, q⟩
        · rintro i σ1 H1 _ ⟨F1, en1, A1, x1, g1, _⟩
          refine ⟨fun a o e => x1.sub a o (g1.f a o e), fun q hq => ?_⟩
          obtain ⟨_, hh⟩ := o.here q (hps q hq)
          obtain ⟨u, hu⟩ := Option.ne_none_iff_exists'.mp hh
          rw [hu]
          exact g1.h q u (dis q (hps q hq)) hu
        · rintro i v σ1 H1 H2 hlt ⟨F1, en1, A1, x1, g1, q2⟩ yv
          obtain ⟨d, F2, e, g2, sb2, dv⟩ := hy i H1 v H2 F1 x1.sub g1.f yv
          have hdrop : xs.drop i = d :: xs.drop (i + 1) := by
            rw [List.drop_eq_getElem_cons hlt]
            rw [List.getElem?_eq_getElem hlt] at e
            rw [Option.some.inj e]
          rw [hdrop] at q2
          simp only [loopF] at q2
          have x2 : Sok X.K X.mg F2 H2 σ1 en1 A1 := x1.go g2 sb2 fun _ _ z => nomatch z
          have gA : Go F1 H1 A1 F2 H2 A1 := by
            have := g2.frame (C := A1)
            rwa [List.append_nil] at this
          have e1 : f d en1 = match setD en1 tgs one d with
            | some en => evS Φ G fu pa en
            | none => .stuck := by rw [← hf]
          cases e2 : setD en1 tgs one d with
          | none =>
            rw [e2] at e1
            rw [e1] at q2
            exact q2.elim
          | some en2 =>
            rw [e2] at e1
            have e1 : f d en1 = evS Φ G fu pa en2 := e1
            rw [e1] at q2
            refine tG_ok x2 dv e2 fun σ2 A2 x3 h3 w => ⟨F2, en2, A2, x3, ?_⟩
            have kk := kp_of (w tgs fun _ h => h) hk
            have gB := gA.sub h3
            have gF := g1.trans gB
            cases hr : evS Φ G fu pa en2 with
            | stuck => rw [hr] at q2; exact q2.elim
            | nx en3 => rw [hr] at q2; exact fun σ' F3 H3 A3 k3 g3 x4 => ⟨F3, en3, A3, x4, gF.trans g3, q2.go (kk.trans k3) (gB.trans g3)⟩
            | ct en3 => rw [hr] at q2; exact fun σ' F3 H3 A3 k3 g3 x4 => ⟨F3, en3, A3, x4, gF.trans g3, q2.go (kk.trans k3) (gB.trans g3)⟩
            | bk en3 => rw [hr] at q2; exact fun σ' F3 H3 A3 k3 g3 x4 => q2 σ' F3 H3 A3 (kk.trans k3) (gB.trans g3) x4
            | rt t en3 => rw [hr] at q2; exact fun v σ' F3 H3 A3 ps k3 g3 x4 o nd => q2 v σ' F3 H3 A3 ps (kk.trans k3) (gB.trans g3) x4 o nd
            | exc c d en3 => rw [hr] at q2; exact fun cls ad σ' F3 H3 A3 k3 g3 x4 xo => q2 cls ad σ' F3 H3 A3 (kk.trans k3) (gB.trans g3) x4 xo
        · rintro σ1 H1 ⟨F1, en1, A1, x1, g1, q2⟩
          rw [List.drop_length] at q2
          exact q2 σ1 F1 H1 A1 Kp.refl Go.refl x1
      · exact q.elim
    · exact q.elim
end
end Eng

set_option Elab.async false
set_option linter.all false
set_option maxRecDepth 100000
set_option maxHeartbeats 4000000
namespace Eng
open PySem PySem.Spec PyProof.Rows L2 RZ
def spLaw (K : PySem.W.Frag) (n : Nat) : Sp := fun vs H Q _ => ∃ (a : Addr) (ns : List Int), vs = [.ref a] ∧ SqL K H a (ns.map V.int) ∧ ns.length ≤ n ∧ ∀ H', Q (.bl true) H'
theorem law_imp {K : PySem.W.Frag} {mg : Str → Option Value} {n : Nat} {Φ : List S → FR} (h : ∀ ns : List Int, ns.length ≤ n → ∃ fin, Φ [.dat (.scr ns)] = .ret (.dat (.bl true)) fin) : ∀ vs H Q E, spLaw K n vs H Q E → spF K mg Φ 1 vs H Q E := by
  rintro vs H Q E ⟨a, ns, rfl, hs, hl, q⟩
  obtain ⟨fin, h⟩ := h ns hl
  refine ⟨H, [.dat (.scr ns)], [], rfl, fun _ _ h => h, ?_, List.nodup_nil, ?_⟩
  · simp only [List.map_cons, List.map_nil, OwE]
    refine ⟨.ref a, [], [], [], rfl, rfl, ⟨rfl, ?_⟩, rfl, rfl⟩
    simp only [Den]
    exact ⟨a, rfl, hs⟩
  · rw [h]
    intro v F' H' ps B _ _ o _ _
    rw [o.bl]
    exact q H'
theorem lookup_all {α : Type} {Q : Str → α → Prop} : ∀ {l : List (Str × α)}, (∀ p, p ∈ l → Q p.1 p.2) → ∀ {x : Str} {d : α}, l.lookup x = some d → Q x d
  | [], _, _, _, e => by cases e
  | p :: l, h, x, d, e => by
    rw [List.lookup_cons] at e
    by_cases hx : x == p.1
    · rw [hx] at e
      cases e
      have : x = p.1 := by simpa using hx
      rw [this]
      exact h p List.mem_cons_self
    · have hx : (x == p.1) = false := by simpa using hx
      rw [hx] at e
      exact lookup_all (fun q hq => h q (List.mem_cons_of_mem _ hq)) e
theorem gl_int {K : PySem.W.Frag} {mg : Str → Option Value} {x : Str} {i : Int} {t : Tok} (h : mg x = some (.int i t)) : ∃ v u, mg x = some u ∧ RelV v u ∧ ∀ F, Den K mg F (.int i) v := ⟨.int i, _, h, ⟨t, rfl⟩, fun _ => denI⟩
theorem gl_fn {K : PySem.W.Frag} {mg : Str → Option Value} {x : Str} {a : Addr} (h : mg x = some (.ref a)) : ∃ v u, mg x = some u ∧ RelV v u ∧ ∀ F, Den K mg F (.fn x) v := ⟨.ref a, _, h, rfl, fun _ => by simp only [Den]; exact ⟨a, rfl, h⟩⟩
theorem gl_str {K : PySem.W.Frag} {mg : Str → Option Value} {x : Str} {i : Str} {t : Tok} (h : mg x = some (.str i t)) : ∃ v u, mg x = some u ∧ RelV v u ∧ ∀ F, Den K mg F (.str i) v := ⟨.str i, _, h, ⟨t, rfl⟩, fun _ => denS⟩
theorem gl_tup {K : PySem.W.Frag} {mg : Str → Option Value} {x : Str} {a : Addr} {dd : Option Addr} {its : List Value} {n : Nat} {sl : Array (Option Value)} {ds : List D} {vs : List V} (h : mg x = some (.ref a)) (l : K.lookup a = some ⟨.type "tuple", dd, .seq its.toArray n, sl⟩) (hz : its.length ≤ 1000) (r : Vals vs its) (d : ∀ F, Dens K mg F ds vs) : ∃ v u, mg x = some u ∧ RelV v u ∧ ∀ F, Den K mg F (.tup ds) v := by
  refine ⟨.ref a, _, h, rfl, fun F => ?_⟩
  simp only [Den]
  refine ⟨a, vs, rfl, .inr ⟨_, its.toArray, n, l, rfl, rfl, ?_, ?_⟩, d F⟩
  · simp; rw [sizeLine_eq]; omega
  · simpa using r
theorem fa_nil {α : Type} {Q : α → Prop} : ∀ p, p ∈ ([] : List α) → Q p := fun _ h => nomatch h
theorem fa_cons {α : Type} {Q : α → Prop} {a : α} {l : List α} (h : Q a) (t : ∀ p, p ∈ l → Q p) : ∀ p, p ∈ a :: l → Q p := fun p hp => by
  rcases List.mem_cons.mp hp with e | e
  · rw [e]; exact h
  · exact t p e
end Eng

set_option Elab.async false
set_option linter.all false
set_option maxRecDepth 100000
set_option maxHeartbeats 4000000
namespace Eng
open PySem PySem.Spec PyProof.Rows L2 RZ
/-! ### running the small language: what follows is named, so that simp works at what is ready alone -/
section
variable (Φ : Str → List S → FR) (G : Str → Option D) (fu : Nat)
def kOf : Option S → En → R S | some a, en => .ok a en | none, _ => .stuck
def kOfB : Option Bool → En → R Bool | some a, en => .ok a en | none, _ => .stuck
def kB (o : Option Bool) : Option S := o.map fun b => .dat (.bl b)
def kBin (o : Operator) (a b : E) (r : R S) : R S := r.bind fun x en => (opn Φ G b en).bind fun y en => R.of ((reg a x en).bind fun x => binS o x y) en
def kBin2 (o : Operator) (a : E) (x : S) (r : R S) : R S := r.bind fun y en => R.of ((reg a x en).bind fun x => binS o x y) en
def kBin3 (o : Operator) (y : S) : Option S → Option S | some x => binS o x y | none => none
def kNeg (r : R S) : R S := r.bind fun x en => match x with | .dat (.int i) => .ok (.dat (.int (-i))) en | _ => .stuck
def kCmp (o : CmpOp) (a b : E) (r : R S) : R S := r.bind fun x en => (opn Φ G b en).bind fun y en => R.of ((reg a x en).bind fun x => (cmpS o x y).map fun b => .dat (.bl b)) en
def kCmp2 (o : CmpOp) (a : E) (x : S) (r : R S) : R S := r.bind fun y en => R.of ((reg a x en).bind fun x => (cmpS o x y).map fun b => .dat (.bl b)) en
def kCmp3 (o : CmpOp) (y : S) : Option S → Option Bool | some x => cmpS o x y | none => none
def kChn (o p : CmpOp) (b c : E) (r : R S) : R S := r.bind fun x en => (ev Φ G b en).bind fun y en => match cmpS o x y with
    | some true => (ev Φ G c en).bind fun z en => R.of ((cmpS p y z).map fun b => .dat (.bl b)) en
    | some false => .ok (.dat (.bl false)) en
    | none => .stuck
def kChn2 (o p : CmpOp) (c : E) (x : S) (r : R S) : R S := r.bind fun y en => match cmpS o x y with
    | some true => (ev Φ G c en).bind fun z en => R.of ((cmpS p y z).map fun b => .dat (.bl b)) en
    | some false => .ok (.dat (.bl false)) en
    | none => .stuck
def kChn3 (p : CmpOp) (c : E) (y : S) (en : En) : Option Bool → R S
  | some true => (ev Φ G c en).bind fun z en => R.of ((cmpS p y z).map fun b => .dat (.bl b)) en
  | some false => .ok (.dat (.bl false)) en
  | none => .stuck
def kChn4 (p : CmpOp) (y : S) (r : R S) : R S := r.bind fun z en => R.of ((cmpS p y z).map fun b => .dat (.bl b)) en
def kAnd (b : E) (r : R S) : R S := r.bind fun x en => match truD x with
    | some true => ev Φ G b en
    | some false => .ok x en
    | none => .stuck
def kAnd2 (b : E) (x : S) (en : En) : Option Bool → R S
  | some true => ev Φ G b en
  | some false => .ok x en
  | none => .stuck
def kOr (b : E) (r : R S) : R S := r.bind fun x en => match truD x with
    | some true => .ok x en
    | some false => ev Φ G b en
    | none => .stuck
def kOr2 (b : E) (x : S) (en : En) : Option Bool → R S
  | some true => .ok x en
  | some false => ev Φ G b en
  | none => .stuck
def kNot (r : R S) : R S := r.bind fun x en => R.of ((truD x).map fun b => .dat (.bl !b)) en
def kNot2 (o : Option Bool) : Option S := o.map fun b => .dat (.bl !b)
def kIfe (a b : E) (r : R Bool) : R S := r.bind fun k en => if k then ev Φ G a en else ev Φ G b en
def kIfe2 (a b : E) (en : En) : Bool → R S | true => ev Φ G a en | false => ev Φ G b en
def kTup (r : R (List S)) : R S := r.bind fun ss en => if ss.length ≤ SZ then .ok (.dat (.tup (ss.map fz))) en else .stuck
def kLst (r : R (List S)) : R S := r.bind fun ss en => if ss.length ≤ SZ then .ok (.ml (ss.map fz)) en else .stuck
def kDic (kk : List Key) (r : R (List S)) : R S := r.bind fun ss en => if ss.length = kk.length then .ok (.md (kk.map kD) (ss.map fz)) en else .stuck
def kIx (a i : E) (r : R S) : R S := r.bind fun x en => (opn Φ G i en).bind fun y en => R.of ((reg a x en).bind fun x => (ixS x y).map .dat) en
def kIx2 (a : E) (x : S) (r : R S) : R S := r.bind fun y en => R.of ((reg a x en).bind fun x => (ixS x y).map .dat) en
def kIx3 (y : S) : Option S → Option D | some x => ixS x y | none => none
def kDat (o : Option D) : Option S := o.map .dat
def kSlc (a lo hi : E) (r : R S) : R S := r.bind fun x en => (evo Φ G lo en).bind fun l en => (evo Φ G hi en).bind fun h en => R.of ((reg a x en).bind fun x => slcS x l h) en
def kSlc2 (a hi : E) (x : S) (r : R (Option Int)) : R S := r.bind fun l en => (evo Φ G hi en).bind fun h en => R.of ((reg a x en).bind fun x => slcS x l h) en
def kSlc3 (a : E) (x : S) (l : Option Int) (r : R (Option Int)) : R S := r.bind fun h en => R.of ((reg a x en).bind fun x => slcS x l h) en
def kSlc4 (l h : Option Int) : Option S → Option S | some x => slcS x l h | none => none
def kRev (a : E) (r : R S) : R S := r.bind fun x en => R.of ((reg a x en).bind fun x => (vL x).map fun ds => .ml ds.reverse) en
def kRev2 : Option S → Option S | some x => (vL x).map fun ds => .ml ds.reverse | none => none
def kCall (f : Str) (es : E) (r : R (List S)) : R S := r.bind fun ss en => match Φ f ss with
    | .ret s fin => .ok s (back es ss fin en)
    | .exc c d => .exc c d en
    | .stuck => .stuck
def kCall2 (es : E) (ss : List S) (en : En) : FR → R S
  | .ret s fin => .ok s (back es ss fin en)
  | .exc c d => .exc c d en
  | .stuck => .stuck
def kCallk (f : Str) (ks : E) (perm : List Nat) (r : R (List S)) : R S := r.bind fun ss en => (evs Φ G ks en).bind fun ss2 en => match Φ f ((pmL perm (ss ++ ss2)).map fun s => .dat (fz s)) with
    | .ret s _ => .ok s en
    | .exc c d => .exc c d en
    | .stuck => .stuck
def kCallk2 (f : Str) (perm : List Nat) (ss : List S) (r : R (List S)) : R S := r.bind fun ss2 en => match Φ f ((pmL perm (ss ++ ss2)).map fun s => .dat (fz s)) with
    | .ret s _ => .ok s en
    | .exc c d => .exc c d en
    | .stuck => .stuck
def kCallk3 (en : En) : FR → R S
  | .ret s _ => .ok s en
  | .exc c d => .exc c d en
  | .stuck => .stuck
def kBi (f : BF) (a : E) (r : R S) : R S := r.bind fun x en => R.of ((reg a x en).bind fun x => biS1 f x) en
def kBi2 (f : BF) : Option S → Option S | some x => biS1 f x | none => none
def kTwo (f : BF) (a b : E) (r : R S) : R S := r.bind fun x en => (opn Φ G b en).bind fun y en => R.of ((reg a x en).bind fun x => biS2 f x y) en
def kTwo2 (f : BF) (a : E) (x : S) (r : R S) : R S := r.bind fun y en => R.of ((reg a x en).bind fun x => biS2 f x y) en
def kTwo3 (f : BF) (y : S) : Option S → Option S | some x => biS2 f x y | none => none
def kIsi (a : E) (ts : List Ty) (r : R S) : R S := r.bind fun x en => R.of ((reg a x en).bind fun x => (tyS x).map fun t => .dat (.bl (ts.any (isT t)))) en
def kIsi2 (ts : List Ty) : Option S → Option S | some x => (tyS x).map fun t => .dat (.bl (ts.any (isT t))) | none => none
def kApp (x : Nat) (r : R S) : R S := r.bind fun s en => match getE en x with
      | some (.ml ds) => if ds.length < SZ then .ok (.dat .non) (en.set x (some (.ml (ds ++ [fz s])))) else .stuck
      | _ => .stuck
def kApp2 (x : Nat) (s : S) (en : En) : Option S → R S
  | some (.ml ds) => if ds.length < SZ then .ok (.dat .non) (en.set x (some (.ml (ds ++ [fz s])))) else .stuck
  | _ => .stuck
def kApp0 (x : Nat) (e : E) (en : En) : Option S → R S
  | some (.ml _) => kApp x (ev Φ G e en)
  | _ => .stuck
def kLrg (b : E) (r : R S) : R S := r.bind fun x en => (ev Φ G b en).bind fun y en => match x, y with
    | .dat (.int i), .dat (.int j) => if rgOk i j ∧ (j - i).toNat ≤ SZ then .ok (.ml (rgD i j)) en else .stuck
    | _, _ => .stuck
def kLrg2 (x : S) (r : R S) : R S := r.bind fun y en => match x, y with
    | .dat (.int i), .dat (.int j) => if rgOk i j ∧ (j - i).toNat ≤ SZ then .ok (.ml (rgD i j)) en else .stuck
    | _, _ => .stuck
/-- a comprehension over items -/
def kLcL (elt : E) (tg : List Nat) (one : Bool) (ifs : E) (own : List Nat) (xs : List D) (acc : List D) (en : En) : R (List D) := loopL (lcF (setD · tg one ·) (fun en2 => evi Φ G ifs en2) (fun en3 => ev Φ G elt en3) own) xs acc en
def kLc (elt : E) (tg : List Nat) (one : Bool) (k : IK) (ifs : E) (own : List Nat) (r : R (List S)) : R S := r.bind fun ss en => match itD k ss with
    | some xs => (R.nox (loopL (lcF (setD · tg one ·) (fun en2 => evi Φ G ifs en2) (fun en3 => ev Φ G elt en3) own) xs [] (wipeE en own))).bind fun acc en5 => .ok (.ml acc) (restE en en5 own)
    | none => .stuck
def kLc2 (elt : E) (tg : List Nat) (one : Bool) (ifs : E) (own : List Nat) (en : En) : Option (List D) → R S
  | some xs => (R.nox (kLcL Φ G elt tg one ifs own xs [] (wipeE en own))).bind fun acc en5 => .ok (.ml acc) (restE en en5 own)
  | none => .stuck
def kLc3 (own : List Nat) (en : En) (r : R (List D)) : R S := (R.nox r).bind fun acc en5 => .ok (.ml acc) (restE en en5 own)
/-- one turn -/
def kT1 (elt : E) (ifs : E) (own : List Nat) (acc : List D) : Option En → R (List D)
  | some en2 => (evi Φ G ifs en2).bind fun ok en3 => if ok then (ev Φ G elt en3).bind fun s en4 => if acc.length < SZ then .ok (acc ++ [fz s]) (wipeE en4 own) else .stuck else .ok acc (wipeE en3 own)
  | none => .stuck
def kT2 (elt : E) (own : List Nat) (acc : List D) (r : R Bool) : R (List D) := r.bind fun ok en3 => if ok then (ev Φ G elt en3).bind fun s en4 => if acc.length < SZ then .ok (acc ++ [fz s]) (wipeE en4 own) else .stuck else .ok acc (wipeE en3 own)
def kT3 (elt : E) (own : List Nat) (acc : List D) (en3 : En) : Bool → R (List D)
  | true => (ev Φ G elt en3).bind fun s en4 => if acc.length < SZ then .ok (acc ++ [fz s]) (wipeE en4 own) else .stuck
  | false => .ok acc (wipeE en3 own)
def kT4 (own : List Nat) (acc : List D) (r : R S) : R (List D) := r.bind fun s en4 => if acc.length < SZ then .ok (acc ++ [fz s]) (wipeE en4 own) else .stuck
def kEvs (es : E) (r : R S) : R (List S) := r.bind fun s en => (evs Φ G es en).bind fun ss en => .ok (s :: ss) en
def kTk (es : E) (r : R (List (Option S))) : R (List S) := r.bind fun os en => tkR (takeE es os en)
def kQe (es : E) (r : R S) : R (List (Option S)) := r.bind fun s en => (evq Φ G es en).bind fun os en => .ok (some s :: os) en
def kPushO (o : Option S) (r : R (List (Option S))) : R (List (Option S)) := r.bind fun os en => .ok (o :: os) en
def kQv (es : E) (en : En) : Option S → R (List (Option S))
  | some _ => (evq Φ G es en).bind fun os en => .ok (none :: os) en
  | none => .stuck
def kPushT (s : S) (r : Option (List S × En)) : Option (List S × En) := r.map fun r => (s :: r.1, r.2)
def kTv (i : Nat) (es : E) (os : List (Option S)) (en : En) : Option S → Option (List S × En)
  | some (.dat d) => (takeE es os en).map fun r => (.dat d :: r.1, r.2)
  | some s => (takeE es os (en.set i none)).map fun r => (s :: r.1, r.2)
  | none => none
def kPush (s : S) (r : R (List S)) : R (List S) := r.bind fun ss en => .ok (s :: ss) en
def kVar (i : Nat) (en : En) : Option S → R S
  | some (.dat d) => .ok (.dat d) en
  | some s => .ok (.dat (fz s)) (en.set i (some (.dat (fz s))))
  | none => .stuck
def kEvo (r : R S) : R (Option Int) := r.bind fun s en => match s with
    | .dat (.int i) => .ok (some i) en
    | _ => .stuck
def kAndT (b : E) (r : R Bool) : R Bool := r.bind fun x en => if x then evT Φ G b en else .ok false en
def kAndT2 (b : E) (en : En) : Bool → R Bool | true => evT Φ G b en | false => .ok false en
def kOrT (b : E) (r : R Bool) : R Bool := r.bind fun x en => if x then .ok true en else evT Φ G b en
def kOrT2 (b : E) (en : En) : Bool → R Bool | true => .ok true en | false => evT Φ G b en
def kNotT (r : R Bool) : R Bool := r.bind fun x en => .ok (!x) en
def kCmpT (o : CmpOp) (a b : E) (r : R S) : R Bool := r.bind fun x en => (opn Φ G b en).bind fun y en => R.of ((reg a x en).bind fun x => cmpS o x y) en
def kCmpT2 (o : CmpOp) (a : E) (x : S) (r : R S) : R Bool := r.bind fun y en => R.of ((reg a x en).bind fun x => cmpS o x y) en
def kChnT (o p : CmpOp) (b c : E) (r : R S) : R Bool := r.bind fun x en => (ev Φ G b en).bind fun y en => match cmpS o x y with
    | some true => (ev Φ G c en).bind fun z en => R.of (cmpS p y z) en
    | some false => .ok false en
    | none => .stuck
def kChnT2 (o p : CmpOp) (c : E) (x : S) (r : R S) : R Bool := r.bind fun y en => match cmpS o x y with
    | some true => (ev Φ G c en).bind fun z en => R.of (cmpS p y z) en
    | some false => .ok false en
    | none => .stuck
def kChnT3 (p : CmpOp) (c : E) (y : S) (en : En) : Option Bool → R Bool
  | some true => (ev Φ G c en).bind fun z en => R.of (cmpS p y z) en
  | some false => .ok false en
  | none => .stuck
def kChnT4 (p : CmpOp) (y : S) (r : R S) : R Bool := r.bind fun z en => R.of (cmpS p y z) en
def kGx (i j : E) (x : Nat) (rows : List (List D)) (r : R S) : R S := r.bind fun a en1 => match gRow rows a with
      | some r => (opn Φ G j en1).bind fun b en2 => R.of ((gAt r.2 b).map .dat) (en2.set x (some (.mg rows)))
      | none => .stuck
def kGx0 (i j : E) (x : Nat) (en : En) : Option S → R S
  | some (.mg rows) => kGx Φ G i j x rows (opn Φ G i (en.set x none))
  | _ => .stuck
def kGx1 (j : E) (x : Nat) (rows : List (List D)) (en : En) : Option (Nat × List D) → R S
  | some r => (opn Φ G j en).bind fun b en2 => R.of ((gAt r.2 b).map .dat) (en2.set x (some (.mg rows)))
  | none => .stuck
def kGx2 (x : Nat) (rows : List (List D)) (r : List D) (q : R S) : R S := q.bind fun b en2 => R.of ((gAt r b).map .dat) (en2.set x (some (.mg rows)))
def kGb0 (f : BF) (i : E) (x : Nat) (en : En) : Option S → R S
  | some (.mg rows) => (opn Φ G i (en.set x none)).bind fun a en1 => match gRow rows a with
      | some r => R.of (biS1 f (.ml r.2)) (en1.set x (some (.mg rows)))
      | none => .stuck
  | _ => .stuck
def kGb (f : BF) (x : Nat) (rows : List (List D)) (q : R S) : R S := q.bind fun a en1 => match gRow rows a with
      | some r => R.of (biS1 f (.ml r.2)) (en1.set x (some (.mg rows)))
      | none => .stuck
def kGb1 (f : BF) (x : Nat) (rows : List (List D)) (en : En) : Option (Nat × List D) → R S
  | some r => R.of (biS1 f (.ml r.2)) (en.set x (some (.mg rows)))
  | none => .stuck
def kGa0 (x : Nat) (e : E) (en : En) : Option S → R S
  | some (.mg _) => (ev Φ G e en).bind fun s en => match s, getE en x with
      | .ml ds, some (.mg rows) => if rows.length < SZ then .ok (.dat .non) (en.set x (some (.mg (rows ++ [ds])))) else .stuck
      | _, _ => .stuck
  | _ => .stuck
def kGa (x : Nat) (q : R S) : R S := q.bind fun s en => match s, getE en x with
      | .ml ds, some (.mg rows) => if rows.length < SZ then .ok (.dat .non) (en.set x (some (.mg (rows ++ [ds])))) else .stuck
      | _, _ => .stuck
def kGa1 (x : Nat) (ds : List D) (en : En) : Option S → R S
  | some (.mg rows) => if rows.length < SZ then .ok (.dat .non) (en.set x (some (.mg (rows ++ [ds])))) else .stuck
  | _ => .stuck
/-- grids from a comprehension -/
def kLgL (elt : E) (tg : List Nat) (one : Bool) (ifs : E) (own : List Nat) (xs : List D) (acc : List (List D)) (en : En) : R (List (List D)) := loopL (lgF (setD · tg one ·) (fun en2 => evi Φ G ifs en2) (fun en3 => ev Φ G elt en3) own) xs acc en
def kLg0 (elt : E) (tg : List Nat) (one : Bool) (k : IK) (ifs : E) (own : List Nat) (r : R (List S)) : R S := r.bind fun ss en => match itD k ss with
    | some xs => (R.nox (kLgL Φ G elt tg one ifs own xs [] (wipeE en own))).bind fun acc en5 => .ok (.mg acc) (restE en en5 own)
    | none => .stuck
def kLg1 (elt : E) (tg : List Nat) (one : Bool) (ifs : E) (own : List Nat) (en : En) : Option (List D) → R S
  | some xs => (R.nox (kLgL Φ G elt tg one ifs own xs [] (wipeE en own))).bind fun acc en5 => .ok (.mg acc) (restE en en5 own)
  | none => .stuck
def kLg3 (own : List Nat) (en : En) (r : R (List (List D))) : R S := (R.nox r).bind fun acc en5 => .ok (.mg acc) (restE en en5 own)
def kG1 (elt : E) (ifs : E) (own : List Nat) (acc : List (List D)) : Option En → R (List (List D))
  | some en2 => (evi Φ G ifs en2).bind fun ok en3 => if ok then (ev Φ G elt en3).bind fun s en4 => match s with
      | .ml ds => if acc.length < SZ then .ok (acc ++ [ds]) (wipeE en4 own) else .stuck
      | _ => .stuck
    else .ok acc (wipeE en3 own)
  | none => .stuck
def kG2 (elt : E) (own : List Nat) (acc : List (List D)) (r : R Bool) : R (List (List D)) := r.bind fun ok en3 => if ok then (ev Φ G elt en3).bind fun s en4 => match s with
      | .ml ds => if acc.length < SZ then .ok (acc ++ [ds]) (wipeE en4 own) else .stuck
      | _ => .stuck
    else .ok acc (wipeE en3 own)
def kG4 (own : List Nat) (acc : List (List D)) (r : R S) : R (List (List D)) := r.bind fun s en4 => match s with
      | .ml ds => if acc.length < SZ then .ok (acc ++ [ds]) (wipeE en4 own) else .stuck
      | _ => .stuck
/-- two sources -/
def k2L (elt : E) (tg : List Nat) (one : Bool) (ifs : E) (tg2 : List Nat) (one2 : Bool) (k2 : IK) (src2 ifs2 : E) (own own2 : List Nat) (xs : List D) (acc : List D) (en : En) : R (List D) :=
  loopL (l2F (setD · tg one ·) (fun en2 => evi Φ G ifs en2) (fun en3 => evs Φ G src2 en3) k2 (lcF (setD · tg2 one2 ·) (fun en2 => evi Φ G ifs2 en2) (fun en3 => ev Φ G elt en3) own2) own own2) xs acc en
def k20 (elt : E) (tg : List Nat) (one : Bool) (k : IK) (ifs : E) (tg2 : List Nat) (one2 : Bool) (k2 : IK) (src2 ifs2 : E) (own own2 : List Nat) (r : R (List S)) : R S := r.bind fun ss en => match itD k ss with
    | some xs => (R.nox (k2L Φ G elt tg one ifs tg2 one2 k2 src2 ifs2 own own2 xs [] (wipeE en own))).bind fun acc en5 => .ok (.ml acc) (restE en en5 own)
    | none => .stuck
def k21 (elt : E) (tg : List Nat) (one : Bool) (ifs : E) (tg2 : List Nat) (one2 : Bool) (k2 : IK) (src2 ifs2 : E) (own own2 : List Nat) (en : En) : Option (List D) → R S
  | some xs => (R.nox (k2L Φ G elt tg one ifs tg2 one2 k2 src2 ifs2 own own2 xs [] (wipeE en own))).bind fun acc en5 => .ok (.ml acc) (restE en en5 own)
  | none => .stuck
/-- an outer turn -/
def k2T (elt : E) (ifs : E) (tg2 : List Nat) (one2 : Bool) (k2 : IK) (src2 ifs2 : E) (own own2 : List Nat) (acc : List D) : Option En → R (List D)
  | some en2 => (evi Φ G ifs en2).bind fun ok en3 => if ok then (evs Φ G src2 en3).bind fun ss en4 => match itD k2 ss with
      | some ys => (kLcL Φ G elt tg2 one2 ifs2 own2 ys acc (wipeE en4 own2)).bind fun acc en5 => .ok acc (wipeE en5 own)
      | none => .stuck
    else .ok acc (wipeE en3 own)
  | none => .stuck
def k2T2 (elt : E) (tg2 : List Nat) (one2 : Bool) (k2 : IK) (src2 ifs2 : E) (own own2 : List Nat) (acc : List D) (r : R Bool) : R (List D) := r.bind fun ok en3 => if ok then (evs Φ G src2 en3).bind fun ss en4 => match itD k2 ss with
      | some ys => (kLcL Φ G elt tg2 one2 ifs2 own2 ys acc (wipeE en4 own2)).bind fun acc en5 => .ok acc (wipeE en5 own)
      | none => .stuck
    else .ok acc (wipeE en3 own)
def k2T3 (elt : E) (tg2 : List Nat) (one2 : Bool) (k2 : IK) (ifs2 : E) (own own2 : List Nat) (acc : List D) (r : R (List S)) : R (List D) := r.bind fun ss en4 => match itD k2 ss with
      | some ys => (kLcL Φ G elt tg2 one2 ifs2 own2 ys acc (wipeE en4 own2)).bind fun acc en5 => .ok acc (wipeE en5 own)
      | none => .stuck
def k2T4 (elt : E) (tg2 : List Nat) (one2 : Bool) (ifs2 : E) (own own2 : List Nat) (acc : List D) (en : En) : Option (List D) → R (List D)
  | some ys => (kLcL Φ G elt tg2 one2 ifs2 own2 ys acc (wipeE en own2)).bind fun acc en5 => .ok acc (wipeE en5 own)
  | none => .stuck
def k2T5 (own : List Nat) (r : R (List D)) : R (List D) := r.bind fun acc en5 => .ok acc (wipeE en5 own)
def kCv (es : E) (en : En) : Option S → R S
  | some (.dat (.fn f)) => (R.nox ((evq Φ G es en).bind fun os en => tkR (takeE es os en))).bind fun ss en => match Φ f ss with
      | .ret s fin => .ok s (back es ss fin en)
      | .exc c d => .exc c d en
      | .stuck => .stuck
  | _ => .stuck
def kNox {α : Type} (r : R α) : R α := R.nox r
def kTru (r : R S) : R Bool := r.bind fun x en => R.of (truD x) en
end
section
variable (Φ : Str → List S → FR) (G : Str → Option D) (fu : Nat)
def kSeq (p : P) (r : RS) : RS := r.seq fun en => evS Φ G fu p en
def kAsg (t : Tg) (r : R S) : RS := r.st fun s en => RS.ofO (evG Φ G t s en)
def kAsgU (t : Tg) (r : R S) : RS := r.st fun s en => match unpack s with
    | some ss => RS.ofO (evGs Φ G t ss en)
    | none => .stuck
def kAsgU2 (t : Tg) (en : En) : Option (List S) → RS
  | some ss => RS.ofO (evGs Φ G t ss en)
  | none => .stuck
def kAsgT (t : Tg) (r : R (List S)) : RS := r.st fun ss en => RS.ofO (evGs Φ G t ss en)
def kG (ts : Tg) (ss : List S) : Option En → Option En | some en => evGs Φ G ts ss en | none => none
def kGix (x : Nat) (s : S) : R S → Option En
  | .ok (.dat (.int k)) en1 => (match getE en1 x with
        | some (.ml ds) => (ixN ds.length k).map fun j => en1.set x (some (.ml (ds.set j (fz s))))
        | _ => none)
  | _ => none
def kGix0 (x : Nat) (ie : E) (s : S) (en : En) : Option S → Option En
  | some (.ml _) => kGix x s (opn Φ G ie en)
  | _ => none
def kGix2 (x : Nat) (s : S) (k : Int) (en1 : En) : Option S → Option En
  | some (.ml ds) => (ixN ds.length k).map fun j => en1.set x (some (.ml (ds.set j (fz s))))
  | _ => none
def kSt (x : Nat) (s : S) (ds : List D) (en1 : En) : Option Nat → Option En
  | some j => some (en1.set x (some (.ml (ds.set j (fz s)))))
  | none => none
def kGs0 (x : Nat) (ie je : E) (s : S) (en : En) : Option S → Option En
  | some (.mg rows) => match opn Φ G ie (en.set x none) with
      | .ok a en1 => (match gRow rows a with
        | some r => (match opn Φ G je en1 with
          | .ok b en2 => (gIx r.2 b).map fun l => en2.set x (some (.mg (rows.set r.1 (r.2.set l (fz s)))))
          | _ => none)
        | none => none)
      | _ => none
  | _ => none
def kGs1 (x : Nat) (je : E) (s : S) (rows : List (List D)) : R S → Option En
  | .ok a en1 => (match gRow rows a with
        | some r => (match opn Φ G je en1 with
          | .ok b en2 => (gIx r.2 b).map fun l => en2.set x (some (.mg (rows.set r.1 (r.2.set l (fz s)))))
          | _ => none)
        | none => none)
  | _ => none
def kGs2 (x : Nat) (je : E) (s : S) (rows : List (List D)) (en1 : En) : Option (Nat × List D) → Option En
  | some r => (match opn Φ G je en1 with
          | .ok b en2 => (gIx r.2 b).map fun l => en2.set x (some (.mg (rows.set r.1 (r.2.set l (fz s)))))
          | _ => none)
  | none => none
def kGs3 (x : Nat) (s : S) (rows : List (List D)) (r : Nat × List D) : R S → Option En
  | .ok b en2 => (gIx r.2 b).map fun l => en2.set x (some (.mg (rows.set r.1 (r.2.set l (fz s)))))
  | _ => none
def kGs4 (x : Nat) (s : S) (rows : List (List D)) (r : Nat × List D) (en : En) : Option Nat → Option En
  | some l => some (en.set x (some (.mg (rows.set r.1 (r.2.set l (fz s))))))
  | none => none
def kGr0 (x : Nat) (ie : E) (ds : List D) (en : En) : Option S → Option En
  | some (.mg rows) => (match opn Φ G ie (en.set x none) with
      | .ok a en1 => (gRow rows a).map fun r => en1.set x (some (.mg (rows.set r.1 ds)))
      | _ => none)
  | _ => none
def kGr1 (x : Nat) (ds : List D) (rows : List (List D)) : R S → Option En
  | .ok a en1 => (gRow rows a).map fun r => en1.set x (some (.mg (rows.set r.1 ds)))
  | _ => none
def kGr2 (x : Nat) (ds : List D) (rows : List (List D)) (en : En) : Option (Nat × List D) → Option En
  | some r => some (en.set x (some (.mg (rows.set r.1 ds))))
  | none => none
def kExpr (r : R S) : RS := r.st fun _ en => .nx en
def kRet (r : R S) : RS := r.st fun s en => .rt s en
def kEvr (i : Nat) (en : En) : Option S → R S
  | some s => .ok s (en.set i none)
  | none => .stuck
def kIf (a b : P) (r : R Bool) : RS := r.st fun k en => if k then evS Φ G fu a en else evS Φ G fu b en
def kIf2 (a b : P) (en : En) : Bool → RS | true => evS Φ G fu a en | false => evS Φ G fu b en
/-- a loop over items -/
def kFor (tg : List Nat) (one : Bool) (b : P) (xs : List D) (en : En) : RS := loopF (fun d en => match setD en tg one d with
      | some en => evS Φ G fu b en
      | none => .stuck) xs en
def kFor0 (tg : List Nat) (one : Bool) (k : IK) (b : P) (r : R (List S)) : RS := r.st fun ss en => match itD k ss with
    | some xs => kFor Φ G fu tg one b xs en
    | none => .stuck
def kFor1 (tg : List Nat) (one : Bool) (b : P) (en : En) : Option (List D) → RS
  | some xs => kFor Φ G fu tg one b xs en
  | none => .stuck
def kForS (b : P) : Option En → RS
  | some en => evS Φ G fu b en
  | none => .stuck
def kForN (tg : List Nat) (one : Bool) (b : P) (xs : List D) : RS → RS
  | .nx en => kFor Φ G fu tg one b xs en
  | .ct en => kFor Φ G fu tg one b xs en
  | .bk en => .nx en
  | .rt s en => .rt s en
  | .exc c d en => .exc c d en
  | .stuck => .stuck
def kPut (x : Nat) (s : S) (r : RS) : RS := putB x s r
def kFv1 (x : Nat) (s : S) (tg : List Nat) (one : Bool) (b : P) (en : En) : Option (List D) → RS
  | some xs => kPut x s (kFor Φ G fu tg one b xs (en.set x none))
  | none => .stuck
def kFv (tg : List Nat) (one : Bool) (k : IK) (x : Nat) (b : P) (en : En) : Option S → RS
  | some s => kFv1 Φ G fu x s tg one b en (itD k [s])
  | none => .stuck
def kWhl (c : E) (b : P) (n : Nat) (en : En) : RS := loopW (fun en => evT Φ G c en) (fun en => evS Φ G fu b en) n en
def kWhl1 (c : E) (b : P) (n : Nat) (r : R Bool) : RS := r.st fun k en => if k then (match evS Φ G fu b en with
    | .nx en => kWhl Φ G fu c b n en
    | .ct en => kWhl Φ G fu c b n en
    | .bk en => .nx en
    | .rt s en => .rt s en
    | .exc c d en => .exc c d en
    | .stuck => .stuck) else .nx en
def kWhlN (c : E) (b : P) (n : Nat) : RS → RS
  | .nx en => kWhl Φ G fu c b n en
  | .ct en => kWhl Φ G fu c b n en
  | .bk en => .nx en
  | .rt s en => .rt s en
  | .exc c d en => .exc c d en
  | .stuck => .stuck
end
end Eng

set_option Elab.async false
set_option linter.all false
set_option maxRecDepth 100000
set_option maxHeartbeats 4000000
namespace Eng
open PySem PySem.Spec PyProof.Rows L2 RZ
section
variable {Φ : Str → List S → FR} {G : Str → Option D} {fu : Nat} {en en1 en2 : En} {a b c e es lo hi i elt src ifs : E} {o p : CmpOp} {q : Operator} {x y s : S} {ss : List S} {l h : Option Int} {f : Str} {fin : List (Option S)} {own tg : List Nat} {one : Bool} {k : IK} {xs acc : List D} {d : D} {bf : BF} {n : Nat} {cc : Str} {dd : Option (Str × D)}
theorem iv_bad  : E.bad.isV = false := (rfl)
theorem iN_bad  : E.bad.isN = false := (rfl)
theorem it_bad  : E.bad.isT = false := (rfl)
theorem iv_nil  : E.nil.isV = false := (rfl)
theorem iN_nil  : E.nil.isN = true := (rfl)
theorem it_nil  : E.nil.isT = false := (rfl)
theorem iv_cons (a b : E) : (E.cons a b).isV = false := (rfl)
theorem iN_cons (a b : E) : (E.cons a b).isN = false := (rfl)
theorem it_cons (a b : E) : (E.cons a b).isT = false := (rfl)
theorem iv_var (a : Nat) : (E.var a).isV = true := (rfl)
theorem iN_var (a : Nat) : (E.var a).isN = false := (rfl)
theorem it_var (a : Nat) : (E.var a).isT = false := (rfl)
theorem iv_int (a : Int) : (E.int a).isV = false := (rfl)
theorem iN_int (a : Int) : (E.int a).isN = false := (rfl)
theorem it_int (a : Int) : (E.int a).isT = false := (rfl)
theorem iv_bl (a : Bool) : (E.bl a).isV = false := (rfl)
theorem iN_bl (a : Bool) : (E.bl a).isN = false := (rfl)
theorem it_bl (a : Bool) : (E.bl a).isT = false := (rfl)
theorem iv_non  : E.non.isV = false := (rfl)
theorem iN_non  : E.non.isN = false := (rfl)
theorem it_non  : E.non.isT = false := (rfl)
theorem iv_str (a : Str) : (E.str a).isV = false := (rfl)
theorem iN_str (a : Str) : (E.str a).isN = false := (rfl)
theorem it_str (a : Str) : (E.str a).isT = false := (rfl)
theorem iv_gl (a : Str) : (E.gl a).isV = false := (rfl)
theorem iN_gl (a : Str) : (E.gl a).isN = false := (rfl)
theorem it_gl (a : Str) : (E.gl a).isT = false := (rfl)
theorem iv_bin (a : Operator) (b c : E) : (E.bin a b c).isV = false := (rfl)
theorem iN_bin (a : Operator) (b c : E) : (E.bin a b c).isN = false := (rfl)
theorem it_bin (a : Operator) (b c : E) : (E.bin a b c).isT = false := (rfl)
theorem iv_neg (a : E) : (E.neg a).isV = false := (rfl)
theorem iN_neg (a : E) : (E.neg a).isN = false := (rfl)
theorem it_neg (a : E) : (E.neg a).isT = false := (rfl)
theorem iv_cmp (a : CmpOp) (b c : E) : (E.cmp a b c).isV = false := (rfl)
theorem iN_cmp (a : CmpOp) (b c : E) : (E.cmp a b c).isN = false := (rfl)
theorem it_cmp (a : CmpOp) (b c : E) : (E.cmp a b c).isT = true := (rfl)
theorem iv_chn (a b : CmpOp) (c d e : E) : (E.chn a b c d e).isV = false := (rfl)
theorem iN_chn (a b : CmpOp) (c d e : E) : (E.chn a b c d e).isN = false := (rfl)
theorem it_chn (a b : CmpOp) (c d e : E) : (E.chn a b c d e).isT = true := (rfl)
theorem iv_and_ (a b : E) : (E.and_ a b).isV = false := (rfl)
theorem iN_and_ (a b : E) : (E.and_ a b).isN = false := (rfl)
theorem it_and_ (a b : E) : (E.and_ a b).isT = true := (rfl)
theorem iv_or_ (a b : E) : (E.or_ a b).isV = false := (rfl)
theorem iN_or_ (a b : E) : (E.or_ a b).isN = false := (rfl)
theorem it_or_ (a b : E) : (E.or_ a b).isT = true := (rfl)
theorem iv_not_ (a : E) : (E.not_ a).isV = false := (rfl)
theorem iN_not_ (a : E) : (E.not_ a).isN = false := (rfl)
theorem it_not_ (a : E) : (E.not_ a).isT = true := (rfl)
theorem iv_ife (a b c : E) : (E.ife a b c).isV = false := (rfl)
theorem iN_ife (a b c : E) : (E.ife a b c).isN = false := (rfl)
theorem it_ife (a b c : E) : (E.ife a b c).isT = false := (rfl)
theorem iv_tup (a : E) : (E.tup a).isV = false := (rfl)
theorem iN_tup (a : E) : (E.tup a).isN = false := (rfl)
theorem it_tup (a : E) : (E.tup a).isT = false := (rfl)
theorem iv_lst (a : E) : (E.lst a).isV = false := (rfl)
theorem iN_lst (a : E) : (E.lst a).isN = false := (rfl)
theorem it_lst (a : E) : (E.lst a).isT = false := (rfl)
theorem iv_dic (a b : E) : (E.dic a b).isV = false := (rfl)
theorem iN_dic (a b : E) : (E.dic a b).isN = false := (rfl)
theorem it_dic (a b : E) : (E.dic a b).isT = false := (rfl)
theorem iv_dnt  : E.dnt.isV = false := (rfl)
theorem iN_dnt  : E.dnt.isN = false := (rfl)
theorem it_dnt  : E.dnt.isT = false := (rfl)
theorem iv_ix (a b : E) : (E.ix a b).isV = false := (rfl)
theorem iN_ix (a b : E) : (E.ix a b).isN = false := (rfl)
theorem it_ix (a b : E) : (E.ix a b).isT = false := (rfl)
theorem iv_slc (a b c : E) : (E.slc a b c).isV = false := (rfl)
theorem iN_slc (a b c : E) : (E.slc a b c).isN = false := (rfl)
theorem it_slc (a b c : E) : (E.slc a b c).isT = false := (rfl)
theorem iv_rev (a : E) : (E.rev a).isV = false := (rfl)
theorem iN_rev (a : E) : (E.rev a).isN = false := (rfl)
theorem it_rev (a : E) : (E.rev a).isT = false := (rfl)
theorem iv_call (a : Str) (b : E) : (E.call a b).isV = false := (rfl)
theorem iN_call (a : Str) (b : E) : (E.call a b).isN = false := (rfl)
theorem it_call (a : Str) (b : E) : (E.call a b).isT = false := (rfl)
theorem iv_callk (a : Str) (b c : E) (d : List Nat) : (E.callk a b c d).isV = false := (rfl)
theorem iN_callk (a : Str) (b c : E) (d : List Nat) : (E.callk a b c d).isN = false := (rfl)
theorem it_callk (a : Str) (b c : E) (d : List Nat) : (E.callk a b c d).isT = false := (rfl)
theorem iv_callv (a : Nat) (b : E) : (E.callv a b).isV = false := (rfl)
theorem iN_callv (a : Nat) (b : E) : (E.callv a b).isN = false := (rfl)
theorem it_callv (a : Nat) (b : E) : (E.callv a b).isT = false := (rfl)
theorem iv_bi (a : BF) (b : E) : (E.bi a b).isV = false := (rfl)
theorem iN_bi (a : BF) (b : E) : (E.bi a b).isN = false := (rfl)
theorem it_bi (a : BF) (b : E) : (E.bi a b).isT = false := (rfl)
theorem iv_bi2 (a : BF) (b c : E) : (E.bi2 a b c).isV = false := (rfl)
theorem iN_bi2 (a : BF) (b c : E) : (E.bi2 a b c).isN = false := (rfl)
theorem it_bi2 (a : BF) (b c : E) : (E.bi2 a b c).isT = false := (rfl)
theorem iv_isi (a : E) (b : List Ty) (c : Bool) : (E.isi a b c).isV = false := (rfl)
theorem iN_isi (a : E) (b : List Ty) (c : Bool) : (E.isi a b c).isN = false := (rfl)
theorem it_isi (a : E) (b : List Ty) (c : Bool) : (E.isi a b c).isT = false := (rfl)
theorem iv_app (a : Nat) (b : E) : (E.app a b).isV = false := (rfl)
theorem iN_app (a : Nat) (b : E) : (E.app a b).isN = false := (rfl)
theorem it_app (a : Nat) (b : E) : (E.app a b).isT = false := (rfl)
theorem iv_lrg (a b : E) : (E.lrg a b).isV = false := (rfl)
theorem iN_lrg (a b : E) : (E.lrg a b).isN = false := (rfl)
theorem it_lrg (a b : E) : (E.lrg a b).isT = false := (rfl)
theorem iv_lc (a : E) (b : List Nat) (c : Bool) (d : IK) (e f : E) (g : List Nat) : (E.lc a b c d e f g).isV = false := (rfl)
theorem iN_lc (a : E) (b : List Nat) (c : Bool) (d : IK) (e f : E) (g : List Nat) : (E.lc a b c d e f g).isN = false := (rfl)
theorem it_lc (a : E) (b : List Nat) (c : Bool) (d : IK) (e f : E) (g : List Nat) : (E.lc a b c d e f g).isT = false := (rfl)
theorem iv_lc2 (a : E) (b : List Nat) (c : Bool) (d : IK) (e f : E) (b2 : List Nat) (c2 : Bool) (d2 : IK) (e2 f2 : E) (g g2 : List Nat) : (E.lc2 a b c d e f b2 c2 d2 e2 f2 g g2).isV = false := (rfl)
theorem iN_lc2 (a : E) (b : List Nat) (c : Bool) (d : IK) (e f : E) (b2 : List Nat) (c2 : Bool) (d2 : IK) (e2 f2 : E) (g g2 : List Nat) : (E.lc2 a b c d e f b2 c2 d2 e2 f2 g g2).isN = false := (rfl)
theorem it_lc2 (a : E) (b : List Nat) (c : Bool) (d : IK) (e f : E) (b2 : List Nat) (c2 : Bool) (d2 : IK) (e2 f2 : E) (g g2 : List Nat) : (E.lc2 a b c d e f b2 c2 d2 e2 f2 g g2).isT = false := (rfl)
theorem iv_lcg (a : E) (b : List Nat) (c : Bool) (d : IK) (e f : E) (g : List Nat) : (E.lcg a b c d e f g).isV = false := (rfl)
theorem iN_lcg (a : E) (b : List Nat) (c : Bool) (d : IK) (e f : E) (g : List Nat) : (E.lcg a b c d e f g).isN = false := (rfl)
theorem it_lcg (a : E) (b : List Nat) (c : Bool) (d : IK) (e f : E) (g : List Nat) : (E.lcg a b c d e f g).isT = false := (rfl)
theorem iv_mgn : E.mgn.isV = false := (rfl)
theorem iN_mgn : E.mgn.isN = false := (rfl)
theorem it_mgn : E.mgn.isT = false := (rfl)
theorem iv_gix (a : Nat) (b c : E) : (E.gix a b c).isV = false := (rfl)
theorem iN_gix (a : Nat) (b c : E) : (E.gix a b c).isN = false := (rfl)
theorem it_gix (a : Nat) (b c : E) : (E.gix a b c).isT = false := (rfl)
theorem iv_gbi (a : BF) (b : Nat) (c : E) : (E.gbi a b c).isV = false := (rfl)
theorem iN_gbi (a : BF) (b : Nat) (c : E) : (E.gbi a b c).isN = false := (rfl)
theorem it_gbi (a : BF) (b : Nat) (c : E) : (E.gbi a b c).isT = false := (rfl)
theorem iv_gapp (a : Nat) (b : E) : (E.gapp a b).isV = false := (rfl)
theorem iN_gapp (a : Nat) (b : E) : (E.gapp a b).isN = false := (rfl)
theorem it_gapp (a : Nat) (b : E) : (E.gapp a b).isT = false := (rfl)
theorem kOf_s : kOf (some s) en = .ok s en := rfl
theorem kOfB_s {t : Bool} : kOfB (some t) en = .ok t en := rfl
theorem of_kOf (o : Option S) : R.of o en = kOf o en := by cases o <;> rfl
theorem of_kOfB (o : Option Bool) : R.of o en = kOfB o en := by cases o <;> rfl
theorem x_var : ev Φ G (.var n) en = kVar n en (getE en n) := by
  simp only [ev]
  cases getE en n with
  | none => rfl
  | some s => cases s <;> rfl
theorem kVar_d : kVar n en (some (.dat d)) = .ok (.dat d) en := rfl
theorem kVar_m {ds : List D} : kVar n en (some (.ml ds)) = .ok (.dat (.lst ds)) (en.set n (some (.dat (.lst ds)))) := rfl
theorem x_int {j : Int} : ev Φ G (.int j) en = .ok (.dat (.int j)) en := by simp only [ev]
theorem x_bl {j : Bool} : ev Φ G (.bl j) en = .ok (.dat (.bl j)) en := by simp only [ev]
theorem x_non : ev Φ G .non en = .ok (.dat .non) en := by simp only [ev]
theorem x_str {j : Str} : ev Φ G (.str j) en = .ok (.dat (.str j)) en := by simp only [ev]
theorem x_gl {j : Str} {d : D} (hg : G j = some d) : ev Φ G (.gl j) en = .ok (.dat d) en := by simp only [ev, hg, Option.map, R.of]
theorem x_bin : ev Φ G (.bin q a b) en = kBin Φ G q a b (opn Φ G a en) := by simp only [ev]; rfl
theorem kBin_ok : kBin Φ G q a b (.ok x en) = kBin2 q a x (opn Φ G b en) := rfl
theorem kBin2_ok : kBin2 q a x (.ok y en) = kOf (kBin3 q y (reg a x en)) en := by
  show R.of _ en = _
  rw [of_kOf]
  cases reg a x en <;> rfl
theorem kBin3_s : kBin3 q y (some x) = binS q x y := rfl
theorem x_neg : ev Φ G (.neg a) en = kNeg (ev Φ G a en) := by simp only [ev]; rfl
theorem kNeg_ok {j : Int} : kNeg (.ok (.dat (.int j)) en) = .ok (.dat (.int (-j))) en := rfl
theorem x_cmp : ev Φ G (.cmp o a b) en = kCmp Φ G o a b (opn Φ G a en) := by simp only [ev]; rfl
theorem kCmp_ok : kCmp Φ G o a b (.ok x en) = kCmp2 o a x (opn Φ G b en) := rfl
theorem kCmp2_ok : kCmp2 o a x (.ok y en) = kOf (kB (kCmp3 o y (reg a x en))) en := by
  show R.of _ en = _
  rw [of_kOf]
  cases reg a x en <;> rfl
theorem kCmp3_s : kCmp3 o y (some x) = cmpS o x y := rfl
theorem kB_s {t : Bool} : kB (some t) = some (.dat (.bl t)) := rfl
theorem x_chn : ev Φ G (.chn o p a b c) en = kChn Φ G o p b c (ev Φ G a en) := by simp only [ev]; rfl
theorem kChn_ok : kChn Φ G o p b c (.ok x en) = kChn2 Φ G o p c x (ev Φ G b en) := rfl
theorem kChn2_ok : kChn2 Φ G o p c x (.ok y en) = kChn3 Φ G p c y en (cmpS o x y) := by
  show (match cmpS o x y with | some true => _ | some false => _ | none => _) = _
  cases cmpS o x y with
  | none => rfl
  | some t => cases t <;> rfl
theorem kChn3_t : kChn3 Φ G p c y en (some true) = kChn4 p y (ev Φ G c en) := rfl
theorem kChn3_f : kChn3 Φ G p c y en (some false) = .ok (.dat (.bl false)) en := rfl
theorem kChn4_ok : kChn4 p y (.ok x en) = kOf (kB (cmpS p y x)) en := by show R.of _ en = _; rw [of_kOf]; rfl
theorem x_and : ev Φ G (.and_ a b) en = kAnd Φ G b (ev Φ G a en) := by simp only [ev]; rfl
theorem kAnd_ok : kAnd Φ G b (.ok x en) = kAnd2 Φ G b x en (truD x) := by
  show (match truD x with | some true => _ | some false => _ | none => _) = _
  cases truD x with
  | none => rfl
  | some t => cases t <;> rfl
theorem kAnd2_t : kAnd2 Φ G b x en (some true) = ev Φ G b en := rfl
theorem kAnd2_f : kAnd2 Φ G b x en (some false) = .ok x en := rfl
theorem x_or : ev Φ G (.or_ a b) en = kOr Φ G b (ev Φ G a en) := by simp only [ev]; rfl
theorem kOr_ok : kOr Φ G b (.ok x en) = kOr2 Φ G b x en (truD x) := by
  show (match truD x with | some true => _ | some false => _ | none => _) = _
  cases truD x with
  | none => rfl
  | some t => cases t <;> rfl
theorem kOr2_t : kOr2 Φ G b x en (some true) = .ok x en := rfl
theorem kOr2_f : kOr2 Φ G b x en (some false) = ev Φ G b en := rfl
theorem x_not : ev Φ G (.not_ a) en = kNot (ev Φ G a en) := by simp only [ev]; rfl
theorem kNot_ok : kNot (.ok x en) = kOf (kNot2 (truD x)) en := by show R.of _ en = _; rw [of_kOf]; rfl
theorem kNot2_s {t : Bool} : kNot2 (some t) = some (.dat (.bl !t)) := rfl
theorem x_ife : ev Φ G (.ife c a b) en = kIfe Φ G a b (evT Φ G c en) := by simp only [ev]; rfl
theorem kIfe_ok {t : Bool} : kIfe Φ G a b (.ok t en) = kIfe2 Φ G a b en t := by cases t <;> rfl
theorem kIfe2_t : kIfe2 Φ G a b en true = ev Φ G a en := rfl
theorem kIfe2_f : kIfe2 Φ G a b en false = ev Φ G b en := rfl
theorem x_tup : ev Φ G (.tup es) en = kTup (evs Φ G es en) := by simp only [ev]; rfl
theorem kTup_ok (h : ss.length ≤ SZ) : kTup (.ok ss en) = .ok (.dat (.tup (ss.map fz))) en := by show (if _ then _ else _) = _; rw [if_pos h]
theorem x_lst : ev Φ G (.lst es) en = kLst (evs Φ G es en) := by simp only [ev]; rfl
theorem kLst_ok (h : ss.length ≤ SZ) : kLst (.ok ss en) = .ok (.ml (ss.map fz)) en := by show (if _ then _ else _) = _; rw [if_pos h]
theorem x_dnew : ev Φ G (.dic .nil .nil) en = .ok (.md [] []) en := by
  simp only [ev, keyE]
  rw [if_pos (by simp)]
  simp only [evs, R.bind, List.length_nil, if_true, List.map_nil]
theorem x_dic {kk : List Key} (hk : keyE a = some kk) (hn : kk.Nodup ∧ kk.length ≤ 15) : ev Φ G (.dic a es) en = kDic kk (evs Φ G es en) := by simp only [ev, hk]; rw [if_pos hn]; rfl
theorem kDic_ok {kk : List Key} (h : ss.length = kk.length) : kDic kk (.ok ss en) = .ok (.md (kk.map kD) (ss.map fz)) en := by show (if _ then _ else _) = _; rw [if_pos h]
theorem x_dnt : ev Φ G .dnt en = .ok (.md [] []) en := by simp only [ev]
theorem x_ix : ev Φ G (.ix a i) en = kIx Φ G a i (opn Φ G a en) := by simp only [ev]; rfl
theorem kIx_ok : kIx Φ G a i (.ok x en) = kIx2 a x (opn Φ G i en) := rfl
theorem kIx2_ok : kIx2 a x (.ok y en) = kOf (kDat (kIx3 y (reg a x en))) en := by
  show R.of _ en = _
  rw [of_kOf]
  cases reg a x en <;> rfl
theorem kIx3_s : kIx3 y (some x) = ixS x y := rfl
theorem kDat_s : kDat (some d) = some (.dat d) := rfl
theorem x_slc : ev Φ G (.slc a lo hi) en = kSlc Φ G a lo hi (opn Φ G a en) := by simp only [ev]; rfl
theorem kSlc_ok : kSlc Φ G a lo hi (.ok x en) = kSlc2 Φ G a hi x (evo Φ G lo en) := rfl
theorem kSlc2_ok : kSlc2 Φ G a hi x (.ok l en) = kSlc3 a x l (evo Φ G hi en) := rfl
theorem kSlc3_ok : kSlc3 a x l (.ok h en) = kOf (kSlc4 l h (reg a x en)) en := by
  show R.of _ en = _
  rw [of_kOf]
  cases reg a x en <;> rfl
theorem kSlc4_s : kSlc4 l h (some x) = slcS x l h := rfl
theorem x_rev : ev Φ G (.rev a) en = kRev a (opn Φ G a en) := by simp only [ev]; rfl
theorem kRev_ok : kRev a (.ok x en) = kOf (kRev2 (reg a x en)) en := by
  show R.of _ en = _
  rw [of_kOf]
  cases reg a x en <;> rfl
theorem kRev2_s : kRev2 (some x) = (vL x).map fun ds => .ml ds.reverse := rfl
theorem x_call : ev Φ G (.call f es) en = kCall Φ f es (eva Φ G es en) := by simp only [ev]; rfl
theorem kCall_ok : kCall Φ f es (.ok ss en) = kCall2 es ss en (Φ f ss) := by
  show (match Φ f ss with | .ret s fin => _ | .exc c d => _ | .stuck => _) = _
  cases Φ f ss <;> rfl
theorem kCall2_ok : kCall2 es ss en (.ret s fin) = .ok s (back es ss fin en) := rfl
theorem kCall2_x : kCall2 es ss en (.exc cc dd) = .exc cc dd en := rfl
theorem x_callk {ks : E} {perm : List Nat} : ev Φ G (.callk f es ks perm) en = kCallk Φ G f ks perm (evs Φ G es en) := by simp only [ev]; rfl
theorem kCallk_ok {ks : E} {perm : List Nat} : kCallk Φ G f ks perm (.ok ss en) = kCallk2 Φ f perm ss (evs Φ G ks en) := rfl
theorem kCallk2_ok {perm : List Nat} {ss2 : List S} : kCallk2 Φ f perm ss (.ok ss2 en) = kCallk3 en (Φ f ((pmL perm (ss ++ ss2)).map fun s => .dat (fz s))) := by
  show (match Φ f _ with | .ret s fin => _ | .exc c d => _ | .stuck => _) = _
  cases Φ f ((pmL perm (ss ++ ss2)).map fun s => .dat (fz s)) <;> rfl
theorem kCallk3_ok : kCallk3 en (.ret s fin) = .ok s en := rfl
theorem kCallk3_x : kCallk3 en (.exc cc dd) = .exc cc dd en := rfl
theorem x_bi : ev Φ G (.bi bf a) en = kBi bf a (opn Φ G a en) := by simp only [ev]; rfl
theorem kBi_ok : kBi bf a (.ok x en) = kOf (kBi2 bf (reg a x en)) en := by
  show R.of _ en = _
  rw [of_kOf]
  cases reg a x en <;> rfl
theorem kBi2_s : kBi2 bf (some x) = biS1 bf x := rfl
theorem x_two : ev Φ G (.bi2 bf a b) en = kTwo Φ G bf a b (opn Φ G a en) := by simp only [ev]; rfl
theorem kTwo_ok : kTwo Φ G bf a b (.ok x en) = kTwo2 bf a x (opn Φ G b en) := rfl
theorem kTwo2_ok : kTwo2 bf a x (.ok y en) = kOf (kTwo3 bf y (reg a x en)) en := by
  show R.of _ en = _
  rw [of_kOf]
  cases reg a x en <;> rfl
theorem kTwo3_s : kTwo3 bf y (some x) = biS2 bf x y := rfl
theorem x_isi {ts : List Ty} {many : Bool} : ev Φ G (.isi a ts many) en = kIsi a ts (opn Φ G a en) := by simp only [ev]; rfl
theorem kIsi_ok {ts : List Ty} : kIsi a ts (.ok x en) = kOf (kIsi2 ts (reg a x en)) en := by
  show R.of _ en = _
  rw [of_kOf]
  cases reg a x en <;> rfl
theorem kIsi2_s {ts : List Ty} : kIsi2 ts (some x) = (tyS x).map fun t => .dat (.bl (ts.any (isT t))) := rfl
theorem x_app : ev Φ G (.app n e) en = kApp0 Φ G n e en (getE en n) := by
  simp only [ev]
  cases getE en n with
  | none => rfl
  | some s => cases s <;> rfl
theorem kApp0_m {ds : List D} : kApp0 Φ G n e en (some (.ml ds)) = kApp n (ev Φ G e en) := rfl
theorem kApp_ok : kApp n (.ok s en) = kApp2 n s en (getE en n) := by
  show (match getE en n with | some (.ml ds) => _ | _ => _) = _
  cases getE en n with
  | none => rfl
  | some s => cases s <;> rfl
theorem kApp2_m {ds : List D} (h : ds.length < SZ) : kApp2 n s en (some (.ml ds)) = .ok (.dat .non) (en.set n (some (.ml (ds ++ [fz s])))) := by show (if _ then _ else _) = _; rw [if_pos h]
theorem x_lrg : ev Φ G (.lrg a b) en = kLrg Φ G b (ev Φ G a en) := by simp only [ev]; rfl
theorem kLrg_ok : kLrg Φ G b (.ok x en) = kLrg2 x (ev Φ G b en) := rfl
theorem kLrg2_ok {i j : Int} (h : rgOk i j ∧ (j - i).toNat ≤ SZ) : kLrg2 (.dat (.int i)) (.ok (.dat (.int j)) en) = .ok (.ml (rgD i j)) en := by show (if _ then _ else _) = _; rw [if_pos h]
theorem x_lc : ev Φ G (.lc elt tg one k src ifs own) en = kLc Φ G elt tg one k ifs own (evs Φ G src en) := by simp only [ev]; rfl
theorem kLc_ok : kLc Φ G elt tg one k ifs own (.ok ss en) = kLc2 Φ G elt tg one ifs own en (itD k ss) := by
  show (match itD k ss with | some xs => _ | none => _) = _
  cases itD k ss <;> rfl
theorem kLc2_s : kLc2 Φ G elt tg one ifs own en (some xs) = kLc3 own en (kLcL Φ G elt tg one ifs own xs [] (wipeE en own)) := rfl
theorem kLc3_ok : kLc3 own en (.ok acc en1) = .ok (.ml acc) (restE en en1 own) := rfl
theorem kLcL_0 : kLcL Φ G elt tg one ifs own [] acc en = .ok acc en := rfl
theorem kLcL_s {v : D} {vs : List D} {acc2 : List D} (h : kT1 Φ G elt ifs own acc (setD en tg one v) = .ok acc2 en1) : kLcL Φ G elt tg one ifs own (v :: vs) acc en = kLcL Φ G elt tg one ifs own vs acc2 en1 := by
  unfold kLcL
  simp only [loopL]
  have e : lcF (fun x1 x2 => setD x1 tg one x2) (fun en2 => evi Φ G ifs en2) (fun en3 => ev Φ G elt en3) own acc v en = kT1 Φ G elt ifs own acc (setD en tg one v) := by
    unfold lcF
    show (match setD en tg one v with | some en2 => _ | none => _) = _
    cases setD en tg one v <;> rfl
  rw [e, h]; rfl
theorem kT1_s : kT1 Φ G elt ifs own acc (some en) = kT2 Φ G elt own acc (evi Φ G ifs en) := rfl
theorem kT2_ok {t : Bool} : kT2 Φ G elt own acc (.ok t en) = kT3 Φ G elt own acc en t := by cases t <;> rfl
theorem kT3_t : kT3 Φ G elt own acc en true = kT4 own acc (ev Φ G elt en) := rfl
theorem kT3_f : kT3 Φ G elt own acc en false = .ok acc (wipeE en own) := rfl
theorem kT4_ok (h : acc.length < SZ) : kT4 own acc (.ok s en) = .ok (acc ++ [fz s]) (wipeE en own) := by show (if _ then _ else _) = _; rw [if_pos h]
theorem x_evi0 : evi Φ G .nil en = .ok true en := by simp only [evi]
theorem x_evi1 : evi Φ G (.cons e .nil) en = evT Φ G e en := by simp only [evi]
theorem x_evs0 : evs Φ G .nil en = .ok [] en := by simp only [evs]
theorem x_evs : evs Φ G (.cons e es) en = kEvs Φ G es (ev Φ G e en) := by simp only [evs]; rfl
theorem kEvs_ok : kEvs Φ G es (.ok s en) = kPush s (evs Φ G es en) := rfl
theorem kPush_ok : kPush s (.ok ss en) = .ok (s :: ss) en := rfl
theorem x_eva : eva Φ G es en = kTk es (evq Φ G es en) := rfl
theorem kTk_ok {os : List (Option S)} : kTk es (.ok os en) = tkR (takeE es os en) := rfl
theorem tkR_s : tkR (some (ss, en)) = .ok ss en := rfl
theorem q_0 : evq Φ G .nil en = .ok [] en := by simp only [evq]
theorem q_v : evq Φ G (.cons (.var n) es) en = kQv Φ G es en (getE en n) := by
  simp only [evq]
  cases getE en n <;> rfl
theorem kQv_s : kQv Φ G es en (some s) = kPushO none (evq Φ G es en) := rfl
theorem q_e (h : e.isV = false) : evq Φ G (.cons e es) en = kQe Φ G es (ev Φ G e en) := by rw [evq_cons h]; rfl
theorem kQe_ok : kQe Φ G es (.ok s en) = kPushO (some s) (evq Φ G es en) := rfl
theorem kPushO_ok {o : Option S} {os : List (Option S)} : kPushO o (.ok os en) = .ok (o :: os) en := rfl
theorem t_0 : takeE .nil [] en = some ([], en) := by simp only [takeE]
theorem t_v {os : List (Option S)} : takeE (.cons (.var n) es) (none :: os) en = kTv n es os en (getE en n) := by
  simp only [takeE]
  cases getE en n with
  | none => rfl
  | some s => cases s <;> rfl
theorem kTv_d {os : List (Option S)} : kTv n es os en (some (.dat d)) = kPushT (.dat d) (takeE es os en) := rfl
theorem kTv_m {os : List (Option S)} {ds : List D} : kTv n es os en (some (.ml ds)) = kPushT (.ml ds) (takeE es os (en.set n none)) := rfl
theorem t_e {os : List (Option S)} : takeE (.cons e es) (some s :: os) en = kPushT s (takeE es os en) := by
  cases e <;> simp only [takeE] <;> rfl
theorem kPushT_s : kPushT s (some (ss, en)) = some (s :: ss, en) := rfl
theorem x_evo0 : evo Φ G .nil en = .ok none en := by simp only [evo]
theorem x_evo (h : e.isN = false) : evo Φ G e en = kEvo (ev Φ G e en) := by rw [evo_eq h]; rfl
theorem kEvo_ok {j : Int} : kEvo (.ok (.dat (.int j)) en) = .ok (some j) en := rfl
theorem x_opv : opn Φ G (.var n) en = kOf (getE en n) en := by simp only [opn, of_kOf]
theorem x_opn (h : e.isV = false) : opn Φ G e en = ev Φ G e en := opn_ev (isV_ne h) en
theorem kVar_g {rows : List (List D)} : kVar n en (some (.mg rows)) = .ok (.dat (.lst (rows.map .lst))) (en.set n (some (.dat (.lst (rows.map .lst))))) := rfl
theorem x_mgn : ev Φ G .mgn en = .ok (.mg []) en := by simp only [ev]
theorem x_gix : ev Φ G (.gix n a b) en = kGx0 Φ G a b n en (getE en n) := by
  simp only [ev]
  cases getE en n with
  | none => rfl
  | some s => cases s <;> rfl
theorem kGx0_g {rows : List (List D)} : kGx0 Φ G a b n en (some (.mg rows)) = kGx Φ G a b n rows (opn Φ G a (en.set n none)) := rfl
theorem kGx_ok {rows : List (List D)} : kGx Φ G a b n rows (.ok x en) = kGx1 Φ G b n rows en (gRow rows x) := by
  show (match gRow rows x with | some r => _ | none => _) = _
  cases gRow rows x <;> rfl
theorem kGx1_s {rows : List (List D)} {r : Nat × List D} : kGx1 Φ G b n rows en (some r) = kGx2 n rows r.2 (opn Φ G b en) := rfl
theorem kGx2_ok {rows : List (List D)} {r : List D} : kGx2 n rows r (.ok x en) = kOf (kDat (gAt r x)) (en.set n (some (.mg rows))) := by
  show R.of _ _ = _
  rw [of_kOf]; rfl
theorem gAt_i {r : List D} {j : Int} : gAt r (.dat (.int j)) = atI r j := rfl
theorem gRow_i {rows : List (List D)} {j : Int} {m : Nat} {r : List D} (h : ixN rows.length j = some m) (h2 : rows[m]? = some r) : gRow rows (.dat (.int j)) = some (m, r) := by
  show (ixN rows.length j).bind _ = _
  rw [h]; simp only [Option.bind_some, h2]; rfl
theorem x_gbi : ev Φ G (.gbi bf n a) en = kGb0 Φ G bf a n en (getE en n) := by
  simp only [ev]
  cases getE en n with
  | none => rfl
  | some s => cases s <;> rfl
theorem kGb0_g {rows : List (List D)} : kGb0 Φ G bf a n en (some (.mg rows)) = kGb bf n rows (opn Φ G a (en.set n none)) := rfl
theorem kGb_ok {rows : List (List D)} : kGb bf n rows (.ok x en) = kGb1 bf n rows en (gRow rows x) := by
  show (match gRow rows x with | some r => _ | none => _) = _
  cases gRow rows x <;> rfl
theorem kGb1_s {rows : List (List D)} {r : Nat × List D} : kGb1 bf n rows en (some r) = kOf (biS1 bf (.ml r.2)) (en.set n (some (.mg rows))) := by
  show R.of _ _ = _
  rw [of_kOf]
theorem x_gapp : ev Φ G (.gapp n e) en = kGa0 Φ G n e en (getE en n) := by
  simp only [ev]
  cases getE en n with
  | none => rfl
  | some s => cases s <;> rfl
theorem kGa0_g {rows : List (List D)} : kGa0 Φ G n e en (some (.mg rows)) = kGa n (ev Φ G e en) := rfl
theorem kGa_ok {ds : List D} : kGa n (.ok (.ml ds) en) = kGa1 n ds en (getE en n) := by
  show (match S.ml ds, getE en n with | .ml ds, some (.mg rows) => _ | _, _ => _) = _
  cases getE en n with
  | none => rfl
  | some s => cases s <;> rfl
theorem kGa1_g {rows : List (List D)} {ds : List D} (h : rows.length < SZ) : kGa1 n ds en (some (.mg rows)) = .ok (.dat .non) (en.set n (some (.mg (rows ++ [ds])))) := by show (if _ then _ else _) = _; rw [if_pos h]
theorem x_lcg : ev Φ G (.lcg elt tg one k src ifs own) en = kLg0 Φ G elt tg one k ifs own (evs Φ G src en) := by simp only [ev]; rfl
theorem kLg0_ok : kLg0 Φ G elt tg one k ifs own (.ok ss en) = kLg1 Φ G elt tg one ifs own en (itD k ss) := by
  show (match itD k ss with | some xs => _ | none => _) = _
  cases itD k ss <;> rfl
theorem kLg1_s : kLg1 Φ G elt tg one ifs own en (some xs) = kLg3 own en (kLgL Φ G elt tg one ifs own xs [] (wipeE en own)) := rfl
theorem kLg3_ok {rows : List (List D)} : kLg3 own en (.ok rows en1) = .ok (.mg rows) (restE en en1 own) := rfl
theorem kLgL_0 {acc : List (List D)} : kLgL Φ G elt tg one ifs own [] acc en = .ok acc en := rfl
theorem kLgL_s {v : D} {vs : List D} {acc acc2 : List (List D)} (h : kG1 Φ G elt ifs own acc (setD en tg one v) = .ok acc2 en1) : kLgL Φ G elt tg one ifs own (v :: vs) acc en = kLgL Φ G elt tg one ifs own vs acc2 en1 := by
  unfold kLgL
  simp only [loopL]
  have e : lgF (fun x1 x2 => setD x1 tg one x2) (fun en2 => evi Φ G ifs en2) (fun en3 => ev Φ G elt en3) own acc v en = kG1 Φ G elt ifs own acc (setD en tg one v) := by
    unfold lgF
    show (match setD en tg one v with | some en2 => _ | none => _) = _
    cases setD en tg one v <;> rfl
  rw [e, h]; rfl
theorem kG1_s {acc : List (List D)} : kG1 Φ G elt ifs own acc (some en) = kG2 Φ G elt own acc (evi Φ G ifs en) := rfl
theorem kG2_t {acc : List (List D)} : kG2 Φ G elt own acc (.ok true en) = kG4 own acc (ev Φ G elt en) := rfl
theorem kG2_f {acc : List (List D)} : kG2 Φ G elt own acc (.ok false en) = .ok acc (wipeE en own) := rfl
theorem kG4_ok {acc : List (List D)} {ds : List D} (h : acc.length < SZ) : kG4 own acc (.ok (.ml ds) en) = .ok (acc ++ [ds]) (wipeE en own) := by show (if _ then _ else _) = _; rw [if_pos h]
theorem x_lc2 {tg2 own2 : List Nat} {one2 : Bool} {k2 : IK} {src2 ifs2 : E} : ev Φ G (.lc2 elt tg one k src ifs tg2 one2 k2 src2 ifs2 own own2) en = k20 Φ G elt tg one k ifs tg2 one2 k2 src2 ifs2 own own2 (evs Φ G src en) := by simp only [ev]; rfl
theorem k20_ok {tg2 own2 : List Nat} {one2 : Bool} {k2 : IK} {src2 ifs2 : E} : k20 Φ G elt tg one k ifs tg2 one2 k2 src2 ifs2 own own2 (.ok ss en) = k21 Φ G elt tg one ifs tg2 one2 k2 src2 ifs2 own own2 en (itD k ss) := by
  show (match itD k ss with | some xs => _ | none => _) = _
  cases itD k ss <;> rfl
theorem k21_s {tg2 own2 : List Nat} {one2 : Bool} {k2 : IK} {src2 ifs2 : E} : k21 Φ G elt tg one ifs tg2 one2 k2 src2 ifs2 own own2 en (some xs) = kLc3 own en (k2L Φ G elt tg one ifs tg2 one2 k2 src2 ifs2 own own2 xs [] (wipeE en own)) := rfl
theorem k2L_0 {tg2 own2 : List Nat} {one2 : Bool} {k2 : IK} {src2 ifs2 : E} : k2L Φ G elt tg one ifs tg2 one2 k2 src2 ifs2 own own2 [] acc en = .ok acc en := rfl
theorem k2L_s {tg2 own2 : List Nat} {one2 : Bool} {k2 : IK} {src2 ifs2 : E} {v : D} {vs acc2 : List D} (h : k2T Φ G elt ifs tg2 one2 k2 src2 ifs2 own own2 acc (setD en tg one v) = .ok acc2 en1) : k2L Φ G elt tg one ifs tg2 one2 k2 src2 ifs2 own own2 (v :: vs) acc en = k2L Φ G elt tg one ifs tg2 one2 k2 src2 ifs2 own own2 vs acc2 en1 := by
  unfold k2L
  simp only [loopL]
  have e : l2F (fun x1 x2 => setD x1 tg one x2) (fun en2 => evi Φ G ifs en2) (fun en3 => evs Φ G src2 en3) k2 (lcF (fun x1 x2 => setD x1 tg2 one2 x2) (fun en2 => evi Φ G ifs2 en2) (fun en3 => ev Φ G elt en3) own2) own own2 acc v en = k2T Φ G elt ifs tg2 one2 k2 src2 ifs2 own own2 acc (setD en tg one v) := by
    unfold l2F
    show (match setD en tg one v with | some en2 => _ | none => _) = _
    cases setD en tg one v <;> rfl
  rw [e, h]; rfl
theorem k2T_s {tg2 own2 : List Nat} {one2 : Bool} {k2 : IK} {src2 ifs2 : E} : k2T Φ G elt ifs tg2 one2 k2 src2 ifs2 own own2 acc (some en) = k2T2 Φ G elt tg2 one2 k2 src2 ifs2 own own2 acc (evi Φ G ifs en) := rfl
theorem k2T2_t {tg2 own2 : List Nat} {one2 : Bool} {k2 : IK} {src2 ifs2 : E} : k2T2 Φ G elt tg2 one2 k2 src2 ifs2 own own2 acc (.ok true en) = k2T3 Φ G elt tg2 one2 k2 ifs2 own own2 acc (evs Φ G src2 en) := rfl
theorem k2T2_f {tg2 own2 : List Nat} {one2 : Bool} {k2 : IK} {src2 ifs2 : E} : k2T2 Φ G elt tg2 one2 k2 src2 ifs2 own own2 acc (.ok false en) = .ok acc (wipeE en own) := rfl
theorem k2T3_ok {tg2 own2 : List Nat} {one2 : Bool} {k2 : IK} {ifs2 : E} : k2T3 Φ G elt tg2 one2 k2 ifs2 own own2 acc (.ok ss en) = k2T4 Φ G elt tg2 one2 ifs2 own own2 acc en (itD k2 ss) := by
  show (match itD k2 ss with | some xs => _ | none => _) = _
  cases itD k2 ss <;> rfl
theorem k2T4_s {tg2 own2 : List Nat} {one2 : Bool} {ifs2 : E} {ys : List D} : k2T4 Φ G elt tg2 one2 ifs2 own own2 acc en (some ys) = k2T5 own (kLcL Φ G elt tg2 one2 ifs2 own2 ys acc (wipeE en own2)) := rfl
theorem k2T5_ok : k2T5 own (.ok acc en) = .ok acc (wipeE en own) := rfl
theorem x_callv : ev Φ G (.callv n es) en = kCv Φ G es en (getE en n) := by
  simp only [ev]
  cases getE en n with
  | none => rfl
  | some s =>
    cases s with
    | dat d => cases d <;> rfl
    | _ => rfl
theorem kCv_f : kCv Φ G es en (some (.dat (.fn f))) = kCall Φ f es (kNox (eva Φ G es en)) := rfl
theorem kNox_ok {α : Type} {z : α} : kNox (.ok z en) = .ok z en := rfl
theorem x_andT : evT Φ G (.and_ a b) en = kAndT Φ G b (evT Φ G a en) := by simp only [evT]; rfl
theorem kAndT_ok {t : Bool} : kAndT Φ G b (.ok t en) = kAndT2 Φ G b en t := by cases t <;> rfl
theorem kAndT2_t : kAndT2 Φ G b en true = evT Φ G b en := rfl
theorem kAndT2_f : kAndT2 Φ G b en false = .ok false en := rfl
theorem x_orT : evT Φ G (.or_ a b) en = kOrT Φ G b (evT Φ G a en) := by simp only [evT]; rfl
theorem kOrT_ok {t : Bool} : kOrT Φ G b (.ok t en) = kOrT2 Φ G b en t := by cases t <;> rfl
theorem kOrT2_t : kOrT2 Φ G b en true = .ok true en := rfl
theorem kOrT2_f : kOrT2 Φ G b en false = evT Φ G b en := rfl
theorem x_notT : evT Φ G (.not_ a) en = kNotT (evT Φ G a en) := by simp only [evT]; rfl
theorem kNotT_ok {t : Bool} : kNotT (.ok t en) = .ok (!t) en := rfl
theorem x_cmpT : evT Φ G (.cmp o a b) en = kCmpT Φ G o a b (opn Φ G a en) := by simp only [evT]; rfl
theorem kCmpT_ok : kCmpT Φ G o a b (.ok x en) = kCmpT2 o a x (opn Φ G b en) := rfl
theorem kCmpT2_ok : kCmpT2 o a x (.ok y en) = kOfB (kCmp3 o y (reg a x en)) en := by
  show R.of _ en = _
  rw [of_kOfB]
  cases reg a x en <;> rfl
theorem x_chnT : evT Φ G (.chn o p a b c) en = kChnT Φ G o p b c (ev Φ G a en) := by simp only [evT]; rfl
theorem kChnT_ok : kChnT Φ G o p b c (.ok x en) = kChnT2 Φ G o p c x (ev Φ G b en) := rfl
theorem kChnT2_ok : kChnT2 Φ G o p c x (.ok y en) = kChnT3 Φ G p c y en (cmpS o x y) := by
  show (match cmpS o x y with | some true => _ | some false => _ | none => _) = _
  cases cmpS o x y with
  | none => rfl
  | some t => cases t <;> rfl
theorem kChnT3_t : kChnT3 Φ G p c y en (some true) = kChnT4 p y (ev Φ G c en) := rfl
theorem kChnT3_f : kChnT3 Φ G p c y en (some false) = .ok false en := rfl
theorem kChnT4_ok : kChnT4 p y (.ok x en) = kOfB (cmpS p y x) en := by show R.of _ en = _; rw [of_kOfB]
theorem x_tru (h : e.isT = false) : evT Φ G e en = kTru (opn Φ G e en) := by rw [evT_eq h]; rfl
theorem kTru_ok : kTru (.ok x en) = kOfB (truD x) en := by show R.of _ en = _; rw [of_kOfB]
/-! statements -/
variable {u v : P} {r : RS} {t t2 : Tg} {rs : R S}
theorem y_nil : evS Φ G fu .nil en = .nx en := by simp only [evS]
theorem y_cons : evS Φ G fu (.cons u v) en = kSeq Φ G fu v (evS Φ G fu u en) := by simp only [evS]; rfl
theorem kSeq_nx : kSeq Φ G fu v (.nx en) = evS Φ G fu v en := rfl
theorem kSeq_rt : kSeq Φ G fu v (.rt s en) = .rt s en := rfl
theorem kSeq_bk : kSeq Φ G fu v (.bk en) = .bk en := rfl
theorem kSeq_ct : kSeq Φ G fu v (.ct en) = .ct en := rfl
theorem kSeq_x : kSeq Φ G fu v (.exc cc dd en) = .exc cc dd en := rfl
theorem y_asg : evS Φ G fu (.asg t e) en = kAsg Φ G t (ev Φ G e en) := by simp only [evS]; rfl
theorem kAsg_ok : kAsg Φ G t (.ok s en) = RS.ofO (evG Φ G t s en) := rfl
theorem ofO_s : RS.ofO (some en) = .nx en := rfl
theorem y_asgU : evS Φ G fu (.asgU t e) en = kAsgU Φ G t (ev Φ G e en) := by simp only [evS]; rfl
theorem kAsgU_ok : kAsgU Φ G t (.ok s en) = kAsgU2 Φ G t en (unpack s) := by
  show (match unpack s with | some ss => _ | none => _) = _
  cases unpack s <;> rfl
theorem kAsgU2_s : kAsgU2 Φ G t en (some ss) = RS.ofO (evGs Φ G t ss en) := rfl
theorem unpack_t : unpack (.dat (.tup xs)) = some (xs.map .dat) := rfl
theorem y_asgT : evS Φ G fu (.asgT t es) en = kAsgT Φ G t (evs Φ G es en) := by simp only [evS]; rfl
theorem kAsgT_ok : kAsgT Φ G t (.ok ss en) = RS.ofO (evGs Φ G t ss en) := rfl
theorem g_nm : evG Φ G (.nm n) s en = some (en.set n (some s)) := rfl
theorem g_ix : evG Φ G (.ix n e) s en = kGix0 Φ G n e s en (getE en n) := by
  simp only [evG]
  cases getE en n with
  | none => rfl
  | some s => cases s <;> rfl
theorem kGix0_m {ds : List D} : kGix0 Φ G n e s en (some (.ml ds)) = kGix n s (opn Φ G e en) := rfl
theorem kGix_ok {j : Int} : kGix n s (.ok (.dat (.int j)) en) = kGix2 n s j en (getE en n) := by
  show (match getE en n with | some (.ml ds) => _ | _ => _) = _
  cases getE en n with
  | none => rfl
  | some s => cases s <;> rfl
theorem kGix2_m {ds : List D} {j : Int} : kGix2 n s j en (some (.ml ds)) = kSt n s ds en (ixN ds.length j) := by
  show (ixN ds.length j).map _ = _
  cases ixN ds.length j <;> rfl
theorem kSt_s {ds : List D} {j : Nat} : kSt n s ds en (some j) = some (en.set n (some (.ml (ds.set j (fz s))))) := rfl
theorem g_gst : evG Φ G (.gst n a b) s en = kGs0 Φ G n a b s en (getE en n) := by
  simp only [evG]
  cases getE en n with
  | none => rfl
  | some s => cases s <;> rfl
theorem kGs0_g {rows : List (List D)} : kGs0 Φ G n a b s en (some (.mg rows)) = kGs1 Φ G n b s rows (opn Φ G a (en.set n none)) := by
  show (match opn Φ G a (en.set n none) with | .ok a en1 => _ | _ => _) = _
  cases opn Φ G a (en.set n none) <;> rfl
theorem kGs1_ok {rows : List (List D)} : kGs1 Φ G n b s rows (.ok x en) = kGs2 Φ G n b s rows en (gRow rows x) := by
  show (match gRow rows x with | some r => _ | none => _) = _
  cases gRow rows x <;> rfl
theorem kGs2_s {rows : List (List D)} {r : Nat × List D} : kGs2 Φ G n b s rows en (some r) = kGs3 n s rows r (opn Φ G b en) := by
  show (match opn Φ G b en with | .ok b en2 => _ | _ => _) = _
  cases opn Φ G b en <;> rfl
theorem kGs3_ok {rows : List (List D)} {r : Nat × List D} : kGs3 n s rows r (.ok x en) = kGs4 n s rows r en (gIx r.2 x) := by
  show (gIx r.2 x).map _ = _
  cases gIx r.2 x <;> rfl
theorem gIx_i {r : List D} {j : Int} : gIx r (.dat (.int j)) = ixN r.length j := rfl
theorem kGs4_s {rows : List (List D)} {r : Nat × List D} {l : Nat} : kGs4 n s rows r en (some l) = some (en.set n (some (.mg (rows.set r.1 (r.2.set l (fz s)))))) := rfl
theorem g_grw {ds : List D} : evG Φ G (.grw n a) (.ml ds) en = kGr0 Φ G n a ds en (getE en n) := by
  simp only [evG]
  cases getE en n with
  | none => rfl
  | some s => cases s <;> rfl
theorem kGr0_g {ds : List D} {rows : List (List D)} : kGr0 Φ G n a ds en (some (.mg rows)) = kGr1 n ds rows (opn Φ G a (en.set n none)) := by
  show (match opn Φ G a (en.set n none) with | .ok a en1 => _ | _ => _) = _
  cases opn Φ G a (en.set n none) <;> rfl
theorem kGr1_ok {ds : List D} {rows : List (List D)} : kGr1 n ds rows (.ok x en) = kGr2 n ds rows en (gRow rows x) := by
  show (gRow rows x).map _ = _
  cases gRow rows x <;> rfl
theorem kGr2_s {ds : List D} {rows : List (List D)} {r : Nat × List D} : kGr2 n ds rows en (some r) = some (en.set n (some (.mg (rows.set r.1 ds)))) := rfl
theorem g_0 : evGs Φ G .tnil [] en = some en := by simp only [evGs]
theorem g_s : evGs Φ G (.tcons t t2) (s :: ss) en = kG Φ G t2 ss (evG Φ G t s en) := by
  simp only [evGs]
  cases evG Φ G t s en <;> rfl
theorem kG_s : kG Φ G t ss (some en) = evGs Φ G t ss en := rfl
theorem y_expr : evS Φ G fu (.expr e) en = kExpr (ev Φ G e en) := by simp only [evS]; rfl
theorem kExpr_ok : kExpr (.ok s en) = .nx en := rfl
theorem kExpr_x : kExpr (.exc cc dd en) = .exc cc dd en := rfl
theorem y_retv : evS Φ G fu (.ret (.var n)) en = kRet (kEvr n en (getE en n)) := by
  simp only [evS, evr]
  cases getE en n <;> rfl
theorem kEvr_s : kEvr n en (some s) = .ok s (en.set n none) := rfl
theorem y_ret (h : e.isV = false) : evS Φ G fu (.ret e) en = kRet (ev Φ G e en) := by simp only [evS, evr_eq h]; rfl
theorem kRet_ok : kRet (.ok s en) = .rt s en := rfl
theorem y_retN : evS Φ G fu .retN en = .rt (.dat .non) en := by simp only [evS]
theorem y_if : evS Φ G fu (.iff c u v) en = kIf Φ G fu u v (evT Φ G c en) := by simp only [evS]; rfl
theorem kIf_ok {t : Bool} : kIf Φ G fu u v (.ok t en) = kIf2 Φ G fu u v en t := by cases t <;> rfl
theorem kIf2_t : kIf2 Φ G fu u v en true = evS Φ G fu u en := rfl
theorem kIf2_f : kIf2 Φ G fu u v en false = evS Φ G fu v en := rfl
theorem y_for : evS Φ G fu (.for_ tg one k src u) en = kFor0 Φ G fu tg one k u (evs Φ G src en) := by simp only [evS]; rfl
theorem kFor0_ok : kFor0 Φ G fu tg one k u (.ok ss en) = kFor1 Φ G fu tg one u en (itD k ss) := by
  show (match itD k ss with | some xs => _ | none => _) = _
  cases itD k ss <;> rfl
theorem kFor1_s : kFor1 Φ G fu tg one u en (some xs) = kFor Φ G fu tg one u xs en := rfl
theorem kFor_0 : kFor Φ G fu tg one u [] en = .nx en := rfl
theorem kFor_s {v : D} {vs : List D} : kFor Φ G fu tg one u (v :: vs) en = kForN Φ G fu tg one u vs (kForS Φ G fu u (setD en tg one v)) := by
  unfold kFor
  simp only [loopF]
  cases setD en tg one v with
  | none => rfl
  | some en2 =>
    show (match evS Φ G fu u en2 with | .nx en => _ | .ct en => _ | .bk en => _ | .rt s en => _ | .exc c d en => _ | .stuck => _) = kForN Φ G fu tg one u vs (evS Φ G fu u en2)
    cases evS Φ G fu u en2 <;> rfl
theorem kForS_s : kForS Φ G fu u (some en) = evS Φ G fu u en := rfl
theorem kForN_nx : kForN Φ G fu tg one u xs (.nx en) = kFor Φ G fu tg one u xs en := rfl
theorem kForN_ct : kForN Φ G fu tg one u xs (.ct en) = kFor Φ G fu tg one u xs en := rfl
theorem kForN_bk : kForN Φ G fu tg one u xs (.bk en) = .nx en := rfl
theorem kForN_rt : kForN Φ G fu tg one u xs (.rt s en) = .rt s en := rfl
theorem kForN_x : kForN Φ G fu tg one u xs (.exc cc dd en) = .exc cc dd en := rfl
theorem y_forv : evS Φ G fu (.forv tg one k n u) en = kFv Φ G fu tg one k n u en (getE en n) := by
  simp only [evS]
  cases getE en n with
  | none => rfl
  | some s =>
    show (match itD k [s] with | some xs => _ | none => _) = kFv1 Φ G fu n s tg one u en (itD k [s])
    cases itD k [s] <;> rfl
theorem kFv_s : kFv Φ G fu tg one k n u en (some s) = kFv1 Φ G fu n s tg one u en (itD k [s]) := rfl
theorem kFv1_s : kFv1 Φ G fu n s tg one u en (some xs) = kPut n s (kFor Φ G fu tg one u xs (en.set n none)) := rfl
theorem kPut_nx : kPut n s (.nx en) = .nx (en.set n (some s)) := rfl
theorem kPut_rt {q : S} : kPut n s (.rt q en) = .rt q (en.set n (some s)) := rfl
theorem kPut_bk : kPut n s (.bk en) = .bk (en.set n (some s)) := rfl
theorem kPut_ct : kPut n s (.ct en) = .ct (en.set n (some s)) := rfl
theorem kPut_x : kPut n s (.exc cc dd en) = .exc cc dd (en.set n (some s)) := rfl
theorem y_whl : evS Φ G fu (.whl c u) en = kWhl Φ G fu c u fu en := by simp only [evS]; rfl
theorem kWhl_s : kWhl Φ G fu c u (n + 1) en = kWhl1 Φ G fu c u n (evT Φ G c en) := rfl
theorem kWhl1_t : kWhl1 Φ G fu c u n (.ok true en) = kWhlN Φ G fu c u n (evS Φ G fu u en) := by
  show (match evS Φ G fu u en with | .nx en => _ | .ct en => _ | .bk en => _ | .rt s en => _ | .exc c d en => _ | .stuck => _) = _
  cases evS Φ G fu u en <;> rfl
theorem kWhl1_f : kWhl1 Φ G fu c u n (.ok false en) = .nx en := rfl
theorem kWhlN_nx : kWhlN Φ G fu c u n (.nx en) = kWhl Φ G fu c u n en := rfl
theorem kWhlN_ct : kWhlN Φ G fu c u n (.ct en) = kWhl Φ G fu c u n en := rfl
theorem kWhlN_bk : kWhlN Φ G fu c u n (.bk en) = .nx en := rfl
theorem kWhlN_rt : kWhlN Φ G fu c u n (.rt s en) = .rt s en := rfl
theorem y_brk : evS Φ G fu .brk en = .bk en := by simp only [evS]
theorem y_cnt : evS Φ G fu .cnt en = .ct en := by simp only [evS]
theorem y_pass : evS Φ G fu .pass en = .nx en := by simp only [evS]
/-! slots -/
theorem getE_0 (o : Option S) (en : En) : getE (o :: en) 0 = o := by cases o <;> rfl
theorem getE_s (o : Option S) (en : En) (i : Nat) : getE (o :: en) (i + 1) = getE en i := rfl
theorem reg_v : reg (.var n) s en = getE en n := rfl
theorem reg_e (h : e.isV = false) : reg e s en = some s := by cases e <;> first | rfl | (exact absurd h (by simp [E.isV]))
/-! values -/
theorem add_i {i j : Int} : binS .Add (.dat (.int i)) (.dat (.int j)) = some (.dat (.int (i + j))) := rfl
theorem sub_i {i j : Int} : binS .Sub (.dat (.int i)) (.dat (.int j)) = some (.dat (.int (i - j))) := rfl
theorem mul_i {i j : Int} (h : i.natAbs.log2 + j.natAbs.log2 < 1000000) : binS .Mult (.dat (.int i)) (.dat (.int j)) = some (.dat (.int (i * j))) := by
  show (if _ then _ else _) = _
  rw [if_pos (.inl h)]
theorem mul_l {i j : Int} (h1 : -18446744073709551616 < i) (h2 : i < 18446744073709551616) : binS .Mult (.dat (.int i)) (.dat (.int j)) = some (.dat (.int (i * j))) := by
  show (if _ then _ else _) = _
  rw [if_pos (.inr (.inl ⟨h1, h2⟩))]
theorem mul_r {i j : Int} (h1 : -18446744073709551616 < j) (h2 : j < 18446744073709551616) : binS .Mult (.dat (.int i)) (.dat (.int j)) = some (.dat (.int (i * j))) := by
  show (if _ then _ else _) = _
  rw [if_pos (.inr (.inr ⟨h1, h2⟩))]
theorem fdv_i {i j : Int} (h : 0 < j ∧ j.natAbs.log2 < 9000) : binS .FloorDiv (.dat (.int i)) (.dat (.int j)) = some (.dat (.int (i / j))) := by
  show (if _ then _ else _) = _
  rw [if_pos h]
theorem mod_i {i j : Int} (h : 0 < j) : binS .Mod (.dat (.int i)) (.dat (.int j)) = some (.dat (.int (i % j))) := by
  show (if _ then _ else _) = _
  rw [if_pos h]
theorem pow_i {i j : Int} (h : 0 ≤ j ∧ j ≤ 1000000 ∧ i.natAbs < 2 ^ 64) : binS .Pow (.dat (.int i)) (.dat (.int j)) = some (.dat (.int (i ^ j.toNat))) := by
  show (if _ then _ else _) = _
  rw [if_pos h]
theorem lt_i {i j : Int} : cmpS .Lt (.dat (.int i)) (.dat (.int j)) = some (decide (i < j)) := rfl
theorem le_i {i j : Int} : cmpS .LtE (.dat (.int i)) (.dat (.int j)) = some (decide (i ≤ j)) := rfl
theorem gt_i {i j : Int} : cmpS .Gt (.dat (.int i)) (.dat (.int j)) = some (decide (j < i)) := rfl
theorem ge_i {i j : Int} : cmpS .GtE (.dat (.int i)) (.dat (.int j)) = some (decide (j ≤ i)) := rfl
theorem eq_i {i j : Int} : cmpS .Eq (.dat (.int i)) (.dat (.int j)) = some (decide (i = j)) := by
  show eqS _ _ = _
  unfold eqS
  rw [if_pos (by rfl)]
  simp only [fz, eqD]
  congr 1
theorem ne_i {i j : Int} : cmpS .NotEq (.dat (.int i)) (.dat (.int j)) = some (!decide (i = j)) := by
  have := eq_i (i := i) (j := j)
  show (cmpS .Eq (.dat (.int i)) (.dat (.int j))).map not = _
  rw [this]; rfl
theorem tru_b {t : Bool} : truD (.dat (.bl t)) = some t := rfl
theorem tru_i {i : Int} : truD (.dat (.int i)) = some (i != 0) := rfl
theorem ix_t {xs : List D} {j : Int} : ixS (.dat (.tup xs)) (.dat (.int j)) = atI xs j := rfl
theorem ix_l {xs : List D} {j : Int} : ixS (.dat (.lst xs)) (.dat (.int j)) = atI xs j := rfl
theorem ix_m {xs : List D} {j : Int} : ixS (.ml xs) (.dat (.int j)) = atI xs j := rfl
theorem ix_c {ns : List Int} {j : Int} : ixS (.dat (.scr ns)) (.dat (.int j)) = atI (ns.map .int) j := rfl
theorem len_t {xs : List D} : biS1 .len (.dat (.tup xs)) = some (.dat (.int xs.length)) := rfl
theorem len_l {xs : List D} : biS1 .len (.dat (.lst xs)) = some (.dat (.int xs.length)) := rfl
theorem len_m {xs : List D} : biS1 .len (.ml xs) = some (.dat (.int xs.length)) := rfl
theorem len_c {ns : List Int} : biS1 .len (.dat (.scr ns)) = some (.dat (.int ns.length)) := by
  show some (S.dat (D.int (ns.map D.int).length)) = _
  rw [List.length_map]
theorem abs_i {i : Int} : biS1 .abs (.dat (.int i)) = some (.dat (.int (if i < 0 then -i else i))) := rfl
theorem int_i {i : Int} : biS1 .int (.dat (.int i)) = some (.dat (.int i)) := rfl
theorem int_b {t : Bool} : biS1 .int (.dat (.bl t)) = some (.dat (.int (if t then 1 else 0))) := rfl
theorem max_i {i j : Int} : biS2 .max2 (.dat (.int i)) (.dat (.int j)) = some (.dat (.int (if j > i then j else i))) := rfl
theorem min_i {i j : Int} : biS2 .min2 (.dat (.int i)) (.dat (.int j)) = some (.dat (.int (if j < i then j else i))) := rfl
theorem gcd_i {i j : Int} : biS2 .gcd (.dat (.int i)) (.dat (.int j)) = some (.dat (.int (Int.gcd i j))) := rfl
theorem dvm_i {i j : Int} (h : 0 < j ∧ j < 1073741824) : biS2 .divmod (.dat (.int i)) (.dat (.int j)) = some (.dat (.tup [.int (i / j), .int (i % j)])) := by
  show (if _ then _ else _) = _
  rw [if_pos h]
theorem run_ok {d : Fn} (h : ss.length = d.np) : runFn Φ G fu d ss = endF d.kp (evS Φ G fu d.b (ss.map some ++ List.replicate (d.n - d.np) none)) := by unfold runFn; rw [if_pos h]
theorem end_rt {kp : List Bool} : endF kp (.rt s en) = .ret s (finE kp en) := rfl
theorem end_nx {kp : List Bool} : endF kp (.nx en) = .ret (.dat .non) (finE kp en) := rfl
theorem end_x {kp : List Bool} : endF kp (.exc cc dd en) = .exc cc dd := rfl
theorem fin_0 : finE [] en = [] := by cases en <;> rfl
theorem fin_t {kp : List Bool} {o : Option S} : finE (true :: kp) (o :: en) = o :: finE kp en := rfl
theorem fin_f {kp : List Bool} {o : Option S} : finE (false :: kp) (o :: en) = none :: finE kp en := rfl
end
end Eng

set_option Elab.async false
set_option linter.all false
set_option maxRecDepth 100000
set_option maxHeartbeats 4000000
namespace Eng
open PySem PySem.Spec PyProof.Rows L2 RZ
section
variable {Φ : Str → List S → FR} {G : Str → Option D} {fu : Nat} {d a b c e f g h : D} {xs : List D} {n : Nat}
theorem at_nat {xs : List D} {m : Nat} : atI xs ((m : Nat) : Int) = xs[m]? := by
  by_cases h : m < xs.length
  · exact (atI_nat (List.getElem?_eq_getElem h)).trans (List.getElem?_eq_getElem h).symm
  · rw [List.getElem?_eq_none (by omega)]
    unfold atI ixN
    rw [if_pos (by omega), if_neg (by omega)]; rfl
theorem at_0 : atI (a :: xs) 0 = some a := (at_nat (m := 0)).trans rfl
theorem at_1 : atI (a :: b :: xs) 1 = some b := (at_nat (m := 1)).trans rfl
theorem at_2 : atI (a :: b :: c :: xs) 2 = some c := (at_nat (m := 2)).trans rfl
theorem at_3 : atI (a :: b :: c :: d :: xs) 3 = some d := (at_nat (m := 3)).trans rfl
theorem at_4 : atI (a :: b :: c :: d :: e :: xs) 4 = some e := (at_nat (m := 4)).trans rfl
theorem at_5 : atI (a :: b :: c :: d :: e :: f :: xs) 5 = some f := (at_nat (m := 5)).trans rfl
theorem at_6 : atI (a :: b :: c :: d :: e :: f :: g :: xs) 6 = some g := (at_nat (m := 6)).trans rfl
theorem at_z : atI ([] : List D) n = none := by rw [at_nat]; rfl
theorem ixN_nat {n j : Nat} (h : j < n) : ixN n (j : Int) = some j := by
  unfold ixN
  rw [if_pos (by omega), if_pos (by omega)]; simp
theorem ixN_0 : ixN (n + 1) 0 = some 0 := ixN_nat (j := 0) (by omega)
theorem ixN_1 : ixN (n + 2) 1 = some 1 := ixN_nat (j := 1) (by omega)
theorem ixN_2 : ixN (n + 3) 2 = some 2 := ixN_nat (j := 2) (by omega)
theorem ixN_3 : ixN (n + 4) 3 = some 3 := ixN_nat (j := 3) (by omega)
theorem ixN_4 : ixN (n + 5) 4 = some 4 := ixN_nat (j := 4) (by omega)
theorem bf_of {b : Bool} (h : (b == false) = true) : b = false := by simpa using h
/-! bounds of numbers -/
theorem log_lt {i : Int} {k : Nat} (h1 : -(2 ^ k : Int) < i) (h2 : i < 2 ^ k) : i.natAbs.log2 < k ∨ i = 0 := by
  by_cases h0 : i = 0
  · exact .inr h0
  · refine .inl ((Nat.log2_lt (by omega)).mpr ?_)
    have : (i.natAbs : Int) < ((2 ^ k : Nat) : Int) := by
      push_cast
      omega
    exact_mod_cast this
theorem log_le {i : Int} {k : Nat} (h1 : -(2 ^ k : Int) < i) (h2 : i < 2 ^ k) : i.natAbs.log2 ≤ k := by
  rcases log_lt h1 h2 with h | h
  · omega
  · subst h; simp
theorem mul_lt {i j : Int} {k l : Nat} (h1 : -(2 ^ k : Int) < i) (h2 : i < 2 ^ k) (h3 : -(2 ^ l : Int) < j) (h4 : j < 2 ^ l) (h : k + l < 1000000) : i.natAbs.log2 + j.natAbs.log2 < 1000000 := by
  have := log_le h1 h2
  have := log_le h3 h4
  omega
theorem mul_64 {i j : Int} (h1 : -18446744073709551616 < i) (h2 : i < 18446744073709551616) (h3 : -18446744073709551616 < j) (h4 : j < 18446744073709551616) : binS .Mult (.dat (.int i)) (.dat (.int j)) = some (.dat (.int (i * j))) :=
  mul_i (mul_lt (k := 64) (l := 64) h1 h2 h3 h4 (by omega))
theorem fdv_64 {i j : Int} (h1 : 0 < j) (h2 : j < 18446744073709551616) : binS .FloorDiv (.dat (.int i)) (.dat (.int j)) = some (.dat (.int (i / j))) :=
  fdv_i ⟨h1, Nat.lt_of_le_of_lt (log_le (k := 64) (by omega) h2) (by omega)⟩
theorem dvm_64 {i j : Int} (h1 : 0 < j) (h2 : j < 1073741824) : biS2 .divmod (.dat (.int i)) (.dat (.int j)) = some (.dat (.tup [.int (i / j), .int (i % j)])) := dvm_i ⟨h1, h2⟩
theorem pow_64 {i j : Int} (h1 : 0 ≤ j) (h2 : j ≤ 1000) (h3 : 0 ≤ i) (h4 : i < 18446744073709551616) : binS .Pow (.dat (.int i)) (.dat (.int j)) = some (.dat (.int (i ^ j.toNat))) := pow_i ⟨h1, by omega, by omega⟩
/-! what is walked -/
theorem itd_t : itD .seq [.dat (.tup xs)] = some xs := rfl
theorem itd_l : itD .seq [.dat (.lst xs)] = some xs := rfl
theorem itd_m : itD .seq [.ml xs] = some xs := rfl
theorem itd_c {ns : List Int} : itD .seq [.dat (.scr ns)] = some (ns.map .int) := rfl
theorem itd_et : itD .enum [.dat (.tup xs)] = some (enumD 0 xs) := rfl
theorem itd_el : itD .enum [.dat (.lst xs)] = some (enumD 0 xs) := rfl
theorem itd_em : itD .enum [.ml xs] = some (enumD 0 xs) := rfl
theorem itd_zt {ys : List D} : itD .zip [.dat (.tup xs), .dat (.tup ys)] = some (zipD xs ys) := rfl
theorem itd_zl {ys : List D} : itD .zip [.dat (.lst xs), .dat (.lst ys)] = some (zipD xs ys) := rfl
theorem itd_r1 {m : Int} (h1 : -4611686018427387904 ≤ m) (h2 : m < 4611686018427387904) : itD .r1 [.dat (.int m)] = some (rgD 0 m) := by
  show (if _ then _ else _) = _
  rw [if_pos (by unfold rgOk; simp; omega)]
theorem itd_r2 {l m : Int} (h1 : -4611686018427387904 ≤ l) (h2 : l < 4611686018427387904) (h3 : -4611686018427387904 ≤ m) (h4 : m < 4611686018427387904) : itD .r2 [.dat (.int l), .dat (.int m)] = some (rgD l m) := by
  show (if _ then _ else _) = _
  rw [if_pos (by unfold rgOk; simp; omega)]
theorem rgD_len {l m : Int} : (rgD l m).length = (m - l).toNat := by unfold rgD; simp
theorem rgD_get {l m : Int} {i : Nat} {x : D} (h : (rgD l m)[i]? = some x) : x = .int (l + (i : Nat)) ∧ (i : Int) < m - l := by
  have hi : i < (m - l).toNat := by
    have := (List.getElem?_eq_some_iff.mp h).1
    rwa [rgD_len] at this
  unfold rgD at h
  rw [List.getElem?_map, List.getElem?_range hi] at h
  cases h
  exact ⟨rfl, by omega⟩
theorem dBls_map {α : Type} (f : α → Bool) : ∀ ys : List α, dBls (ys.map fun y => D.bl (f y)) = some (ys.map f)
  | [] => rfl
  | y :: ys => by simp [dBls, truI, dBls_map f ys]
theorem dBls_int {α : Type} (f : α → Int) : ∀ ys : List α, dBls (ys.map fun y => D.int (f y)) = some (ys.map fun y => f y != 0)
  | [] => rfl
  | y :: ys => by simp [dBls, truI, dBls_int f ys]
theorem dInts_map {α : Type} (f : α → Int) : ∀ ys : List α, dInts (ys.map fun y => D.int (f y)) = some (ys.map f)
  | [] => rfl
  | y :: ys => by simp [dInts, dInts_map f ys]
theorem all_m {α : Type} {f : α → Bool} {ys : List α} : biS1 .all (.ml (ys.map fun y => D.bl (f y))) = some (.dat (.bl (ys.all f))) := by
  show ((dBls (ys.map fun y => D.bl (f y))).map fun bs => S.dat (.bl (bs.all id))) = _
  rw [dBls_map]; simp [List.all_map]
theorem any_m {α : Type} {f : α → Bool} {ys : List α} : biS1 .any (.ml (ys.map fun y => D.bl (f y))) = some (.dat (.bl (ys.any f))) := by
  show ((dBls (ys.map fun y => D.bl (f y))).map fun bs => S.dat (.bl (bs.any id))) = _
  rw [dBls_map]; simp [List.any_map]
theorem sum_m {α : Type} {f : α → Int} {ys : List α} : biS1 .sum (.ml (ys.map fun y => D.int (f y))) = some (.dat (.int (ys.map f).sum)) := by
  show ((dInts (ys.map fun y => D.int (f y))).map fun ns => S.dat (.int ns.sum)) = _
  rw [dInts_map]; rfl
theorem sum_t {α : Type} {f : α → Int} {ys : List α} : biS1 .sum (.dat (.tup (ys.map fun y => D.int (f y)))) = some (.dat (.int (ys.map f).sum)) := by
  show ((dInts (ys.map fun y => D.int (f y))).map fun ns => S.dat (.int ns.sum)) = _
  rw [dInts_map]; rfl
theorem sum_ti {ns : List Int} : biS1 .sum (.dat (.tup (ns.map .int))) = some (.dat (.int ns.sum)) := by
  have := sum_t (f := fun y : Int => y) (ys := ns)
  rwa [List.map_id'] at this
theorem sum_mi {ns : List Int} : biS1 .sum (.ml (ns.map .int)) = some (.dat (.int ns.sum)) := by
  have := sum_m (f := fun y : Int => y) (ys := ns)
  rwa [List.map_id'] at this
theorem maxI_some : ∀ {ns : List Int}, ns ≠ [] → ∃ m, maxI ns = some m
  | [], h => absurd rfl h
  | [a], _ => ⟨a, rfl⟩
  | a :: b :: r, _ => by
    obtain ⟨m, h⟩ := maxI_some (ns := b :: r) (by simp)
    rw [maxI]
    · rw [h]; exact ⟨_, rfl⟩
    · simp
theorem minI_some : ∀ {ns : List Int}, ns ≠ [] → ∃ m, minI ns = some m
  | [], h => absurd rfl h
  | [a], _ => ⟨a, rfl⟩
  | a :: b :: r, _ => by
    obtain ⟨m, h⟩ := minI_some (ns := b :: r) (by simp)
    rw [minI]
    · rw [h]; exact ⟨_, rfl⟩
    · simp
theorem nums_mi {ns : List Int} : numsS (.ml (ns.map .int)) = some ns := by
  show dInts (ns.map .int) = _
  have := dInts_map (fun y : Int => y) ns
  rwa [List.map_id'] at this
theorem nums_ti {ns : List Int} : numsS (.dat (.tup (ns.map .int))) = some ns := nums_mi
theorem max_mi {ns : List Int} (h : ns ≠ []) : ∃ m, biS1 .max1 (.ml (ns.map .int)) = some (.dat (.int m)) ∧ m ∈ ns ∧ ∀ y ∈ ns, y ≤ m := by
  obtain ⟨m, e⟩ := maxI_some h
  refine ⟨m, ?_, maxI_ok e⟩
  show ((numsS (.ml (ns.map .int))).bind fun ns => (maxI ns).map fun m => S.dat (.int m)) = _
  rw [nums_mi, Option.bind_some, e]; rfl
theorem max_ti {ns : List Int} (h : ns ≠ []) : ∃ m, biS1 .max1 (.dat (.tup (ns.map .int))) = some (.dat (.int m)) ∧ m ∈ ns ∧ ∀ y ∈ ns, y ≤ m := max_mi h
theorem is_nn : cmpS .Is (.dat .non) (.dat .non) = some true := rfl
theorem is_in {i : Int} : cmpS .Is (.dat (.int i)) (.dat .non) = some false := rfl
theorem is_bn {i : Bool} : cmpS .Is (.dat (.bl i)) (.dat .non) = some false := rfl
theorem is_sn {i : Str} : cmpS .Is (.dat (.str i)) (.dat .non) = some false := rfl
theorem is_tn : cmpS .Is (.dat (.tup xs)) (.dat .non) = some false := rfl
theorem is_ln : cmpS .Is (.dat (.lst xs)) (.dat .non) = some false := rfl
theorem is_mn : cmpS .Is (.ml xs) (.dat .non) = some false := rfl
theorem eq_bb {i j : Bool} : cmpS .Eq (.dat (.bl i)) (.dat (.bl j)) = some (i == j) := by cases i <;> cases j <;> rfl
theorem ne_bb {i j : Bool} : cmpS .NotEq (.dat (.bl i)) (.dat (.bl j)) = some (i != j) := by cases i <;> cases j <;> rfl
theorem tup_m : biS1 .tuple (.ml xs) = some (.dat (.tup xs)) := rfl
theorem tup_l : biS1 .tuple (.dat (.lst xs)) = some (.dat (.tup xs)) := rfl
theorem tup_t : biS1 .tuple (.dat (.tup xs)) = some (.dat (.tup xs)) := rfl
theorem lis_t : biS1 .list (.dat (.tup xs)) = some (.ml xs) := rfl
theorem lis_m : biS1 .list (.ml xs) = some (.ml xs) := rfl
theorem lis_l : biS1 .list (.dat (.lst xs)) = some (.ml xs) := rfl
theorem add_t {ys : List D} (h : xs.length + ys.length ≤ SZ) : binS .Add (.dat (.tup xs)) (.dat (.tup ys)) = some (.dat (.tup (xs ++ ys))) := by
  show (if _ then _ else _) = _
  rw [if_pos h]
theorem add_m {ys : List D} (h : xs.length + ys.length ≤ SZ) : binS .Add (.ml xs) (.ml ys) = some (.ml (xs ++ ys)) := by
  show (if _ then _ else _) = _
  rw [if_pos h]
theorem mul_t {k : Int} (h : xs ≠ [] ∧ 1 ≤ k ∧ k ≤ 1000 ∧ xs.length ≤ 1000) : binS .Mult (.dat (.tup xs)) (.dat (.int k)) = some (.dat (.tup (List.replicate k.toNat xs).flatten)) := by
  show (if _ then _ else _) = _
  rw [if_pos h]
theorem mul_1 {k : Int} (h1 : 1 ≤ k) (h2 : k ≤ 1000) : binS .Mult (.dat (.tup [d])) (.dat (.int k)) = some (.dat (.tup (List.replicate k.toNat d))) := by
  rw [mul_t ⟨by simp, h1, h2, by simp⟩]
  have : ∀ n : Nat, (List.replicate n [d]).flatten = List.replicate n d := fun n => by
    induction n with
    | zero => rfl
    | succ n ih => rw [List.replicate_succ, List.flatten_cons, ih]; rfl
  rw [this]
theorem slc_t {l h : Option Int} : slcS (.dat (.tup xs)) l h = some (.dat (.tup (cutD xs l h))) := rfl
theorem slc_m {l h : Option Int} : slcS (.ml xs) l h = some (.ml (cutD xs l h)) := rfl
theorem slc_l {l h : Option Int} : slcS (.dat (.lst xs)) l h = some (.ml (cutD xs l h)) := rfl
theorem slc_c {ns : List Int} {l h : Option Int} : slcS (.dat (.scr ns)) l h = some (.ml (cutD (ns.map .int) l h)) := rfl
theorem cut_to {m : Nat} : cutD xs none (some ((m : Nat) : Int)) = xs.take m := by
  unfold cutD
  rw [show HT.sIx xs.length xs.length (some ((m : Nat) : Int)) = min m xs.length from HT.sIx_nat xs.length xs.length m, HT.sIx_none, List.drop_zero, Nat.sub_zero]
  by_cases h : m ≤ xs.length
  · rw [Nat.min_eq_left h]
  · rw [Nat.min_eq_right (by omega), List.take_length, List.take_of_length_le (by omega)]
theorem cut_from {m : Nat} : cutD xs (some ((m : Nat) : Int)) none = xs.drop m := by
  unfold cutD
  rw [show HT.sIx xs.length 0 (some ((m : Nat) : Int)) = min m xs.length from HT.sIx_nat xs.length 0 m, HT.sIx_none]
  by_cases h : m ≤ xs.length
  · rw [Nat.min_eq_left h, List.take_of_length_le (by rw [List.length_drop]; omega)]
  · rw [Nat.min_eq_right (by omega), List.drop_length, List.drop_eq_nil_of_le (by omega), List.take_nil]
theorem cut_a {m : Int} (h : 0 ≤ m) : cutD xs none (some m) = xs.take m.toNat := by
  have := cut_to (xs := xs) (m := m.toNat)
  rwa [Int.toNat_of_nonneg h] at this
theorem cut_b {m : Int} (h : 0 ≤ m) : cutD xs (some m) none = xs.drop m.toNat := by
  have := cut_from (xs := xs) (m := m.toNat)
  rwa [Int.toNat_of_nonneg h] at this
/-- loops over items: an invariant, and what may end it -/
theorem for_inv {tg : List Nat} {one : Bool} {b : P} {Q : RS → Prop} (I : Nat → En → Prop) {xs : List D} {en : En} (h0 : I 0 en)
    (hs : ∀ (i : Nat) (x : D) (en : En), xs[i]? = some x → I i en → (∃ en', (kForS Φ G fu b (setD en tg one x) = .nx en' ∨ kForS Φ G fu b (setD en tg one x) = .ct en') ∧ I (i + 1) en') ∨ (∃ s en', kForS Φ G fu b (setD en tg one x) = .rt s en' ∧ Q (.rt s en')) ∨ (∃ en', kForS Φ G fu b (setD en tg one x) = .bk en' ∧ Q (.nx en')))
    (he : ∀ en, I xs.length en → Q (.nx en)) : Q (kFor Φ G fu tg one b xs en) := by
  have go : ∀ (ys : List D) (i : Nat) (en : En), ys = xs.drop i → i ≤ xs.length → I i en → Q (kFor Φ G fu tg one b ys en) := by
    intro ys
    induction ys with
    | nil =>
      intro i en e hl hi
      have : i = xs.length := by
        have := congrArg List.length e
        simp at this
        omega
      subst this
      exact he en hi
    | cons y ys ih =>
      intro i en e hl hi
      have hlt : i < xs.length := by
        have := congrArg List.length e
        simp at this
        omega
      rw [List.drop_eq_getElem_cons hlt] at e
      injection e with e1 e2
      rw [kFor_s]
      rcases hs i y en (by rw [List.getElem?_eq_getElem hlt, e1]) hi with ⟨en', h | h, h2⟩ | ⟨s, en', h, h2⟩ | ⟨en', h, h2⟩
      · rw [h]; exact ih (i + 1) en' e2 hlt h2
      · rw [h]; exact ih (i + 1) en' e2 hlt h2
      · rw [h]; exact h2
      · rw [h]; exact h2
  exact go xs 0 en rfl (Nat.zero_le _) h0
/-- a loop that comes to its end -/
theorem for_nx {tg : List Nat} {one : Bool} {b : P} (I : Nat → En → Prop) {xs : List D} {en : En} (h0 : I 0 en)
    (hs : ∀ (i : Nat) (x : D) (en : En), xs[i]? = some x → I i en → ∃ en', (kForS Φ G fu b (setD en tg one x) = .nx en' ∨ kForS Φ G fu b (setD en tg one x) = .ct en') ∧ I (i + 1) en') : ∃ en', kFor Φ G fu tg one b xs en = .nx en' ∧ I xs.length en' :=
  for_inv (Q := fun r => ∃ en', r = .nx en' ∧ I xs.length en') I h0 (fun i x en hx hi => .inl (hs i x en hx hi)) fun en h => ⟨en, rfl, h⟩
/-- comprehensions: an invariant -/
theorem lc_inv {elt ifs : E} {tg own : List Nat} {one : Bool} (I : Nat → List D → En → Prop) {xs acc0 : List D} {en : En} (h0 : I 0 acc0 en)
    (hs : ∀ (i : Nat) (x : D) (acc : List D) (en : En), xs[i]? = some x → I i acc en → ∃ acc' en', kT1 Φ G elt ifs own acc (setD en tg one x) = .ok acc' en' ∧ I (i + 1) acc' en') : ∃ acc en', kLcL Φ G elt tg one ifs own xs acc0 en = .ok acc en' ∧ I xs.length acc en' := by
  have go : ∀ (ys : List D) (i : Nat) (acc : List D) (en : En), ys = xs.drop i → i ≤ xs.length → I i acc en → ∃ acc2 en', kLcL Φ G elt tg one ifs own ys acc en = .ok acc2 en' ∧ I xs.length acc2 en' := by
    intro ys
    induction ys with
    | nil =>
      intro i acc en e hl hi
      have : i = xs.length := by
        have := congrArg List.length e
        simp at this
        omega
      subst this
      exact ⟨acc, en, rfl, hi⟩
    | cons y ys ih =>
      intro i acc en e hl hi
      have hlt : i < xs.length := by
        have := congrArg List.length e
        simp at this
        omega
      rw [List.drop_eq_getElem_cons hlt] at e
      injection e with e1 e2
      obtain ⟨acc', en', h, h2⟩ := hs i y acc en (by rw [List.getElem?_eq_getElem hlt, e1]) hi
      rw [kLcL_s h]
      exact ih (i + 1) acc' en' e2 hlt h2
  exact go xs 0 acc0 en rfl (Nat.zero_le _) h0
/-- comprehensions whose turns change nothing but their own names -/
theorem lc_map {elt ifs : E} {tg own : List Nat} {one : Bool} {xs : List D} {en : En} (g : D → D) (hl : xs.length ≤ SZ)
    (hs : ∀ (i : Nat) (x : D) (acc : List D), xs[i]? = some x → acc.length < SZ → kT1 Φ G elt ifs own acc (setD en tg one x) = .ok (acc ++ [g x]) en) : kLcL Φ G elt tg one ifs own xs [] en = .ok (xs.map g) en := by
  obtain ⟨acc, en', h1, h2, h3⟩ := lc_inv (Φ := Φ) (G := G) (elt := elt) (ifs := ifs) (tg := tg) (own := own) (one := one) (fun i acc en' => acc = (xs.take i).map g ∧ en' = en) (acc0 := []) (en := en) (xs := xs) ⟨rfl, rfl⟩ fun i x acc en' hx ⟨ha, he⟩ => by
    have hi : i < xs.length := (List.getElem?_eq_some_iff.mp hx).1
    subst he
    refine ⟨_, _, hs i x acc hx ?_, ?_, rfl⟩
    · rw [ha, List.length_map, List.length_take]; omega
    · rw [ha, List.take_add_one, hx, List.map_append]; rfl
  rw [h1, h2, h3, List.take_length]
/-- .. with a test -/
theorem lc_filter {elt ifs : E} {tg own : List Nat} {one : Bool} {xs : List D} {en : En} (p : D → Bool) (g : D → D) (hl : xs.length ≤ SZ)
    (hs : ∀ (i : Nat) (x : D) (acc : List D), xs[i]? = some x → acc.length < SZ → kT1 Φ G elt ifs own acc (setD en tg one x) = .ok (if p x then acc ++ [g x] else acc) en) : kLcL Φ G elt tg one ifs own xs [] en = .ok ((xs.filter p).map g) en := by
  obtain ⟨acc, en', h1, h2, h3⟩ := lc_inv (Φ := Φ) (G := G) (elt := elt) (ifs := ifs) (tg := tg) (own := own) (one := one) (fun i acc en' => acc = ((xs.take i).filter p).map g ∧ en' = en) (acc0 := []) (en := en) (xs := xs) ⟨rfl, rfl⟩ fun i x acc en' hx ⟨ha, he⟩ => by
    have hi : i < xs.length := (List.getElem?_eq_some_iff.mp hx).1
    subst he
    refine ⟨_, _, hs i x acc hx ?_, ?_, rfl⟩
    · rw [ha, List.length_map]
      have := List.length_filter_le p (xs.take i)
      rw [List.length_take] at this
      omega
    · rw [ha, List.take_add_one, hx, List.filter_append, List.map_append]
      by_cases hp : p x = true
      · simp [hp]
      · simp [hp]
  rw [h1, h2, h3, List.take_length]
theorem enumD_inv : ∀ {ds : List D} {n i : Nat} {x : D}, (enumD n ds)[i]? = some x → ∃ d, ds[i]? = some d ∧ x = .tup [.int ((n + i : Nat) : Int), d]
  | [], _, _, _, h => by simp [enumD] at h
  | d :: ds, n, 0, x, h => by simp [enumD] at h; exact ⟨d, rfl, by rw [← h]; rfl⟩
  | d :: ds, n, i + 1, x, h => by
    simp only [enumD, List.getElem?_cons_succ] at h ⊢
    obtain ⟨e, h1, h2⟩ := enumD_inv h
    exact ⟨e, h1, by rw [h2]; congr 3; omega⟩
theorem enumD_len' {ds : List D} {n : Nat} : (enumD n ds).length = ds.length := enumD_len
theorem zipD_inv : ∀ {ds es : List D} {i : Nat} {x : D}, (zipD ds es)[i]? = some x → ∃ d e, ds[i]? = some d ∧ es[i]? = some e ∧ x = .tup [d, e]
  | [], _, _, _, h => by simp [zipD] at h
  | _ :: _, [], _, _, h => by simp [zipD] at h
  | d :: ds, e :: es, 0, x, h => by simp [zipD] at h; exact ⟨d, e, rfl, rfl, h.symm⟩
  | d :: ds, e :: es, i + 1, x, h => by
    simp only [zipD, List.getElem?_cons_succ] at h ⊢
    exact zipD_inv h
theorem eq_nil {ws : List D} (h : ws.all (shD 59) = true) : cmpS .Eq (.ml ws) (.ml []) = some (decide (ws = [])) := by
  show eqS _ _ = _
  unfold eqS
  have h1 : shD 60 (Eng.fz (.ml ws)) = true := by
    show shD 60 (.lst ws) = true
    unfold shD
    exact h
  rw [h1, show shD 60 (Eng.fz (.ml [])) = true from rfl]
  simp only [Bool.and_self, if_true]
  show some (eqD (.lst ws) (.lst [])) = _
  cases ws <;> simp [eqD, eqDs]
end
end Eng

set_option Elab.async false
set_option linter.all false
set_option maxRecDepth 100000
set_option maxHeartbeats 4000000
namespace Eng
open PySem PySem.Spec PyProof.Rows L2 RZ
def kPm {α : Type} : Option α → List α → List α
  | some a, r => a :: r
  | none, r => r
/-! ### the library's own rules, as rules of the set seval -/
section
variable {α β : Type} {a b : α} {l m : List α} {n : Nat}
theorem z_set0 : (a :: l).set 0 b = b :: l := rfl
theorem z_sets : (a :: l).set (n + 1) b = a :: l.set n b := rfl
theorem z_len0 : ([] : List α).length = 0 := rfl
theorem z_lens : (a :: l).length = l.length + 1 := rfl
theorem z_map0 {f : α → β} : ([] : List α).map f = [] := rfl
theorem z_maps {f : α → β} : (a :: l).map f = f a :: l.map f := rfl
theorem z_app0 : [] ++ l = l := rfl
theorem z_apps : a :: l ++ m = a :: (l ++ m) := rfl
theorem z_rep0 : List.replicate 0 a = [] := rfl
theorem z_reps : List.replicate (n + 1) a = a :: List.replicate n a := rfl
theorem z_0add : 0 + n = n := Nat.zero_add n
theorem z_i0add (i : Int) : 0 + i = i := Int.zero_add i
theorem z_fm0 {f : α → Option β} : ([] : List α).filterMap f = [] := rfl
theorem z_pm0 : pmL ([] : List Nat) l = [] := rfl
theorem z_pms {p : List Nat} : pmL (n :: p) l = kPm l[n]? (pmL p l) := by unfold pmL; rw [List.filterMap_cons]; cases l[n]? <;> rfl
theorem z_pm1 : kPm (some a) l = a :: l := rfl
theorem z_get0 : (a :: l)[0]? = some a := rfl
theorem z_gets : (a :: l)[n + 1]? = l[n]? := rfl
theorem z_osome {f : α → β} : (some a).map f = some (f a) := rfl
theorem z_obind {f : α → Option β} : (some a).bind f = f a := rfl
theorem z_nt : (!true) = false := rfl
theorem z_nf : (!false) = true := rfl
theorem z_zip0 {m : List β} : ([] : List α).zip m = [] := rfl
theorem z_zip1 {b : β} : ([] : List α).zip [b] = [] := rfl
theorem z_zips {b : β} {m : List β} : (a :: l).zip (b :: m) = (a, b) :: l.zip m := rfl
theorem z_fl0 {f : β → α → β} {z : β} : [].foldl f z = z := rfl
theorem z_fls {f : β → α → β} {z : β} : (a :: l).foldl f z = l.foldl f (f z a) := rfl
theorem z_anys {f : α → Bool} : (a :: l).any f = (f a || l.any f) := rfl
theorem z_any0 {f : α → Bool} : [].any f = false := rfl
theorem z_of (b : Bool) : (b || false) = b := Bool.or_false b
theorem z_ot (b : Bool) : (b || true) = true := Bool.or_true b
theorem z_fo (b : Bool) : (false || b) = b := rfl
theorem z_to (b : Bool) : (true || b) = true := rfl
theorem z_ift {x y : α} : (if True then x else y) = x := if_pos True.intro
theorem z_iff {x y : α} : (if False then x else y) = y := if_neg id
theorem z_fet : (false = true) = False := by simp
theorem z_tet : (true = true) = True := by simp
theorem z_ta (p : Prop) : (True ∧ p) = p := by simp
theorem z_at (p : Prop) : (p ∧ True) = p := by simp
theorem z_nlt : (n < n) = False := by simp
theorem z_bk0 {ss : List S} {f : List (Option S)} {en : En} : back .nil ss f en = en := by simp [back]
theorem z_bkd {i : Nat} {es : E} {d : D} {ss : List S} {f : Option S} {fs : List (Option S)} {en : En} : back (.cons (.var i) es) (.dat d :: ss) (f :: fs) en = back es ss fs en := by simp [back]
theorem z_bkm {i : Nat} {es : E} {ds : List D} {ss : List S} {f : Option S} {fs : List (Option S)} {en : En} : back (.cons (.var i) es) (.ml ds :: ss) (f :: fs) en = back es ss fs (en.set i f) := by simp [back]
theorem z_bkg {i : Nat} {es : E} {ds : List (List D)} {ss : List S} {f : Option S} {fs : List (Option S)} {en : En} : back (.cons (.var i) es) (.mg ds :: ss) (f :: fs) en = back es ss fs (en.set i f) := by simp [back]
theorem z_bke {e es : E} {s : S} {ss : List S} {f : Option S} {fs : List (Option S)} {en : En} (h : e.isV = false) : back (.cons e es) (s :: ss) (f :: fs) en = back es ss fs en := by
  cases e <;> first | (cases h; done) | (cases s <;> simp [back])
theorem z_w0 {en : En} : wipeE en [] = en := rfl
theorem z_ws {en : En} {v : Nat} {vs : List Nat} : wipeE en (v :: vs) = (wipeE en vs).set v none := rfl
theorem z_sd1 {en : En} {i : Nat} {d : D} : setD en [i] true d = some (en.set i (some (.dat d))) := by simp [setD]
theorem z_sdn {en : En} {tg : List Nat} {ds : List D} (h : tg.length = ds.length) : setD en tg false (.tup ds) = some ((tg.zip ds).foldl (fun en p => en.set p.1 (some (.dat p.2))) en) := by
  simp [setD, h]
theorem z_re {old en : En} {vs : List Nat} : restE old en vs = restD old (wipeE en vs) vs := rfl
def kRs : Option S → Option S
  | some (.dat d) => some (.dat d)
  | _ => none
theorem z_rd0 {old en : En} : restD old en [] = en := rfl
theorem z_rds {old en : En} {v : Nat} {vs : List Nat} : restD old en (v :: vs) = (restD old en vs).set v (kRs (getE old v)) := by
  show (restD old en vs).set v _ = _
  congr 1
theorem z_kd {d : D} : kRs (some (.dat d)) = some (.dat d) := rfl
theorem z_km {d : List D} : kRs (some (.ml d)) = none := rfl
theorem z_kg {d : List (List D)} : kRs (some (.mg d)) = none := rfl
theorem z_kn : kRs none = none := rfl
theorem z_fzd {d : D} : fz (.dat d) = d := rfl
theorem z_fzm {d : List D} : fz (.ml d) = .lst d := rfl
theorem z_fzg {d : List (List D)} : fz (.mg d) = .lst (d.map .lst) := rfl
theorem z_ty0 : tyS (.dat .non) = some .none := rfl
theorem z_ty1 {x : Bool} : tyS (.dat (.bl x)) = some .bool := rfl
theorem z_ty2 {x : Int} : tyS (.dat (.int x)) = some .int := rfl
theorem z_ty3 {x : Str} : tyS (.dat (.str x)) = some .str := rfl
theorem z_ty4 {x : List D} : tyS (.dat (.tup x)) = some .tuple := rfl
theorem z_ty5 {x : List D} : tyS (.dat (.lst x)) = some .list := rfl
theorem z_ty6 {x : List Int} : tyS (.dat (.scr x)) = some .list := rfl
theorem z_ty7 {x y : List D} : tyS (.dat (.dct x y)) = some .dict := rfl
theorem z_ty8 {x : List D} : tyS (.ml x) = some .list := rfl
theorem z_ty9 {x y : List D} : tyS (.md x y) = some .dict := rfl
theorem isT_of {a b : Ty} {c : Bool} (h : isT a b = c) : isT a b = c := h
end
theorem z_is_int_int : isT .int .int = true := rfl
theorem z_is_int_bool : isT .int .bool = false := rfl
theorem z_is_int_str : isT .int .str = false := rfl
theorem z_is_int_tuple : isT .int .tuple = false := rfl
theorem z_is_int_list : isT .int .list = false := rfl
theorem z_is_int_dict : isT .int .dict = false := rfl
theorem z_is_int_none : isT .int .none = false := rfl
theorem z_is_bool_int : isT .bool .int = true := rfl
theorem z_is_bool_bool : isT .bool .bool = true := rfl
theorem z_is_bool_str : isT .bool .str = false := rfl
theorem z_is_bool_tuple : isT .bool .tuple = false := rfl
theorem z_is_bool_list : isT .bool .list = false := rfl
theorem z_is_bool_dict : isT .bool .dict = false := rfl
theorem z_is_bool_none : isT .bool .none = false := rfl
theorem z_is_str_int : isT .str .int = false := rfl
theorem z_is_str_bool : isT .str .bool = false := rfl
theorem z_is_str_str : isT .str .str = true := rfl
theorem z_is_str_tuple : isT .str .tuple = false := rfl
theorem z_is_str_list : isT .str .list = false := rfl
theorem z_is_str_dict : isT .str .dict = false := rfl
theorem z_is_str_none : isT .str .none = false := rfl
theorem z_is_tuple_int : isT .tuple .int = false := rfl
theorem z_is_tuple_bool : isT .tuple .bool = false := rfl
theorem z_is_tuple_str : isT .tuple .str = false := rfl
theorem z_is_tuple_tuple : isT .tuple .tuple = true := rfl
theorem z_is_tuple_list : isT .tuple .list = false := rfl
theorem z_is_tuple_dict : isT .tuple .dict = false := rfl
theorem z_is_tuple_none : isT .tuple .none = false := rfl
theorem z_is_list_int : isT .list .int = false := rfl
theorem z_is_list_bool : isT .list .bool = false := rfl
theorem z_is_list_str : isT .list .str = false := rfl
theorem z_is_list_tuple : isT .list .tuple = false := rfl
theorem z_is_list_list : isT .list .list = true := rfl
theorem z_is_list_dict : isT .list .dict = false := rfl
theorem z_is_list_none : isT .list .none = false := rfl
theorem z_is_dict_int : isT .dict .int = false := rfl
theorem z_is_dict_bool : isT .dict .bool = false := rfl
theorem z_is_dict_str : isT .dict .str = false := rfl
theorem z_is_dict_tuple : isT .dict .tuple = false := rfl
theorem z_is_dict_list : isT .dict .list = false := rfl
theorem z_is_dict_dict : isT .dict .dict = true := rfl
theorem z_is_dict_none : isT .dict .none = false := rfl
theorem z_is_none_int : isT .none .int = false := rfl
theorem z_is_none_bool : isT .none .bool = false := rfl
theorem z_is_none_str : isT .none .str = false := rfl
theorem z_is_none_tuple : isT .none .tuple = false := rfl
theorem z_is_none_list : isT .none .list = false := rfl
theorem z_is_none_dict : isT .none .dict = false := rfl
theorem z_is_none_none : isT .none .none = false := rfl
/-- all rules at once -/
theorem RU : (type_of% @Eng.iv_bad) ∧ (type_of% @Eng.iN_bad) ∧ (type_of% @Eng.it_bad) ∧ (type_of% @Eng.iv_nil) ∧ (type_of% @Eng.iN_nil) ∧ (type_of% @Eng.it_nil) ∧ (type_of% @Eng.iv_cons) ∧ (type_of% @Eng.iN_cons) ∧ (type_of% @Eng.it_cons) ∧ (type_of% @Eng.iv_var) ∧ (type_of% @Eng.iN_var) ∧ (type_of% @Eng.it_var) ∧ (type_of% @Eng.iv_int) ∧ (type_of% @Eng.iN_int) ∧ (type_of% @Eng.it_int) ∧ (type_of% @Eng.iv_bl) ∧ (type_of% @Eng.iN_bl) ∧ (type_of% @Eng.it_bl) ∧ (type_of% @Eng.iv_non) ∧ (type_of% @Eng.iN_non) ∧ (type_of% @Eng.it_non) ∧ (type_of% @Eng.iv_str) ∧ (type_of% @Eng.iN_str) ∧ (type_of% @Eng.it_str) ∧ (type_of% @Eng.iv_gl) ∧ (type_of% @Eng.iN_gl) ∧ (type_of% @Eng.it_gl) ∧ (type_of% @Eng.iv_bin) ∧ (type_of% @Eng.iN_bin) ∧ (type_of% @Eng.it_bin) ∧ (type_of% @Eng.iv_neg) ∧ (type_of% @Eng.iN_neg) ∧ (type_of% @Eng.it_neg) ∧ (type_of% @Eng.iv_cmp) ∧ (type_of% @Eng.iN_cmp) ∧ (type_of% @Eng.it_cmp) ∧ (type_of% @Eng.iv_chn) ∧ (type_of% @Eng.iN_chn) ∧ (type_of% @Eng.it_chn) ∧ (type_of% @Eng.iv_and_) ∧ (type_of% @Eng.iN_and_) ∧ (type_of% @Eng.it_and_) ∧ (type_of% @Eng.iv_or_) ∧ (type_of% @Eng.iN_or_) ∧ (type_of% @Eng.it_or_) ∧ (type_of% @Eng.iv_not_) ∧ (type_of% @Eng.iN_not_) ∧ (type_of% @Eng.it_not_) ∧ (type_of% @Eng.iv_ife) ∧ (type_of% @Eng.iN_ife) ∧ (type_of% @Eng.it_ife) ∧ (type_of% @Eng.iv_tup) ∧ (type_of% @Eng.iN_tup) ∧ (type_of% @Eng.it_tup) ∧ (type_of% @Eng.iv_lst) ∧ (type_of% @Eng.iN_lst) ∧ (type_of% @Eng.it_lst) ∧ (type_of% @Eng.iv_dic) ∧ (type_of% @Eng.iN_dic) ∧ (type_of% @Eng.it_dic) ∧ (type_of% @Eng.iv_dnt) ∧ (type_of% @Eng.iN_dnt) ∧ (type_of% @Eng.it_dnt) ∧ (type_of% @Eng.iv_ix) ∧ (type_of% @Eng.iN_ix) ∧ (type_of% @Eng.it_ix) ∧ (type_of% @Eng.iv_slc) ∧ (type_of% @Eng.iN_slc) ∧ (type_of% @Eng.it_slc) ∧ (type_of% @Eng.iv_rev) ∧ (type_of% @Eng.iN_rev) ∧ (type_of% @Eng.it_rev) ∧ (type_of% @Eng.iv_call) ∧ (type_of% @Eng.iN_call) ∧ (type_of% @Eng.it_call) ∧ (type_of% @Eng.iv_callk) ∧ (type_of% @Eng.iN_callk) ∧ (type_of% @Eng.it_callk) ∧ (type_of% @Eng.iv_callv) ∧ (type_of% @Eng.iN_callv) ∧ (type_of% @Eng.it_callv) ∧ (type_of% @Eng.iv_bi) ∧ (type_of% @Eng.iN_bi) ∧ (type_of% @Eng.it_bi) ∧ (type_of% @Eng.iv_bi2) ∧ (type_of% @Eng.iN_bi2) ∧ (type_of% @Eng.it_bi2) ∧ (type_of% @Eng.iv_isi) ∧ (type_of% @Eng.iN_isi) ∧ (type_of% @Eng.it_isi) ∧ (type_of% @Eng.iv_app) ∧ (type_of% @Eng.iN_app) ∧ (type_of% @Eng.it_app) ∧ (type_of% @Eng.iv_lrg) ∧ (type_of% @Eng.iN_lrg) ∧ (type_of% @Eng.it_lrg) ∧ (type_of% @Eng.iv_lc) ∧ (type_of% @Eng.iN_lc) ∧ (type_of% @Eng.it_lc) ∧ (type_of% @Eng.iv_lc2) ∧ (type_of% @Eng.iN_lc2) ∧ (type_of% @Eng.it_lc2) ∧ (type_of% @Eng.iv_lcg) ∧ (type_of% @Eng.iN_lcg) ∧ (type_of% @Eng.it_lcg) ∧ (type_of% @Eng.iv_mgn) ∧ (type_of% @Eng.iN_mgn) ∧ (type_of% @Eng.it_mgn) ∧ (type_of% @Eng.iv_gix) ∧ (type_of% @Eng.iN_gix) ∧ (type_of% @Eng.it_gix) ∧ (type_of% @Eng.iv_gbi) ∧ (type_of% @Eng.iN_gbi) ∧ (type_of% @Eng.it_gbi) ∧ (type_of% @Eng.iv_gapp) ∧ (type_of% @Eng.iN_gapp) ∧ (type_of% @Eng.it_gapp) ∧ (type_of% @Eng.kOf_s) ∧ (type_of% @Eng.kOfB_s) ∧ (type_of% @Eng.x_var) ∧ (type_of% @Eng.kVar_d) ∧ (type_of% @Eng.kVar_m) ∧ (type_of% @Eng.x_int) ∧ (type_of% @Eng.x_bl) ∧ (type_of% @Eng.x_non) ∧ (type_of% @Eng.x_str) ∧ (type_of% @Eng.x_bin) ∧ (type_of% @Eng.kBin_ok) ∧ (type_of% @Eng.kBin2_ok) ∧ (type_of% @Eng.kBin3_s) ∧ (type_of% @Eng.x_neg) ∧ (type_of% @Eng.kNeg_ok) ∧ (type_of% @Eng.x_cmp) ∧ (type_of% @Eng.kCmp_ok) ∧ (type_of% @Eng.kCmp2_ok) ∧ (type_of% @Eng.kCmp3_s) ∧ (type_of% @Eng.kB_s) ∧ (type_of% @Eng.x_chn) ∧ (type_of% @Eng.kChn_ok) ∧ (type_of% @Eng.kChn2_ok) ∧ (type_of% @Eng.kChn3_t) ∧ (type_of% @Eng.kChn3_f) ∧ (type_of% @Eng.kChn4_ok) ∧ (type_of% @Eng.x_and) ∧ (type_of% @Eng.kAnd_ok) ∧ (type_of% @Eng.kAnd2_t) ∧ (type_of% @Eng.kAnd2_f) ∧ (type_of% @Eng.x_or) ∧ (type_of% @Eng.kOr_ok) ∧ (type_of% @Eng.kOr2_t) ∧ (type_of% @Eng.kOr2_f) ∧ (type_of% @Eng.x_not) ∧ (type_of% @Eng.kNot_ok) ∧ (type_of% @Eng.kNot2_s) ∧ (type_of% @Eng.x_ife) ∧ (type_of% @Eng.kIfe_ok) ∧ (type_of% @Eng.kIfe2_t) ∧ (type_of% @Eng.kIfe2_f) ∧ (type_of% @Eng.x_tup) ∧ (type_of% @Eng.kTup_ok) ∧ (type_of% @Eng.x_lst) ∧ (type_of% @Eng.kLst_ok) ∧ (type_of% @Eng.x_dnew) ∧ (type_of% @Eng.kDic_ok) ∧ (type_of% @Eng.x_dnt) ∧ (type_of% @Eng.x_ix) ∧ (type_of% @Eng.kIx_ok) ∧ (type_of% @Eng.kIx2_ok) ∧ (type_of% @Eng.kIx3_s) ∧ (type_of% @Eng.kDat_s) ∧ (type_of% @Eng.x_slc) ∧ (type_of% @Eng.kSlc_ok) ∧ (type_of% @Eng.kSlc2_ok) ∧ (type_of% @Eng.kSlc3_ok) ∧ (type_of% @Eng.kSlc4_s) ∧ (type_of% @Eng.x_rev) ∧ (type_of% @Eng.kRev_ok) ∧ (type_of% @Eng.kRev2_s) ∧ (type_of% @Eng.x_call) ∧ (type_of% @Eng.kCall_ok) ∧ (type_of% @Eng.kCall2_ok) ∧ (type_of% @Eng.kCall2_x) ∧ (type_of% @Eng.x_callk) ∧ (type_of% @Eng.kCallk_ok) ∧ (type_of% @Eng.kCallk2_ok) ∧ (type_of% @Eng.kCallk3_ok) ∧ (type_of% @Eng.kCallk3_x) ∧ (type_of% @Eng.x_bi) ∧ (type_of% @Eng.kBi_ok) ∧ (type_of% @Eng.kBi2_s) ∧ (type_of% @Eng.x_two) ∧ (type_of% @Eng.kTwo_ok) ∧ (type_of% @Eng.kTwo2_ok) ∧ (type_of% @Eng.kTwo3_s) ∧ (type_of% @Eng.x_isi) ∧ (type_of% @Eng.kIsi_ok) ∧ (type_of% @Eng.kIsi2_s) ∧ (type_of% @Eng.x_app) ∧ (type_of% @Eng.kApp0_m) ∧ (type_of% @Eng.kApp_ok) ∧ (type_of% @Eng.kApp2_m) ∧ (type_of% @Eng.x_lrg) ∧ (type_of% @Eng.kLrg_ok) ∧ (type_of% @Eng.x_lc) ∧ (type_of% @Eng.kLc_ok) ∧ (type_of% @Eng.kLc2_s) ∧ (type_of% @Eng.kLc3_ok) ∧ (type_of% @Eng.kT1_s) ∧ (type_of% @Eng.kT2_ok) ∧ (type_of% @Eng.kT3_t) ∧ (type_of% @Eng.kT3_f) ∧ (type_of% @Eng.kT4_ok) ∧ (type_of% @Eng.x_evi0) ∧ (type_of% @Eng.x_evi1) ∧ (type_of% @Eng.x_evs0) ∧ (type_of% @Eng.x_evs) ∧ (type_of% @Eng.kEvs_ok) ∧ (type_of% @Eng.kPush_ok) ∧ (type_of% @Eng.x_eva) ∧ (type_of% @Eng.kTk_ok) ∧ (type_of% @Eng.tkR_s) ∧ (type_of% @Eng.q_0) ∧ (type_of% @Eng.q_v) ∧ (type_of% @Eng.kQv_s) ∧ (type_of% @Eng.q_e) ∧ (type_of% @Eng.kQe_ok) ∧ (type_of% @Eng.kPushO_ok) ∧ (type_of% @Eng.t_0) ∧ (type_of% @Eng.t_v) ∧ (type_of% @Eng.kTv_d) ∧ (type_of% @Eng.kTv_m) ∧ (type_of% @Eng.t_e) ∧ (type_of% @Eng.kPushT_s) ∧ (type_of% @Eng.x_evo0) ∧ (type_of% @Eng.x_evo) ∧ (type_of% @Eng.kEvo_ok) ∧ (type_of% @Eng.x_opv) ∧ (type_of% @Eng.x_opn) ∧ (type_of% @Eng.kVar_g) ∧ (type_of% @Eng.x_mgn) ∧ (type_of% @Eng.x_gix) ∧ (type_of% @Eng.kGx0_g) ∧ (type_of% @Eng.kGx_ok) ∧ (type_of% @Eng.kGx1_s) ∧ (type_of% @Eng.kGx2_ok) ∧ (type_of% @Eng.gAt_i) ∧ (type_of% @Eng.x_gbi) ∧ (type_of% @Eng.kGb0_g) ∧ (type_of% @Eng.kGb_ok) ∧ (type_of% @Eng.kGb1_s) ∧ (type_of% @Eng.x_gapp) ∧ (type_of% @Eng.kGa0_g) ∧ (type_of% @Eng.kGa_ok) ∧ (type_of% @Eng.kGa1_g) ∧ (type_of% @Eng.x_lcg) ∧ (type_of% @Eng.kLg0_ok) ∧ (type_of% @Eng.kLg1_s) ∧ (type_of% @Eng.kLg3_ok) ∧ (type_of% @Eng.kG1_s) ∧ (type_of% @Eng.kG2_t) ∧ (type_of% @Eng.kG2_f) ∧ (type_of% @Eng.kG4_ok) ∧ (type_of% @Eng.x_lc2) ∧ (type_of% @Eng.k20_ok) ∧ (type_of% @Eng.k21_s) ∧ (type_of% @Eng.k2T_s) ∧ (type_of% @Eng.k2T2_t) ∧ (type_of% @Eng.k2T2_f) ∧ (type_of% @Eng.k2T3_ok) ∧ (type_of% @Eng.k2T4_s) ∧ (type_of% @Eng.k2T5_ok) ∧ (type_of% @Eng.x_callv) ∧ (type_of% @Eng.kCv_f) ∧ (type_of% @Eng.kNox_ok) ∧ (type_of% @Eng.x_andT) ∧ (type_of% @Eng.kAndT_ok) ∧ (type_of% @Eng.kAndT2_t) ∧ (type_of% @Eng.kAndT2_f) ∧ (type_of% @Eng.x_orT) ∧ (type_of% @Eng.kOrT_ok) ∧ (type_of% @Eng.kOrT2_t) ∧ (type_of% @Eng.kOrT2_f) ∧ (type_of% @Eng.x_notT) ∧ (type_of% @Eng.kNotT_ok) ∧ (type_of% @Eng.x_cmpT) ∧ (type_of% @Eng.kCmpT_ok) ∧ (type_of% @Eng.kCmpT2_ok) ∧ (type_of% @Eng.x_chnT) ∧ (type_of% @Eng.kChnT_ok) ∧ (type_of% @Eng.kChnT2_ok) ∧ (type_of% @Eng.kChnT3_t) ∧ (type_of% @Eng.kChnT3_f) ∧ (type_of% @Eng.kChnT4_ok) ∧ (type_of% @Eng.x_tru) ∧ (type_of% @Eng.kTru_ok) ∧ (type_of% @Eng.y_nil) ∧ (type_of% @Eng.y_cons) ∧ (type_of% @Eng.kSeq_nx) ∧ (type_of% @Eng.kSeq_rt) ∧ (type_of% @Eng.kSeq_bk) ∧ (type_of% @Eng.kSeq_ct) ∧ (type_of% @Eng.kSeq_x) ∧ (type_of% @Eng.y_asg) ∧ (type_of% @Eng.kAsg_ok) ∧ (type_of% @Eng.ofO_s) ∧ (type_of% @Eng.y_asgU) ∧ (type_of% @Eng.kAsgU_ok) ∧ (type_of% @Eng.kAsgU2_s) ∧ (type_of% @Eng.unpack_t) ∧ (type_of% @Eng.y_asgT) ∧ (type_of% @Eng.kAsgT_ok) ∧ (type_of% @Eng.g_nm) ∧ (type_of% @Eng.g_ix) ∧ (type_of% @Eng.kGix0_m) ∧ (type_of% @Eng.kGix_ok) ∧ (type_of% @Eng.kGix2_m) ∧ (type_of% @Eng.kSt_s) ∧ (type_of% @Eng.g_gst) ∧ (type_of% @Eng.kGs0_g) ∧ (type_of% @Eng.kGs1_ok) ∧ (type_of% @Eng.kGs2_s) ∧ (type_of% @Eng.kGs3_ok) ∧ (type_of% @Eng.gIx_i) ∧ (type_of% @Eng.kGs4_s) ∧ (type_of% @Eng.g_grw) ∧ (type_of% @Eng.kGr0_g) ∧ (type_of% @Eng.kGr1_ok) ∧ (type_of% @Eng.kGr2_s) ∧ (type_of% @Eng.g_0) ∧ (type_of% @Eng.g_s) ∧ (type_of% @Eng.kG_s) ∧ (type_of% @Eng.y_expr) ∧ (type_of% @Eng.kExpr_ok) ∧ (type_of% @Eng.kExpr_x) ∧ (type_of% @Eng.y_retv) ∧ (type_of% @Eng.kEvr_s) ∧ (type_of% @Eng.y_ret) ∧ (type_of% @Eng.kRet_ok) ∧ (type_of% @Eng.y_retN) ∧ (type_of% @Eng.y_if) ∧ (type_of% @Eng.kIf_ok) ∧ (type_of% @Eng.kIf2_t) ∧ (type_of% @Eng.kIf2_f) ∧ (type_of% @Eng.y_for) ∧ (type_of% @Eng.kFor0_ok) ∧ (type_of% @Eng.kFor1_s) ∧ (type_of% @Eng.kForS_s) ∧ (type_of% @Eng.kForN_nx) ∧ (type_of% @Eng.kForN_ct) ∧ (type_of% @Eng.kForN_bk) ∧ (type_of% @Eng.kForN_rt) ∧ (type_of% @Eng.kForN_x) ∧ (type_of% @Eng.y_forv) ∧ (type_of% @Eng.kFv_s) ∧ (type_of% @Eng.kFv1_s) ∧ (type_of% @Eng.kPut_nx) ∧ (type_of% @Eng.kPut_rt) ∧ (type_of% @Eng.kPut_bk) ∧ (type_of% @Eng.kPut_ct) ∧ (type_of% @Eng.kPut_x) ∧ (type_of% @Eng.y_whl) ∧ (type_of% @Eng.kWhl1_t) ∧ (type_of% @Eng.kWhl1_f) ∧ (type_of% @Eng.kWhlN_nx) ∧ (type_of% @Eng.kWhlN_ct) ∧ (type_of% @Eng.kWhlN_bk) ∧ (type_of% @Eng.kWhlN_rt) ∧ (type_of% @Eng.y_brk) ∧ (type_of% @Eng.y_cnt) ∧ (type_of% @Eng.y_pass) ∧ (type_of% @Eng.getE_0) ∧ (type_of% @Eng.getE_s) ∧ (type_of% @Eng.reg_v) ∧ (type_of% @Eng.reg_e) ∧ (type_of% @Eng.add_i) ∧ (type_of% @Eng.sub_i) ∧ (type_of% @Eng.mul_l) ∧ (type_of% @Eng.mul_r) ∧ (type_of% @Eng.mod_i) ∧ (type_of% @Eng.lt_i) ∧ (type_of% @Eng.le_i) ∧ (type_of% @Eng.gt_i) ∧ (type_of% @Eng.ge_i) ∧ (type_of% @Eng.eq_i) ∧ (type_of% @Eng.ne_i) ∧ (type_of% @Eng.tru_b) ∧ (type_of% @Eng.tru_i) ∧ (type_of% @Eng.ix_t) ∧ (type_of% @Eng.ix_l) ∧ (type_of% @Eng.ix_m) ∧ (type_of% @Eng.ix_c) ∧ (type_of% @Eng.len_t) ∧ (type_of% @Eng.len_l) ∧ (type_of% @Eng.len_m) ∧ (type_of% @Eng.len_c) ∧ (type_of% @Eng.abs_i) ∧ (type_of% @Eng.int_i) ∧ (type_of% @Eng.int_b) ∧ (type_of% @Eng.max_i) ∧ (type_of% @Eng.min_i) ∧ (type_of% @Eng.gcd_i) ∧ (type_of% @Eng.run_ok) ∧ (type_of% @Eng.end_rt) ∧ (type_of% @Eng.end_nx) ∧ (type_of% @Eng.end_x) ∧ (type_of% @Eng.fin_0) ∧ (type_of% @Eng.fin_t) ∧ (type_of% @Eng.fin_f) ∧ (type_of% @Eng.at_0) ∧ (type_of% @Eng.at_1) ∧ (type_of% @Eng.at_2) ∧ (type_of% @Eng.at_3) ∧ (type_of% @Eng.at_4) ∧ (type_of% @Eng.at_5) ∧ (type_of% @Eng.at_6) ∧ (type_of% @Eng.at_z) ∧ (type_of% @Eng.ixN_0) ∧ (type_of% @Eng.ixN_1) ∧ (type_of% @Eng.ixN_2) ∧ (type_of% @Eng.ixN_3) ∧ (type_of% @Eng.ixN_4) ∧ (type_of% @Eng.fdv_64) ∧ (type_of% @Eng.dvm_64) ∧ (type_of% @Eng.pow_64) ∧ (type_of% @Eng.itd_t) ∧ (type_of% @Eng.itd_l) ∧ (type_of% @Eng.itd_m) ∧ (type_of% @Eng.itd_c) ∧ (type_of% @Eng.itd_et) ∧ (type_of% @Eng.itd_el) ∧ (type_of% @Eng.itd_em) ∧ (type_of% @Eng.itd_zt) ∧ (type_of% @Eng.itd_zl) ∧ (type_of% @Eng.itd_r1) ∧ (type_of% @Eng.itd_r2) ∧ (type_of% @Eng.all_m) ∧ (type_of% @Eng.any_m) ∧ (type_of% @Eng.sum_m) ∧ (type_of% @Eng.sum_t) ∧ (type_of% @Eng.sum_ti) ∧ (type_of% @Eng.sum_mi) ∧ (type_of% @Eng.is_nn) ∧ (type_of% @Eng.is_in) ∧ (type_of% @Eng.is_bn) ∧ (type_of% @Eng.is_sn) ∧ (type_of% @Eng.is_tn) ∧ (type_of% @Eng.is_ln) ∧ (type_of% @Eng.is_mn) ∧ (type_of% @Eng.eq_bb) ∧ (type_of% @Eng.ne_bb) ∧ (type_of% @Eng.tup_m) ∧ (type_of% @Eng.tup_l) ∧ (type_of% @Eng.tup_t) ∧ (type_of% @Eng.lis_t) ∧ (type_of% @Eng.lis_m) ∧ (type_of% @Eng.lis_l) ∧ (type_of% @Eng.add_t) ∧ (type_of% @Eng.add_m) ∧ (type_of% @Eng.mul_1) ∧ (type_of% @Eng.slc_t) ∧ (type_of% @Eng.slc_m) ∧ (type_of% @Eng.slc_l) ∧ (type_of% @Eng.slc_c) ∧ (type_of% @Eng.cut_a) ∧ (type_of% @Eng.cut_b) ∧ (type_of% @Eng.z_set0) ∧ (type_of% @Eng.z_sets) ∧ (type_of% @Eng.z_len0) ∧ (type_of% @Eng.z_lens) ∧ (type_of% @Eng.z_map0) ∧ (type_of% @Eng.z_maps) ∧ (type_of% @Eng.z_app0) ∧ (type_of% @Eng.z_apps) ∧ (type_of% @Eng.z_rep0) ∧ (type_of% @Eng.z_reps) ∧ (type_of% @Eng.z_0add) ∧ (type_of% @Eng.z_i0add) ∧ (type_of% @Eng.z_fm0) ∧ (type_of% @Eng.z_pm0) ∧ (type_of% @Eng.z_pms) ∧ (type_of% @Eng.z_pm1) ∧ (type_of% @Eng.z_get0) ∧ (type_of% @Eng.z_gets) ∧ (type_of% @Eng.z_osome) ∧ (type_of% @Eng.z_obind) ∧ (type_of% @Eng.z_nt) ∧ (type_of% @Eng.z_nf) ∧ (type_of% @Eng.z_zip0) ∧ (type_of% @Eng.z_zip1) ∧ (type_of% @Eng.z_zips) ∧ (type_of% @Eng.z_fl0) ∧ (type_of% @Eng.z_fls) ∧ (type_of% @Eng.z_anys) ∧ (type_of% @Eng.z_any0) ∧ (type_of% @Eng.z_of) ∧ (type_of% @Eng.z_ot) ∧ (type_of% @Eng.z_fo) ∧ (type_of% @Eng.z_to) ∧ (type_of% @Eng.z_ift) ∧ (type_of% @Eng.z_iff) ∧ (type_of% @Eng.z_fet) ∧ (type_of% @Eng.z_tet) ∧ (type_of% @Eng.z_ta) ∧ (type_of% @Eng.z_at) ∧ (type_of% @Eng.z_nlt) ∧ (type_of% @Eng.z_bk0) ∧ (type_of% @Eng.z_bkd) ∧ (type_of% @Eng.z_bkm) ∧ (type_of% @Eng.z_bkg) ∧ (type_of% @Eng.z_bke) ∧ (type_of% @Eng.z_w0) ∧ (type_of% @Eng.z_ws) ∧ (type_of% @Eng.z_sd1) ∧ (type_of% @Eng.z_sdn) ∧ (type_of% @Eng.z_re) ∧ (type_of% @Eng.z_rd0) ∧ (type_of% @Eng.z_rds) ∧ (type_of% @Eng.z_kd) ∧ (type_of% @Eng.z_km) ∧ (type_of% @Eng.z_kg) ∧ (type_of% @Eng.z_kn) ∧ (type_of% @Eng.z_fzd) ∧ (type_of% @Eng.z_fzm) ∧ (type_of% @Eng.z_fzg) ∧ (type_of% @Eng.z_ty0) ∧ (type_of% @Eng.z_ty1) ∧ (type_of% @Eng.z_ty2) ∧ (type_of% @Eng.z_ty3) ∧ (type_of% @Eng.z_ty4) ∧ (type_of% @Eng.z_ty5) ∧ (type_of% @Eng.z_ty6) ∧ (type_of% @Eng.z_ty7) ∧ (type_of% @Eng.z_ty8) ∧ (type_of% @Eng.z_ty9) ∧ (type_of% @Eng.z_is_int_int) ∧ (type_of% @Eng.z_is_int_bool) ∧ (type_of% @Eng.z_is_int_str) ∧ (type_of% @Eng.z_is_int_tuple) ∧ (type_of% @Eng.z_is_int_list) ∧ (type_of% @Eng.z_is_int_dict) ∧ (type_of% @Eng.z_is_int_none) ∧ (type_of% @Eng.z_is_bool_int) ∧ (type_of% @Eng.z_is_bool_bool) ∧ (type_of% @Eng.z_is_bool_str) ∧ (type_of% @Eng.z_is_bool_tuple) ∧ (type_of% @Eng.z_is_bool_list) ∧ (type_of% @Eng.z_is_bool_dict) ∧ (type_of% @Eng.z_is_bool_none) ∧ (type_of% @Eng.z_is_str_int) ∧ (type_of% @Eng.z_is_str_bool) ∧ (type_of% @Eng.z_is_str_str) ∧ (type_of% @Eng.z_is_str_tuple) ∧ (type_of% @Eng.z_is_str_list) ∧ (type_of% @Eng.z_is_str_dict) ∧ (type_of% @Eng.z_is_str_none) ∧ (type_of% @Eng.z_is_tuple_int) ∧ (type_of% @Eng.z_is_tuple_bool) ∧ (type_of% @Eng.z_is_tuple_str) ∧ (type_of% @Eng.z_is_tuple_tuple) ∧ (type_of% @Eng.z_is_tuple_list) ∧ (type_of% @Eng.z_is_tuple_dict) ∧ (type_of% @Eng.z_is_tuple_none) ∧ (type_of% @Eng.z_is_list_int) ∧ (type_of% @Eng.z_is_list_bool) ∧ (type_of% @Eng.z_is_list_str) ∧ (type_of% @Eng.z_is_list_tuple) ∧ (type_of% @Eng.z_is_list_list) ∧ (type_of% @Eng.z_is_list_dict) ∧ (type_of% @Eng.z_is_list_none) ∧ (type_of% @Eng.z_is_dict_int) ∧ (type_of% @Eng.z_is_dict_bool) ∧ (type_of% @Eng.z_is_dict_str) ∧ (type_of% @Eng.z_is_dict_tuple) ∧ (type_of% @Eng.z_is_dict_list) ∧ (type_of% @Eng.z_is_dict_dict) ∧ (type_of% @Eng.z_is_dict_none) ∧ (type_of% @Eng.z_is_none_int) ∧ (type_of% @Eng.z_is_none_bool) ∧ (type_of% @Eng.z_is_none_str) ∧ (type_of% @Eng.z_is_none_tuple) ∧ (type_of% @Eng.z_is_none_list) ∧ (type_of% @Eng.z_is_none_dict) ∧ (type_of% @Eng.z_is_none_none) := ⟨@Eng.iv_bad, @Eng.iN_bad, @Eng.it_bad, @Eng.iv_nil, @Eng.iN_nil, @Eng.it_nil, @Eng.iv_cons, @Eng.iN_cons, @Eng.it_cons, @Eng.iv_var, @Eng.iN_var, @Eng.it_var, @Eng.iv_int, @Eng.iN_int, @Eng.it_int, @Eng.iv_bl, @Eng.iN_bl, @Eng.it_bl, @Eng.iv_non, @Eng.iN_non, @Eng.it_non, @Eng.iv_str, @Eng.iN_str, @Eng.it_str, @Eng.iv_gl, @Eng.iN_gl, @Eng.it_gl, @Eng.iv_bin, @Eng.iN_bin, @Eng.it_bin, @Eng.iv_neg, @Eng.iN_neg, @Eng.it_neg, @Eng.iv_cmp, @Eng.iN_cmp, @Eng.it_cmp, @Eng.iv_chn, @Eng.iN_chn, @Eng.it_chn, @Eng.iv_and_, @Eng.iN_and_, @Eng.it_and_, @Eng.iv_or_, @Eng.iN_or_, @Eng.it_or_, @Eng.iv_not_, @Eng.iN_not_, @Eng.it_not_, @Eng.iv_ife, @Eng.iN_ife, @Eng.it_ife, @Eng.iv_tup, @Eng.iN_tup, @Eng.it_tup, @Eng.iv_lst, @Eng.iN_lst, @Eng.it_lst, @Eng.iv_dic, @Eng.iN_dic, @Eng.it_dic, @Eng.iv_dnt, @Eng.iN_dnt, @Eng.it_dnt, @Eng.iv_ix, @Eng.iN_ix, @Eng.it_ix, @Eng.iv_slc, @Eng.iN_slc, @Eng.it_slc, @Eng.iv_rev, @Eng.iN_rev, @Eng.it_rev, @Eng.iv_call, @Eng.iN_call, @Eng.it_call, @Eng.iv_callk, @Eng.iN_callk, @Eng.it_callk, @Eng.iv_callv, @Eng.iN_callv, @Eng.it_callv, @Eng.iv_bi, @Eng.iN_bi, @Eng.it_bi, @Eng.iv_bi2, @Eng.iN_bi2, @Eng.it_bi2, @Eng.iv_isi, @Eng.iN_isi, @Eng.it_isi, @Eng.iv_app, @Eng.iN_app, @Eng.it_app, @Eng.iv_lrg, @Eng.iN_lrg, @Eng.it_lrg, @Eng.iv_lc, @Eng.iN_lc, @Eng.it_lc, @Eng.iv_lc2, @Eng.iN_lc2, @Eng.it_lc2, @Eng.iv_lcg, @Eng.iN_lcg, @Eng.it_lcg, @Eng.iv_mgn, @Eng.iN_mgn, @Eng.it_mgn, @Eng.iv_gix, @Eng.iN_gix, @Eng.it_gix, @Eng.iv_gbi, @Eng.iN_gbi, @Eng.it_gbi, @Eng.iv_gapp, @Eng.iN_gapp, @Eng.it_gapp, @Eng.kOf_s, @Eng.kOfB_s, @Eng.x_var, @Eng.kVar_d, @Eng.kVar_m, @Eng.x_int, @Eng.x_bl, @Eng.x_non, @Eng.x_str, @Eng.x_bin, @Eng.kBin_ok, @Eng.kBin2_ok, @Eng.kBin3_s, @Eng.x_neg, @Eng.kNeg_ok, @Eng.x_cmp, @Eng.kCmp_ok, @Eng.kCmp2_ok, @Eng.kCmp3_s, @Eng.kB_s, @Eng.x_chn, @Eng.kChn_ok, @Eng.kChn2_ok, @Eng.kChn3_t, @Eng.kChn3_f, @Eng.kChn4_ok, @Eng.x_and, @Eng.kAnd_ok, @Eng.kAnd2_t, @Eng.kAnd2_f, @Eng.x_or, @Eng.kOr_ok, @Eng.kOr2_t, @Eng.kOr2_f, @Eng.x_not, @Eng.kNot_ok, @Eng.kNot2_s, @Eng.x_ife, @Eng.kIfe_ok, @Eng.kIfe2_t, @Eng.kIfe2_f, @Eng.x_tup, @Eng.kTup_ok, @Eng.x_lst, @Eng.kLst_ok, @Eng.x_dnew, @Eng.kDic_ok, @Eng.x_dnt, @Eng.x_ix, @Eng.kIx_ok, @Eng.kIx2_ok, @Eng.kIx3_s, @Eng.kDat_s, @Eng.x_slc, @Eng.kSlc_ok, @Eng.kSlc2_ok, @Eng.kSlc3_ok, @Eng.kSlc4_s, @Eng.x_rev, @Eng.kRev_ok, @Eng.kRev2_s, @Eng.x_call, @Eng.kCall_ok, @Eng.kCall2_ok, @Eng.kCall2_x, @Eng.x_callk, @Eng.kCallk_ok, @Eng.kCallk2_ok, @Eng.kCallk3_ok, @Eng.kCallk3_x, @Eng.x_bi, @Eng.kBi_ok, @Eng.kBi2_s, @Eng.x_two, @Eng.kTwo_ok, @Eng.kTwo2_ok, @Eng.kTwo3_s, @Eng.x_isi, @Eng.kIsi_ok, @Eng.kIsi2_s, @Eng.x_app, @Eng.kApp0_m, @Eng.kApp_ok, @Eng.kApp2_m, @Eng.x_lrg, @Eng.kLrg_ok, @Eng.x_lc, @Eng.kLc_ok, @Eng.kLc2_s, @Eng.kLc3_ok, @Eng.kT1_s, @Eng.kT2_ok, @Eng.kT3_t, @Eng.kT3_f, @Eng.kT4_ok, @Eng.x_evi0, @Eng.x_evi1, @Eng.x_evs0, @Eng.x_evs, @Eng.kEvs_ok, @Eng.kPush_ok, @Eng.x_eva, @Eng.kTk_ok, @Eng.tkR_s, @Eng.q_0, @Eng.q_v, @Eng.kQv_s, @Eng.q_e, @Eng.kQe_ok, @Eng.kPushO_ok, @Eng.t_0, @Eng.t_v, @Eng.kTv_d, @Eng.kTv_m, @Eng.t_e, @Eng.kPushT_s, @Eng.x_evo0, @Eng.x_evo, @Eng.kEvo_ok, @Eng.x_opv, @Eng.x_opn, @Eng.kVar_g, @Eng.x_mgn, @Eng.x_gix, @Eng.kGx0_g, @Eng.kGx_ok, @Eng.kGx1_s, @Eng.kGx2_ok, @Eng.gAt_i, @Eng.x_gbi, @Eng.kGb0_g, @Eng.kGb_ok, @Eng.kGb1_s, @Eng.x_gapp, @Eng.kGa0_g, @Eng.kGa_ok, @Eng.kGa1_g, @Eng.x_lcg, @Eng.kLg0_ok, @Eng.kLg1_s, @Eng.kLg3_ok, @Eng.kG1_s, @Eng.kG2_t, @Eng.kG2_f, @Eng.kG4_ok, @Eng.x_lc2, @Eng.k20_ok, @Eng.k21_s, @Eng.k2T_s, @Eng.k2T2_t, @Eng.k2T2_f, @Eng.k2T3_ok, @Eng.k2T4_s, @Eng.k2T5_ok, @Eng.x_callv, @Eng.kCv_f, @Eng.kNox_ok, @Eng.x_andT, @Eng.kAndT_ok, @Eng.kAndT2_t, @Eng.kAndT2_f, @Eng.x_orT, @Eng.kOrT_ok, @Eng.kOrT2_t, @Eng.kOrT2_f, @Eng.x_notT, @Eng.kNotT_ok, @Eng.x_cmpT, @Eng.kCmpT_ok, @Eng.kCmpT2_ok, @Eng.x_chnT, @Eng.kChnT_ok, @Eng.kChnT2_ok, @Eng.kChnT3_t, @Eng.kChnT3_f, @Eng.kChnT4_ok, @Eng.x_tru, @Eng.kTru_ok, @Eng.y_nil, @Eng.y_cons, @Eng.kSeq_nx, @Eng.kSeq_rt, @Eng.kSeq_bk, @Eng.kSeq_ct, @Eng.kSeq_x, @Eng.y_asg, @Eng.kAsg_ok, @Eng.ofO_s, @Eng.y_asgU, @Eng.kAsgU_ok, @Eng.kAsgU2_s, @Eng.unpack_t, @Eng.y_asgT, @Eng.kAsgT_ok, @Eng.g_nm, @Eng.g_ix, @Eng.kGix0_m, @Eng.kGix_ok, @Eng.kGix2_m, @Eng.kSt_s, @Eng.g_gst, @Eng.kGs0_g, @Eng.kGs1_ok, @Eng.kGs2_s, @Eng.kGs3_ok, @Eng.gIx_i, @Eng.kGs4_s, @Eng.g_grw, @Eng.kGr0_g, @Eng.kGr1_ok, @Eng.kGr2_s, @Eng.g_0, @Eng.g_s, @Eng.kG_s, @Eng.y_expr, @Eng.kExpr_ok, @Eng.kExpr_x, @Eng.y_retv, @Eng.kEvr_s, @Eng.y_ret, @Eng.kRet_ok, @Eng.y_retN, @Eng.y_if, @Eng.kIf_ok, @Eng.kIf2_t, @Eng.kIf2_f, @Eng.y_for, @Eng.kFor0_ok, @Eng.kFor1_s, @Eng.kForS_s, @Eng.kForN_nx, @Eng.kForN_ct, @Eng.kForN_bk, @Eng.kForN_rt, @Eng.kForN_x, @Eng.y_forv, @Eng.kFv_s, @Eng.kFv1_s, @Eng.kPut_nx, @Eng.kPut_rt, @Eng.kPut_bk, @Eng.kPut_ct, @Eng.kPut_x, @Eng.y_whl, @Eng.kWhl1_t, @Eng.kWhl1_f, @Eng.kWhlN_nx, @Eng.kWhlN_ct, @Eng.kWhlN_bk, @Eng.kWhlN_rt, @Eng.y_brk, @Eng.y_cnt, @Eng.y_pass, @Eng.getE_0, @Eng.getE_s, @Eng.reg_v, @Eng.reg_e, @Eng.add_i, @Eng.sub_i, @Eng.mul_l, @Eng.mul_r, @Eng.mod_i, @Eng.lt_i, @Eng.le_i, @Eng.gt_i, @Eng.ge_i, @Eng.eq_i, @Eng.ne_i, @Eng.tru_b, @Eng.tru_i, @Eng.ix_t, @Eng.ix_l, @Eng.ix_m, @Eng.ix_c, @Eng.len_t, @Eng.len_l, @Eng.len_m, @Eng.len_c, @Eng.abs_i, @Eng.int_i, @Eng.int_b, @Eng.max_i, @Eng.min_i, @Eng.gcd_i, @Eng.run_ok, @Eng.end_rt, @Eng.end_nx, @Eng.end_x, @Eng.fin_0, @Eng.fin_t, @Eng.fin_f, @Eng.at_0, @Eng.at_1, @Eng.at_2, @Eng.at_3, @Eng.at_4, @Eng.at_5, @Eng.at_6, @Eng.at_z, @Eng.ixN_0, @Eng.ixN_1, @Eng.ixN_2, @Eng.ixN_3, @Eng.ixN_4, @Eng.fdv_64, @Eng.dvm_64, @Eng.pow_64, @Eng.itd_t, @Eng.itd_l, @Eng.itd_m, @Eng.itd_c, @Eng.itd_et, @Eng.itd_el, @Eng.itd_em, @Eng.itd_zt, @Eng.itd_zl, @Eng.itd_r1, @Eng.itd_r2, @Eng.all_m, @Eng.any_m, @Eng.sum_m, @Eng.sum_t, @Eng.sum_ti, @Eng.sum_mi, @Eng.is_nn, @Eng.is_in, @Eng.is_bn, @Eng.is_sn, @Eng.is_tn, @Eng.is_ln, @Eng.is_mn, @Eng.eq_bb, @Eng.ne_bb, @Eng.tup_m, @Eng.tup_l, @Eng.tup_t, @Eng.lis_t, @Eng.lis_m, @Eng.lis_l, @Eng.add_t, @Eng.add_m, @Eng.mul_1, @Eng.slc_t, @Eng.slc_m, @Eng.slc_l, @Eng.slc_c, @Eng.cut_a, @Eng.cut_b, @Eng.z_set0, @Eng.z_sets, @Eng.z_len0, @Eng.z_lens, @Eng.z_map0, @Eng.z_maps, @Eng.z_app0, @Eng.z_apps, @Eng.z_rep0, @Eng.z_reps, @Eng.z_0add, @Eng.z_i0add, @Eng.z_fm0, @Eng.z_pm0, @Eng.z_pms, @Eng.z_pm1, @Eng.z_get0, @Eng.z_gets, @Eng.z_osome, @Eng.z_obind, @Eng.z_nt, @Eng.z_nf, @Eng.z_zip0, @Eng.z_zip1, @Eng.z_zips, @Eng.z_fl0, @Eng.z_fls, @Eng.z_anys, @Eng.z_any0, @Eng.z_of, @Eng.z_ot, @Eng.z_fo, @Eng.z_to, @Eng.z_ift, @Eng.z_iff, @Eng.z_fet, @Eng.z_tet, @Eng.z_ta, @Eng.z_at, @Eng.z_nlt, @Eng.z_bk0, @Eng.z_bkd, @Eng.z_bkm, @Eng.z_bkg, @Eng.z_bke, @Eng.z_w0, @Eng.z_ws, @Eng.z_sd1, @Eng.z_sdn, @Eng.z_re, @Eng.z_rd0, @Eng.z_rds, @Eng.z_kd, @Eng.z_km, @Eng.z_kg, @Eng.z_kn, @Eng.z_fzd, @Eng.z_fzm, @Eng.z_fzg, @Eng.z_ty0, @Eng.z_ty1, @Eng.z_ty2, @Eng.z_ty3, @Eng.z_ty4, @Eng.z_ty5, @Eng.z_ty6, @Eng.z_ty7, @Eng.z_ty8, @Eng.z_ty9, @Eng.z_is_int_int, @Eng.z_is_int_bool, @Eng.z_is_int_str, @Eng.z_is_int_tuple, @Eng.z_is_int_list, @Eng.z_is_int_dict, @Eng.z_is_int_none, @Eng.z_is_bool_int, @Eng.z_is_bool_bool, @Eng.z_is_bool_str, @Eng.z_is_bool_tuple, @Eng.z_is_bool_list, @Eng.z_is_bool_dict, @Eng.z_is_bool_none, @Eng.z_is_str_int, @Eng.z_is_str_bool, @Eng.z_is_str_str, @Eng.z_is_str_tuple, @Eng.z_is_str_list, @Eng.z_is_str_dict, @Eng.z_is_str_none, @Eng.z_is_tuple_int, @Eng.z_is_tuple_bool, @Eng.z_is_tuple_str, @Eng.z_is_tuple_tuple, @Eng.z_is_tuple_list, @Eng.z_is_tuple_dict, @Eng.z_is_tuple_none, @Eng.z_is_list_int, @Eng.z_is_list_bool, @Eng.z_is_list_str, @Eng.z_is_list_tuple, @Eng.z_is_list_list, @Eng.z_is_list_dict, @Eng.z_is_list_none, @Eng.z_is_dict_int, @Eng.z_is_dict_bool, @Eng.z_is_dict_str, @Eng.z_is_dict_tuple, @Eng.z_is_dict_list, @Eng.z_is_dict_dict, @Eng.z_is_dict_none, @Eng.z_is_none_int, @Eng.z_is_none_bool, @Eng.z_is_none_str, @Eng.z_is_none_tuple, @Eng.z_is_none_list, @Eng.z_is_none_dict, @Eng.z_is_none_none⟩
end Eng

set_option Elab.async false
set_option linter.all false
set_option maxRecDepth 100000
set_option maxHeartbeats 4000000
namespace Eng
open PySem PySem.Spec PyProof.Rows L2 RZ
/-! ### fractions: pairs in lowest terms -/
def fr (q : Rat) : D := .tup [.int q.num, .int (q.den : Int)]
/-- small: both numbers have at most k figures -/
def Bd (k : Nat) (q : Rat) : Prop := q.num.natAbs < 2 ^ k ∧ q.den < 2 ^ k
theorem Bd.mono {k l : Nat} {q : Rat} (h : Bd k q) (hl : k ≤ l) : Bd l q := by
  have := Nat.pow_le_pow_right (n := 2) (by omega) hl
  exact ⟨Nat.lt_of_lt_of_le h.1 this, Nat.lt_of_lt_of_le h.2 this⟩
theorem nat_log {n k : Nat} (h : n < 2 ^ k) : n.log2 ≤ k := by
  by_cases h0 : n = 0
  · subst h0; simp
  · exact Nat.le_of_lt ((Nat.log2_lt h0).mpr h)
theorem Bd.num {k : Nat} {q : Rat} (h : Bd k q) : q.num.natAbs.log2 ≤ k := nat_log h.1
theorem Bd.den {k : Nat} {q : Rat} (h : Bd k q) : ((q.den : Int)).natAbs.log2 ≤ k := by
  rw [Int.natAbs_natCast]; exact nat_log h.2
theorem Bd.int {i : Int} {k : Nat} (h1 : -(2 ^ k : Int) < i) (h2 : i < 2 ^ k) (hk : 0 < k) : Bd k (i : Rat) := by
  refine ⟨?_, ?_⟩
  · rw [Rat.num_intCast]
    have : (i.natAbs : Int) < ((2 ^ k : Nat) : Int) := by push_cast; omega
    exact_mod_cast this
  · rw [Rat.den_intCast]
    exact Nat.one_lt_two_pow (by omega)
/-- the number of a / b -/
theorem dv_num {a b : Int} (hb : 0 < b) : (Rat.divInt a b).num = a / ((Int.gcd a b : Nat) : Int) := by
  rw [Rat.num_divInt, Int.sign_eq_one_of_pos hb, Int.one_mul, Int.gcd_comm]
theorem dv_den {a b : Int} (hb : 0 < b) : ((Rat.divInt a b).den : Int) = b / ((Int.gcd a b : Nat) : Int) := by
  rw [Rat.den_divInt, if_neg (by omega), Int.gcd_comm]
  rw [Int.natCast_ediv, Int.natAbs_of_nonneg (by omega)]
theorem gcd_pos {a b : Int} (hb : 0 < b) : 0 < ((Int.gcd a b : Nat) : Int) := by
  have := Int.gcd_pos_of_ne_zero_right a (b := b) (by omega)
  omega
theorem gcd_le {a b : Int} (hb : 0 < b) : ((Int.gcd a b : Nat) : Int) ≤ b := Int.le_of_dvd hb (Int.gcd_dvd_right a b)
theorem gcd_log {a b : Int} {k : Nat} (hb : 0 < b) (h : b < 2 ^ k) : (((Int.gcd a b : Nat) : Int)).natAbs.log2 ≤ k := by
  have h1 := gcd_le (a := a) hb
  rw [Int.natAbs_natCast]
  refine nat_log ?_
  have : ((Int.gcd a b : Nat) : Int) < ((2 ^ k : Nat) : Int) := by push_cast; omega
  exact_mod_cast this
theorem Bd.dv {a b : Int} {k : Nat} (h1 : -(2 ^ k : Int) < a) (h2 : a < 2 ^ k) (hb : 0 < b) (h3 : b < 2 ^ k) : Bd k (Rat.divInt a b) := by
  have hg := gcd_pos (a := a) hb
  refine ⟨?_, ?_⟩
  · have : (Rat.divInt a b).num.natAbs ≤ a.natAbs := by
      rw [dv_num hb]
      exact Int.natAbs_ediv_le_natAbs a _
    have h4 : a.natAbs < 2 ^ k := by
      have : (a.natAbs : Int) < ((2 ^ k : Nat) : Int) := by push_cast; omega
      exact_mod_cast this
    omega
  · have : ((Rat.divInt a b).den : Int) ≤ b := by
      rw [dv_den hb]
      exact Int.ediv_le_self _ (by omega)
    have h5 : ((Rat.divInt a b).den : Int) < ((2 ^ k : Nat) : Int) := by push_cast; omega
    exact_mod_cast h5
theorem Bd.lt {k : Nat} {q : Rat} (h : Bd k q) : -(2 ^ k : Int) < q.num ∧ q.num < 2 ^ k ∧ 0 < (q.den : Int) ∧ (q.den : Int) < 2 ^ k := by
  have h1 : ((q.num.natAbs : Nat) : Int) < ((2 ^ k : Nat) : Int) := by exact_mod_cast h.1
  have h2 : ((q.den : Nat) : Int) < ((2 ^ k : Nat) : Int) := by exact_mod_cast h.2
  push_cast at h1 h2
  have h3 := q.den_pos
  refine ⟨by omega, by omega, by omega, h2⟩
theorem natAbs_mul_lt {a b : Int} {k l : Nat} (h1 : a.natAbs < 2 ^ k) (h2 : b.natAbs < 2 ^ l) : (a * b).natAbs < 2 ^ (k + l) := by
  rw [Int.natAbs_mul, Nat.pow_add]
  exact Nat.mul_lt_mul'' h1 h2
theorem lt_natAbs {a : Int} {k : Nat} (h : a.natAbs < 2 ^ k) : -(2 ^ k : Int) < a ∧ a < 2 ^ k := by
  have h1 : ((a.natAbs : Nat) : Int) < ((2 ^ k : Nat) : Int) := by exact_mod_cast h
  push_cast at h1
  omega
theorem nat_int {n k : Nat} (h : n < 2 ^ k) : (n : Int).natAbs < 2 ^ k := by rwa [Int.natAbs_natCast]
theorem sum_eq (p q : Rat) : p + q = Rat.divInt (p.num * q.den + q.num * p.den) (p.den * q.den) := by
  have hp : (p.den : Int) ≠ 0 := by have := p.den_pos; omega
  have hq : (q.den : Int) ≠ 0 := by have := q.den_pos; omega
  rw [← Rat.divInt_add_divInt _ _ hp hq, Rat.num_divInt_den, Rat.num_divInt_den]
theorem sub_eq (p q : Rat) : p - q = Rat.divInt (p.num * q.den - q.num * p.den) (p.den * q.den) := by
  have hp : (p.den : Int) ≠ 0 := by have := p.den_pos; omega
  have hq : (q.den : Int) ≠ 0 := by have := q.den_pos; omega
  rw [← Rat.divInt_sub_divInt _ _ hp hq, Rat.num_divInt_den, Rat.num_divInt_den]
theorem mul_eq (p q : Rat) : p * q = Rat.divInt (p.num * q.num) (p.den * q.den) := by
  rw [← Rat.divInt_mul_divInt, Rat.num_divInt_den, Rat.num_divInt_den]
theorem Bd.add {k l : Nat} {p q : Rat} (hp : Bd k p) (hq : Bd l q) : Bd (k + l + 1) (p + q) := by
  rw [sum_eq]
  have a1 := natAbs_mul_lt hp.1 (nat_int hq.2)
  have a2 := natAbs_mul_lt hq.1 (nat_int hp.2)
  have a3 := natAbs_mul_lt (nat_int hp.2) (nat_int hq.2)
  rw [Nat.add_comm l k] at a2
  have hpow : 2 ^ (k + l + 1) = 2 ^ (k + l) + 2 ^ (k + l) := by rw [Nat.pow_succ]; omega
  have b1 := lt_natAbs (a := p.num * q.den + q.num * p.den) (k := k + l + 1) (by
    have := Int.natAbs_add_le (p.num * q.den) (q.num * p.den)
    omega)
  have hd := p.den_pos
  have hd2 := q.den_pos
  have b2 := lt_natAbs (a := (p.den : Int) * q.den) (k := k + l + 1) (by omega)
  exact Bd.dv b1.1 b1.2 (Int.mul_pos (by omega) (by omega)) b2.2
theorem Bd.neg {k : Nat} {p : Rat} (h : Bd k p) : Bd k (-p) := by
  refine ⟨?_, ?_⟩
  · rw [Rat.neg_num]; simpa using h.1
  · rw [Rat.neg_den]; exact h.2
theorem Bd.sub {k l : Nat} {p q : Rat} (hp : Bd k p) (hq : Bd l q) : Bd (k + l + 1) (p - q) := by
  rw [Rat.sub_eq_add_neg]
  exact hp.add hq.neg
theorem Bd.mul {k l : Nat} {p q : Rat} (hp : Bd k p) (hq : Bd l q) : Bd (k + l) (p * q) := by
  rw [mul_eq]
  have a1 := natAbs_mul_lt hp.1 hq.1
  have a3 := natAbs_mul_lt (nat_int hp.2) (nat_int hq.2)
  have hd := p.den_pos
  have hd2 := q.den_pos
  exact Bd.dv (lt_natAbs a1).1 (lt_natAbs a1).2 (Int.mul_pos (by omega) (by omega)) (lt_natAbs a3).2
theorem fr_inj {p q : Rat} (h : fr p = fr q) : p = q := by
  unfold fr at h
  simp only [D.tup.injEq, List.cons.injEq, D.int.injEq, and_true] at h
  exact Rat.ext h.1 (by exact_mod_cast h.2)
theorem fr_int (i : Int) : D.tup [.int i, .int 1] = fr (i : Rat) := by
  unfold fr
  rw [Rat.num_intCast, Rat.den_intCast]; rfl
theorem fr_0 : D.tup [.int 0, .int 1] = fr 0 := rfl
theorem fr_1 : D.tup [.int 1, .int 1] = fr 1 := rfl
/-- equal fractions, as the text asks -/
theorem eq_fr {p q : Rat} : cmpS .Eq (.dat (fr p)) (.dat (fr q)) = some (decide (p = q)) := by
  show eqS _ _ = _
  unfold eqS fr
  rw [if_pos (by rfl)]
  simp only [fz, eqD, eqDs, Bool.and_true]
  congr 1
  have : (p.num == q.num && (p.den : Int) == (q.den : Int)) = decide (p = q) := by
    by_cases h : p = q
    · subst h; simp
    · rw [decide_eq_false h]
      by_cases h1 : p.num = q.num
      · have h2 : p.den ≠ q.den := fun z => h (Rat.ext h1 z)
        simp [h1]; omega
      · simp [h1]
  exact this
theorem ne_fr {p q : Rat} : cmpS .NotEq (.dat (fr p)) (.dat (fr q)) = some (!decide (p = q)) := by
  have := eq_fr (p := p) (q := q)
  show (cmpS .Eq (.dat (fr p)) (.dat (fr q))).map not = _
  rw [this]; rfl
/-- sums -/
theorem sum_take_succ {l : List Rat} {i : Nat} {q : Rat} (h : l[i]? = some q) : (l.take (i + 1)).sum = (l.take i).sum + q := by
  rw [List.take_add_one, h]
  simp only [Option.toList_some, List.sum_append, List.sum_cons, List.sum_nil, Rat.add_zero]
/-! ### more about comprehensions -/
section
variable {Φ : Str → List S → FR} {G : Str → Option D} {fu : Nat}
theorem lc_mapA {elt ifs : E} {tg own : List Nat} {one : Bool} {xs acc0 : List D} {en : En} (g : D → D)
    (hs : ∀ (i : Nat) (x : D) (acc : List D), xs[i]? = some x → acc.length = acc0.length + i → kT1 Φ G elt ifs own acc (setD en tg one x) = .ok (acc ++ [g x]) en) : kLcL Φ G elt tg one ifs own xs acc0 en = .ok (acc0 ++ xs.map g) en := by
  obtain ⟨acc, en', h1, h2, h3⟩ := lc_inv (Φ := Φ) (G := G) (elt := elt) (ifs := ifs) (tg := tg) (own := own) (one := one) (fun i acc en' => acc = acc0 ++ (xs.take i).map g ∧ en' = en) (acc0 := acc0) (en := en) (xs := xs) ⟨by simp, rfl⟩ fun i x acc en' hx ⟨ha, he⟩ => by
    have hi : i < xs.length := (List.getElem?_eq_some_iff.mp hx).1
    subst he
    refine ⟨_, _, hs i x acc hx ?_, ?_, rfl⟩
    · rw [ha, List.length_append, List.length_map, List.length_take]; omega
    · rw [ha, List.take_add_one, hx, List.map_append, List.append_assoc]; rfl
  rw [h1, h2, h3, List.take_length]
theorem l2_inv {elt ifs src2 ifs2 : E} {tg own tg2 own2 : List Nat} {one one2 : Bool} {k2 : IK} (I : Nat → List D → En → Prop) {xs acc0 : List D} {en : En} (h0 : I 0 acc0 en)
    (hs : ∀ (i : Nat) (x : D) (acc : List D) (en : En), xs[i]? = some x → I i acc en → ∃ acc' en', k2T Φ G elt ifs tg2 one2 k2 src2 ifs2 own own2 acc (setD en tg one x) = .ok acc' en' ∧ I (i + 1) acc' en') :
    ∃ acc en', k2L Φ G elt tg one ifs tg2 one2 k2 src2 ifs2 own own2 xs acc0 en = .ok acc en' ∧ I xs.length acc en' := by
  have go : ∀ (ys : List D) (i : Nat) (acc : List D) (en : En), ys = xs.drop i → i ≤ xs.length → I i acc en → ∃ acc2 en', k2L Φ G elt tg one ifs tg2 one2 k2 src2 ifs2 own own2 ys acc en = .ok acc2 en' ∧ I xs.length acc2 en' := by
    intro ys
    induction ys with
    | nil =>
      intro i acc en e hl hi
      have : i = xs.length := by
        have := congrArg List.length e
        simp at this
        omega
      subst this
      exact ⟨acc, en, rfl, hi⟩
    | cons y ys ih =>
      intro i acc en e hl hi
      have hlt : i < xs.length := by
        have := congrArg List.length e
        simp at this
        omega
      rw [List.drop_eq_getElem_cons hlt] at e
      injection e with e1 e2
      obtain ⟨acc', en', h, h2⟩ := hs i y acc en (by rw [List.getElem?_eq_getElem hlt, e1]) hi
      rw [k2L_s h]
      exact ih (i + 1) acc' en' e2 hlt h2
  exact go xs 0 acc0 en rfl (Nat.zero_le _) h0
/-- two sources, nothing changed but the block's own names -/
theorem l2_flat {elt ifs src2 ifs2 : E} {tg own tg2 own2 : List Nat} {one one2 : Bool} {k2 : IK} {xs : List D} {en : En} (h : D → List D)
    (hs : ∀ (i : Nat) (x : D) (acc : List D), xs[i]? = some x → acc = (xs.take i).flatMap h → k2T Φ G elt ifs tg2 one2 k2 src2 ifs2 own own2 acc (setD en tg one x) = .ok (acc ++ h x) en) :
    k2L Φ G elt tg one ifs tg2 one2 k2 src2 ifs2 own own2 xs [] en = .ok (xs.flatMap h) en := by
  obtain ⟨acc, en', h1, h2, h3⟩ := l2_inv (Φ := Φ) (G := G) (elt := elt) (ifs := ifs) (tg := tg) (own := own) (one := one) (tg2 := tg2) (one2 := one2) (k2 := k2) (src2 := src2) (ifs2 := ifs2) (own2 := own2) (fun i acc en' => acc = (xs.take i).flatMap h ∧ en' = en) (acc0 := []) (en := en) (xs := xs) ⟨by simp, rfl⟩ fun i x acc en' hx ⟨ha, he⟩ => by
    have hi : i < xs.length := (List.getElem?_eq_some_iff.mp hx).1
    subst he
    refine ⟨_, _, hs i x acc hx ha, ?_, rfl⟩
    rw [ha, List.take_add_one, hx, List.flatMap_append]
    simp
  rw [h1, h2, h3, List.take_length]
/-- grids -/
theorem lg_map {elt ifs : E} {tg own : List Nat} {one : Bool} {xs : List D} {en : En} (g : D → List D) (hl : xs.length ≤ SZ)
    (hs : ∀ (i : Nat) (x : D) (acc : List (List D)), xs[i]? = some x → acc.length < SZ → kG1 Φ G elt ifs own acc (setD en tg one x) = .ok (acc ++ [g x]) en) : kLgL Φ G elt tg one ifs own xs [] en = .ok (xs.map g) en := by
  have go : ∀ (ys : List D) (i : Nat) (acc : List (List D)), ys = xs.drop i → i ≤ xs.length → acc = (xs.take i).map g → kLgL Φ G elt tg one ifs own ys acc en = .ok (xs.map g) en := by
    intro ys
    induction ys with
    | nil =>
      intro i acc e hl hi
      have : i = xs.length := by
        have := congrArg List.length e
        simp at this
        omega
      subst this
      rw [hi, List.take_length]; rfl
    | cons y ys ih =>
      intro i acc e hl2 hi
      have hlt : i < xs.length := by
        have := congrArg List.length e
        simp at this
        omega
      rw [List.drop_eq_getElem_cons hlt] at e
      injection e with e1 e2
      have hx : xs[i]? = some y := by rw [List.getElem?_eq_getElem hlt, e1]
      rw [kLgL_s (hs i y acc hx (by rw [hi, List.length_map, List.length_take]; omega))]
      refine ih (i + 1) _ e2 hlt ?_
      rw [hi, List.take_add_one, hx, List.map_append]; rfl
  exact go xs 0 [] rfl (Nat.zero_le _) rfl
theorem all_true {acc : List D} (h : ∀ a ∈ acc, a = D.bl true) : biS1 .all (.ml acc) = some (.dat (.bl true)) := by
  have e : acc = acc.map fun _ => D.bl true := by
    conv => lhs; rw [← List.map_id' acc]
    exact List.map_congr_left fun a ha => h a ha
  rw [e, all_m]
  simp
theorem any_true {acc : List Bool} (h : true ∈ acc) : biS1 .any (.ml (acc.map .bl)) = some (.dat (.bl true)) := by
  have := any_m (f := fun b : Bool => b) (ys := acc)
  rw [this, List.any_eq_true.mpr ⟨true, h, rfl⟩]
end
theorem mul_ml {xs : List D} {k : Int} (h : 0 ≤ k) (h2 : k < 1000000) (h3 : xs.length * k.toNat ≤ SZ) : binS .Mult (.ml xs) (.dat (.int k)) = some (.ml (List.replicate k.toNat xs).flatten) := by
  simp only [binS, mulS, vM]
  rw [if_pos ⟨h, by omega, h3⟩]
/-! ### numbers in range -/
theorem rg_get (m : Nat) (i : Nat) (h : i < m) : (rgD 0 (m : Int))[i]? = some (.int (i : Nat)) := by
  unfold rgD
  rw [List.getElem?_map, List.getElem?_range (by omega)]
  simp
theorem rg_len (m : Nat) : (rgD 0 (m : Int)).length = m := by rw [rgD_len]; omega
theorem rg_mem {m : Nat} {i : Nat} {x : D} (h : (rgD 0 (m : Int))[i]? = some x) : x = .int (i : Nat) ∧ i < m := by
  obtain ⟨h1, h2⟩ := rgD_get h
  rw [Int.zero_add] at h1
  exact ⟨h1, by omega⟩
/-- a walk over range(m), as a map over a list of m things -/
theorem rg_map_of {α : Type} {l : List α} {g : D → D} {f : α → D} (h : ∀ (j : Nat) (x : α), l[j]? = some x → g (.int (j : Nat)) = f x) : (rgD 0 (l.length : Nat)).map g = l.map f := by
  apply List.ext_getElem?
  intro j
  rw [List.getElem?_map, List.getElem?_map]
  by_cases hj : j < l.length
  · rw [rg_get _ _ hj, List.getElem?_eq_getElem hj]
    simp only [Option.map_some]
    rw [h j _ (List.getElem?_eq_getElem hj)]
  · rw [List.getElem?_eq_none (by rw [rg_len]; omega), List.getElem?_eq_none (by omega)]; rfl
theorem rg_mapN {m : Nat} {g : D → D} {f : Nat → D} (h : ∀ j, j < m → g (.int (j : Nat)) = f j) : (rgD 0 (m : Nat)).map g = (List.range m).map f := by
  have := rg_map_of (l := List.range m) (g := g) (f := f) fun j x hx => by
    have hj : j < m := by
      have := (List.getElem?_eq_some_iff.mp hx).1
      simpa using this
    rw [List.getElem?_range hj] at hx
    cases hx
    exact h j hj
  rwa [List.length_range] at this
end Eng

set_option Elab.async false
set_option linter.all false
set_option maxRecDepth 100000
set_option maxHeartbeats 8000000
namespace Law
open PySem PySem.Spec PyProof.Rows L2 RZ Eng
def topS (i : Nat) : Stmt := PySem.Challenge.pw_steadytrees_k37_whole_nearness_and_contr.main.body.getD i (.Pass ⟨0, 0, 0, 0⟩)
/-! ### the defs in the small language -/
def ir_is_whole : P := (.cons (.ret (.and_ (.isi (.var 0) [.int] false) (.not_ (.isi (.var 0) [.bool] false))))
  .nil)
def fn_is_whole : Fn := ⟨1, [true], 1, ir_is_whole⟩
def ir_is_between : P := (.cons (.ret (.and_ (.call "is_whole" (.cons (.var 0) .nil)) (.chn .LtE .LtE (.var 1) (.var 0) (.var 2))))
  .nil)
def fn_is_between : Fn := ⟨3, [true, true, true], 3, ir_is_between⟩
def ir_is_tuple_of : P := (.cons (.ret (.and_ (.isi (.var 0) [.tuple] false) (.cmp .Eq (.bi .len (.var 0)) (.var 1))))
  .nil)
def fn_is_tuple_of : Fn := ⟨2, [true, true], 2, ir_is_tuple_of⟩
def ir_is_fraction : P := (.cons (.iff (.or_ (.not_ (.call "is_tuple_of" (.cons (.var 0) (.cons (.int 2) .nil)))) (.or_ (.not_ (.call "is_whole" (.cons (.ix (.var 0) (.int 0)) .nil))) (.not_ (.call "is_whole" (.cons (.ix (.var 0) (.int 1)) .nil))))) (.cons (.ret (.bl false))
  .nil) .nil)
  (.cons (.ret (.and_ (.cmp .Gt (.ix (.var 0) (.int 1)) (.int 0)) (.cmp .Eq (.bi2 .gcd (.ix (.var 0) (.int 0)) (.ix (.var 0) (.int 1))) (.int 1))))
  .nil))
def fn_is_fraction : Fn := ⟨1, [true], 1, ir_is_fraction⟩
def ir_fraction : P := (.cons (.asg (.nm 2) (.bi2 .gcd (.var 0) (.var 1)))
  (.cons (.ret (.tup (.cons (.bin .FloorDiv (.var 0) (.var 2)) (.cons (.bin .FloorDiv (.var 1) (.var 2)) .nil))))
  .nil))
def fn_fraction : Fn := ⟨2, [true, true], 3, ir_fraction⟩
def ir_fraction_sum : P := (.cons (.ret (.call "fraction" (.cons (.bin .Add (.bin .Mult (.ix (.var 0) (.int 0)) (.ix (.var 1) (.int 1))) (.bin .Mult (.ix (.var 1) (.int 0)) (.ix (.var 0) (.int 1)))) (.cons (.bin .Mult (.ix (.var 0) (.int 1)) (.ix (.var 1) (.int 1))) .nil))))
  .nil)
def fn_fraction_sum : Fn := ⟨2, [true, true], 2, ir_fraction_sum⟩
def ir_fraction_less : P := (.cons (.ret (.call "fraction" (.cons (.bin .Sub (.bin .Mult (.ix (.var 0) (.int 0)) (.ix (.var 1) (.int 1))) (.bin .Mult (.ix (.var 1) (.int 0)) (.ix (.var 0) (.int 1)))) (.cons (.bin .Mult (.ix (.var 0) (.int 1)) (.ix (.var 1) (.int 1))) .nil))))
  .nil)
def fn_fraction_less : Fn := ⟨2, [true, true], 2, ir_fraction_less⟩
def ir_fraction_times : P := (.cons (.ret (.call "fraction" (.cons (.bin .Mult (.ix (.var 0) (.int 0)) (.ix (.var 1) (.int 0))) (.cons (.bin .Mult (.ix (.var 0) (.int 1)) (.ix (.var 1) (.int 1))) .nil))))
  .nil)
def fn_fraction_times : Fn := ⟨2, [true, true], 2, ir_fraction_times⟩
def ir_is_above : P := (.cons (.ret (.cmp .Gt (.bin .Mult (.ix (.var 0) (.int 0)) (.ix (.var 1) (.int 1))) (.bin .Mult (.ix (.var 1) (.int 0)) (.ix (.var 0) (.int 1)))))
  .nil)
def fn_is_above : Fn := ⟨2, [true, true], 2, ir_is_above⟩
def ir_greater_of : P := (.cons (.ret (.ife (.call "is_above" (.cons (.var 0) (.cons (.var 1) .nil))) (.var 0) (.var 1)))
  .nil)
def fn_greater_of : Fn := ⟨2, [true, true], 2, ir_greater_of⟩
def lb_total_1 : P := (.cons (.asg (.nm 1) (.call "fraction_sum" (.cons (.var 1) (.cons (.var 2) .nil))))
  .nil)
def ir_total : P := (.cons (.asg (.nm 1) (.gl "ZERO"))
  (.cons (.forv [2] true .seq 0 lb_total_1)
  (.cons (.ret (.var 1))
  .nil)))
def fn_total : Fn := ⟨1, [true], 3, ir_total⟩
def lb_greatest_of_1 : P := (.cons (.asg (.nm 1) (.call "greater_of" (.cons (.var 1) (.cons (.var 2) .nil))))
  .nil)
def ir_greatest_of : P := (.cons (.asg (.nm 1) (.ix (.var 0) (.int 0)))
  (.cons (.forv [2] true .seq 0 lb_greatest_of_1)
  (.cons (.ret (.var 1))
  .nil)))
def fn_greatest_of : Fn := ⟨1, [true], 3, ir_greatest_of⟩
def ir_wrong_in_each : P := (.cons (.iff (.not_ (.call "is_tuple_of" (.cons (.var 0) (.cons (.var 1) .nil)))) (.cons (.ret (.lst (.cons .non .nil)))
  .nil) .nil)
  (.cons (.ret (.slc (.lc (.var 3) [3, 4] false .enum (.cons (.var 0) .nil) (.cons (.not_ (.callv 2 (.cons (.var 4) .nil))) .nil) [3, 4]) .nil (.int 1)))
  .nil))
def fn_wrong_in_each : Fn := ⟨3, [true, true, true], 5, ir_wrong_in_each⟩
def ir_is_row : P := (.cons (.iff (.or_ (.not_ (.call "is_tuple_of" (.cons (.var 0) (.cons (.var 1) .nil)))) (.not_ (.bi .all (.lc (.call "is_between" (.cons (.var 2) (.cons (.int 0) (.cons (.gl "MOST_NUMBER") .nil)))) [2] true .seq (.cons (.var 0) .nil) .nil [2])))) (.cons (.ret (.bl false))
  .nil) .nil)
  (.cons (.ret (.bi .any (.lc (.cmp .Gt (.var 2) (.int 0)) [2] true .seq (.cons (.var 0) .nil) .nil [2])))
  .nil))
def fn_is_row : Fn := ⟨2, [true, true], 3, ir_is_row⟩
def ir_wrong_in_table : P := (.cons (.iff (.or_ (.not_ (.isi (.var 0) [.tuple] false)) (.not_ (.chn .LtE .LtE (.int 1) (.bi .len (.var 0)) (.gl "MOST_PLACES")))) (.cons (.ret (.lst (.cons .non .nil)))
  .nil) .nil)
  (.cons (.ret (.slc (.lc (.var 1) [1, 2] false .enum (.cons (.var 0) .nil) (.cons (.not_ (.call "is_row" (.cons (.var 2) (.cons (.bi .len (.var 0)) .nil)))) .nil) [1, 2]) .nil (.int 1)))
  .nil))
def fn_wrong_in_table : Fn := ⟨1, [true], 3, ir_wrong_in_table⟩
def ir_places_of : P := (.cons (.ret (.lrg (.int 0) (.bi .len (.var 0))))
  .nil)
def fn_places_of : Fn := ⟨1, [true], 1, ir_places_of⟩
def ir_chance_by : P := (.cons (.ret (.call "fraction" (.cons (.ix (.ix (.var 0) (.var 1)) (.var 2)) (.cons (.bi .sum (.ix (.var 0) (.var 1))) .nil))))
  .nil)
def fn_chance_by : Fn := ⟨3, [true, true, true], 3, ir_chance_by⟩
def ir_is_share : P := (.cons (.ret (.and_ (.call "is_fraction" (.cons (.var 0) .nil)) (.cmp .GtE (.ix (.var 0) (.int 0)) (.int 0))))
  .nil)
def fn_is_share : Fn := ⟨1, [true], 1, ir_is_share⟩
def ir_wrong_in_shares : P := (.cons (.asg (.nm 2) (.call "wrong_in_each" (.cons (.var 1) (.cons (.var 0) (.cons (.gl "is_share") .nil)))))
  (.cons (.iff (.cmp .NotEq (.var 2) (.lst .nil)) (.cons (.ret (.var 2))
  .nil) .nil)
  (.cons (.ret (.ife (.cmp .Eq (.call "total" (.cons (.var 1) .nil)) (.gl "ONE")) (.lst .nil) (.lst (.cons (.var 0) .nil))))
  .nil)))
def fn_wrong_in_shares : Fn := ⟨2, [true, true], 3, ir_wrong_in_shares⟩
def ir_share_behind : P := (.cons (.ret (.call "total" (.cons (.lc (.call "fraction_times" (.cons (.var 4) (.cons (.call "chance_by" (.cons (.var 0) (.cons (.var 3) (.cons (.var 2) .nil)))) .nil))) [3, 4] false .enum (.cons (.var 1) .nil) .nil [3, 4]) .nil)))
  .nil)
def fn_share_behind : Fn := ⟨3, [true, true, true], 5, ir_share_behind⟩
def ir_led_once : P := (.cons (.ret (.bi .tuple (.lc (.call "share_behind" (.cons (.var 0) (.cons (.var 1) (.cons (.var 2) .nil)))) [2] true .seq (.cons (.call "places_of" (.cons (.var 0) .nil)) .nil) .nil [2])))
  .nil)
def fn_led_once : Fn := ⟨2, [true, true], 3, ir_led_once⟩
def lb_led_by_1 : P := (.cons (.asg (.nm 1) (.call "led_once" (.cons (.var 0) (.cons (.var 1) .nil))))
  .nil)
def ir_led_by : P := (.cons (.for_ [3] true .r1 (.cons (.var 2) .nil) lb_led_by_1)
  (.cons (.ret (.var 1))
  .nil))
def fn_led_by : Fn := ⟨3, [true, false, true], 4, ir_led_by⟩
def lb_check_table_1 : P := (.cons .bad
  .nil)
def ir_check_table : P := (.cons (.for_ [1] true .seq (.cons (.call "wrong_in_table" (.cons (.var 0) .nil)) .nil) lb_check_table_1)
  .nil)
def fn_check_table : Fn := ⟨1, [true], 2, ir_check_table⟩
def lb_check_shares_1 : P := (.cons .bad
  .nil)
def ir_check_shares : P := (.cons (.for_ [2] true .seq (.cons (.call "wrong_in_shares" (.cons (.bi .len (.var 0)) (.cons (.var 1) .nil))) .nil) lb_check_shares_1)
  .nil)
def fn_check_shares : Fn := ⟨2, [true, true], 3, ir_check_shares⟩
def ir_check_times : P := (.cons (.iff (.not_ (.call "is_between" (.cons (.var 0) (.cons (.var 1) (.cons (.var 2) .nil))))) (.cons .bad
  .nil) .nil)
  .nil)
def fn_check_times : Fn := ⟨3, [true, true, true], 3, ir_check_times⟩
def lb_apart_by_1 : P := (.cons (.asgU (.tcons (.nm 5) (.tcons (.nm 6) .tnil)) (.call "fraction_less" (.cons (.var 3) (.cons (.var 4) .nil))))
  (.cons (.expr (.app 2 (.call "fraction" (.cons (.bi .abs (.var 5)) (.cons (.var 6) .nil)))))
  .nil))
def ir_apart_by : P := (.cons (.asg (.nm 2) (.lst .nil))
  (.cons (.for_ [3, 4] false .zip (.cons (.var 0) (.cons (.var 1) .nil)) lb_apart_by_1)
  (.cons (.ret (.call "fraction_times" (.cons (.gl "HALF") (.cons (.call "total" (.cons (.var 2) .nil)) .nil))))
  .nil)))
def fn_apart_by : Fn := ⟨2, [true, true], 7, ir_apart_by⟩
def ir_chances_from : P := (.cons (.ret (.bi .tuple (.lc (.call "chance_by" (.cons (.var 0) (.cons (.var 1) (.cons (.var 2) .nil)))) [2] true .seq (.cons (.call "places_of" (.cons (.var 0) .nil)) .nil) .nil [2])))
  .nil)
def fn_chances_from : Fn := ⟨2, [true, true], 3, ir_chances_from⟩
def ir_contraction_by : P := (.cons (.asg (.nm 1) (.lc (.call "chances_from" (.cons (.var 0) (.cons (.var 2) .nil))) [2] true .seq (.cons (.call "places_of" (.cons (.var 0) .nil)) .nil) .nil [2]))
  (.cons (.ret (.call "greatest_of" (.cons (.lc2 (.call "apart_by" (.cons (.var 2) (.cons (.var 3) .nil))) [2] true .seq (.cons (.var 1) .nil) .nil [3] true .seq (.cons (.var 1) .nil) .nil [2, 3] [3]) .nil)))
  .nil))
def fn_contraction_by : Fn := ⟨1, [true], 4, ir_contraction_by⟩
def ir_led : P := (.cons (.expr (.call "check_table" (.cons (.var 0) .nil)))
  (.cons (.expr (.call "check_shares" (.cons (.var 0) (.cons (.var 1) .nil))))
  (.cons (.expr (.call "check_times" (.cons (.var 2) (.cons (.int 0) (.cons (.gl "MOST_STEPS") .nil)))))
  (.cons (.ret (.call "led_by" (.cons (.var 0) (.cons (.var 1) (.cons (.var 2) .nil)))))
  .nil))))
def fn_led : Fn := ⟨3, [true, true, true], 3, ir_led⟩
def ir_apart : P := (.cons (.expr (.call "check_table" (.cons (.var 0) .nil)))
  (.cons (.expr (.call "check_shares" (.cons (.var 0) (.cons (.var 1) .nil))))
  (.cons (.expr (.call "check_shares" (.cons (.var 0) (.cons (.var 2) .nil))))
  (.cons (.ret (.call "apart_by" (.cons (.var 1) (.cons (.var 2) .nil))))
  .nil))))
def fn_apart : Fn := ⟨3, [true, true, true], 3, ir_apart⟩
def ir_contraction : P := (.cons (.expr (.call "check_table" (.cons (.var 0) .nil)))
  (.cons (.ret (.call "contraction_by" (.cons (.var 0) .nil)))
  .nil))
def fn_contraction : Fn := ⟨1, [true], 1, ir_contraction⟩
def lb__law_well_1 : P := (.cons (.asg (.nm 3) (.bin .Mod (.bi .int (.bin .Add (.bin .Add (.bin .Mult (.var 3) (.int 44497)) (.bin .Mod (.bi .int (.var 4)) (.int 2147483587))) (.int 29))) (.int 2147483563)))
  .nil)
def ir__law_well : P := (.cons (.asg (.nm 2) (.ife (.cmp .Lt (.var 1) (.bi .len (.var 0))) (.bi .int (.ix (.var 0) (.var 1))) (.int 0)))
  (.cons (.asg (.nm 3) (.bin .Add (.int 52027) (.bin .Mult (.int 6971) (.var 1))))
  (.cons (.for_ [4] true .seq (.cons (.bin .Add (.slc (.var 0) .nil (.int 8)) (.lst (.cons (.var 2) .nil))) .nil) lb__law_well_1)
  (.cons (.ret (.lst (.cons (.ife (.or_ (.cmp .Lt (.var 2) (.int 0)) (.cmp .GtE (.var 2) (.bin .Pow (.int 10) (.int 18)))) (.bi .abs (.var 2)) (.int 0)) (.cons (.var 3) (.cons (.int 0) .nil)))))
  .nil))))
def fn__law_well : Fn := ⟨2, [true, true], 5, ir__law_well⟩
def ir__law_take : P := (.cons (.iff (.cmp .Gt (.ix (.var 0) (.int 0)) (.int 0)) (.cons (.asgU (.tcons (.ix 0 (.int 0)) (.tcons (.nm 2) .tnil)) (.bi2 .divmod (.ix (.var 0) (.int 0)) (.var 1)))
  (.cons (.ret (.var 2))
  .nil)) .nil)
  (.cons (.asg (.ix 0 (.int 2)) (.bin .Add (.ix (.var 0) (.int 2)) (.int 1)))
  (.cons (.asg (.ix 0 (.int 1)) (.bin .Mod (.bi .int (.bin .Add (.bin .Add (.bin .Mult (.ix (.var 0) (.int 1)) (.int 39373)) (.bin .Mult (.ix (.var 0) (.int 2)) (.int 30323))) (.int 11))) (.int 2147483543)))
  (.cons (.ret (.bin .Mod (.bi .int (.bin .FloorDiv (.ix (.var 0) (.int 1)) (.int 128))) (.var 1)))
  .nil))))
def fn__law_take : Fn := ⟨2, [true, true], 3, ir__law_take⟩
def ir__law_of : P := (.cons (.ret (.ix (.var 1) (.call "_law_take" (.cons (.var 0) (.cons (.bi .len (.var 1)) .nil)))))
  .nil)
def fn__law_of : Fn := ⟨2, [true, true], 2, ir__law_of⟩
def ir__law_same : P := (.cons (.iff (.or_ (.and_ (.isi (.var 1) [.tuple] false) (.not_ (.isi (.var 0) [.tuple] false))) (.and_ (.isi (.var 1) [.list] false) (.not_ (.isi (.var 0) [.list] false)))) (.cons (.ret (.bl false))
  .nil) .nil)
  (.cons (.iff (.isi (.var 1) [.tuple, .list] true) (.cons (.ret (.and_ (.cmp .Eq (.bi .len (.var 0)) (.bi .len (.var 1))) (.bi .all (.lc (.call "_law_same" (.cons (.ix (.var 0) (.var 2)) (.cons (.ix (.var 1) (.var 2)) .nil))) [2] true .r1 (.cons (.bi .len (.var 1)) .nil) .nil [2]))))
  .nil) .nil)
  (.cons (.iff (.or_ (.cmp .Is (.var 1) .non) (.cmp .Is (.var 0) .non)) (.cons (.ret (.and_ (.cmp .Is (.var 1) .non) (.cmp .Is (.var 0) .non)))
  .nil) .nil)
  (.cons (.iff (.or_ (.isi (.var 1) [.bool] false) (.isi (.var 0) [.bool] false)) (.cons (.ret (.and_ (.isi (.var 1) [.bool] false) (.and_ (.isi (.var 0) [.bool] false) (.cmp .Eq (.var 1) (.var 0)))))
  .nil) .nil)
  (.cons (.iff (.isi (.var 1) [.int] false) (.cons (.ret (.and_ (.isi (.var 0) [.int] false) (.cmp .Eq (.var 0) (.var 1))))
  .nil) .nil)
  (.cons (.iff (.isi (.var 1) [.str] false) (.cons (.ret (.and_ (.isi (.var 0) [.str] false) (.cmp .Eq (.var 0) (.var 1))))
  .nil) .nil)
  (.cons (.ret (.and_ (.isi (.var 1) [.dict] false) (.and_ (.isi (.var 0) [.dict] false) (.and_ (.cmp .Eq (.bi .len (.var 0)) (.bi .len (.var 1))) (.cmp .Eq (.var 0) (.var 1))))))
  .nil)))))))
def fn__law_same : Fn := ⟨2, [true, true], 3, ir__law_same⟩
def lb__law_part_1 : P := (.cons (.asgT (.tcons (.nm 2) (.tcons (.nm 3) .tnil)) (.cons (.var 3) (.cons (.bin .Mod (.bi .int (.var 2)) (.var 3)) .nil)))
  .nil)
def lc__law_part_2 : E := (.cmp .Gt (.var 3) (.int 0))
def ir__law_part : P := (.cons (.iff (.cmp .Lt (.var 1) (.int 0)) (.cons (.asgT (.tcons (.nm 0) (.tcons (.nm 1) .tnil)) (.cons (.bin .Sub (.int 0) (.var 0)) (.cons (.bin .Sub (.int 0) (.var 1)) .nil)))
  .nil) .nil)
  (.cons (.asgT (.tcons (.nm 2) (.tcons (.nm 3) .tnil)) (.cons (.bi .abs (.var 0)) (.cons (.var 1) .nil)))
  (.cons (.whl lc__law_part_2 lb__law_part_1)
  (.cons (.ret (.tup (.cons (.bin .FloorDiv (.var 0) (.var 2)) (.cons (.bin .FloorDiv (.var 1) (.var 2)) .nil))))
  .nil))))
def fn__law_part : Fn := ⟨2, [false, false], 4, ir__law_part⟩
def ir__law_plus : P := (.cons (.ret (.call "_law_part" (.cons (.bin .Add (.bin .Mult (.ix (.var 0) (.int 0)) (.ix (.var 1) (.int 1))) (.bin .Mult (.ix (.var 1) (.int 0)) (.ix (.var 0) (.int 1)))) (.cons (.bin .Mult (.ix (.var 0) (.int 1)) (.ix (.var 1) (.int 1))) .nil))))
  .nil)
def fn__law_plus : Fn := ⟨2, [true, true], 2, ir__law_plus⟩
def ir__law_less : P := (.cons (.ret (.call "_law_part" (.cons (.bin .Sub (.bin .Mult (.ix (.var 0) (.int 0)) (.ix (.var 1) (.int 1))) (.bin .Mult (.ix (.var 1) (.int 0)) (.ix (.var 0) (.int 1)))) (.cons (.bin .Mult (.ix (.var 0) (.int 1)) (.ix (.var 1) (.int 1))) .nil))))
  .nil)
def fn__law_less : Fn := ⟨2, [true, true], 2, ir__law_less⟩
def ir__law_by : P := (.cons (.ret (.call "_law_part" (.cons (.bin .Mult (.ix (.var 0) (.int 0)) (.ix (.var 1) (.int 0))) (.cons (.bin .Mult (.ix (.var 0) (.int 1)) (.ix (.var 1) (.int 1))) .nil))))
  .nil)
def fn__law_by : Fn := ⟨2, [true, true], 2, ir__law_by⟩
def ir__law_is_below : P := (.cons (.ret (.cmp .Lt (.bin .Mult (.ix (.var 0) (.int 0)) (.ix (.var 1) (.int 1))) (.bin .Mult (.ix (.var 1) (.int 0)) (.ix (.var 0) (.int 1)))))
  .nil)
def fn__law_is_below : Fn := ⟨2, [true, true], 2, ir__law_is_below⟩
def ib__law_table_1 : P := (.iff (.and_ (.cmp .Eq (.var 3) (.int 1)) (.cmp .Lt (.var 8) (.var 7))) (.cons (.asg (.nm 9) (.lc (.ife (.cmp .Lt (.var 10) (.var 7)) (.ix (.var 9) (.var 10)) (.int 0)) [10] true .r1 (.cons (.var 2) .nil) .nil [10]))
  .nil) .nil)
def ib__law_table_2 : P := (.iff (.cmp .Eq (.var 3) (.int 2)) (.cons (.asg (.nm 9) (.lc (.ife (.cmp .Eq (.bin .Mod (.bi .int (.bin .Add (.var 8) (.var 10))) (.int 2)) (.int 1)) (.ix (.var 9) (.var 10)) (.int 0)) [10] true .r1 (.cons (.var 2) .nil) .nil [10]))
  .nil) .nil)
def ib__law_table_3 : P := (.iff (.cmp .Eq (.var 3) (.int 3)) (.cons (.asg (.nm 9) (.lc (.ife (.cmp .Eq (.var 10) (.bin .Mod (.bi .int (.bin .Add (.var 8) (.int 1))) (.var 2))) (.int 1) (.int 0)) [10] true .r1 (.cons (.var 2) .nil) .nil [10]))
  .nil) .nil)
def ib__law_table_4 : P := (.iff (.cmp .Eq (.bi .sum (.var 9)) (.int 0)) (.cons (.asg (.ix 9 (.ife (.or_ (.cmp .NotEq (.var 3) (.int 1)) (.cmp .GtE (.var 8) (.var 7))) (.call "_law_take" (.cons (.var 0) (.cons (.var 2) .nil))) (.call "_law_take" (.cons (.var 0) (.cons (.var 7) .nil))))) (.int 1))
  .nil) .nil)
def lb__law_table_5 : P := (.cons (.asg (.nm 9) (.lc (.ife (.cmp .Lt (.call "_law_take" (.cons (.var 0) (.cons (.int 8) .nil))) (.var 4)) (.bin .Add (.int 1) (.call "_law_take" (.cons (.var 0) (.cons (.var 5) .nil)))) (.int 0)) [10] true .r1 (.cons (.var 2) .nil) .nil [10]))
  (.cons ib__law_table_1
  (.cons ib__law_table_2
  (.cons ib__law_table_3
  (.cons ib__law_table_4
  (.cons (.expr (.app 6 (.bi .tuple (.var 9))))
  .nil))))))
def ir__law_table : P := (.cons (.asgT (.tcons (.nm 2) (.tcons (.nm 3) .tnil)) (.cons (.bin .Add (.int 1) (.call "_law_take" (.cons (.var 0) (.cons (.var 1) .nil)))) (.cons (.call "_law_take" (.cons (.var 0) (.cons (.int 5) .nil))) .nil)))
  (.cons (.asgT (.tcons (.nm 4) (.tcons (.nm 5) (.tcons (.nm 6) .tnil))) (.cons (.call "_law_of" (.cons (.var 0) (.cons (.tup (.cons (.int 2) (.cons (.int 4) (.cons (.int 7) .nil)))) .nil))) (.cons (.call "_law_of" (.cons (.var 0) (.cons (.tup (.cons (.int 2) (.cons (.int 5) (.cons (.int 99) .nil)))) .nil))) (.cons (.lst .nil) .nil))))
  (.cons (.asg (.nm 7) (.bin .Add (.int 1) (.call "_law_take" (.cons (.var 0) (.cons (.var 2) .nil)))))
  (.cons (.for_ [8] true .r1 (.cons (.var 2) .nil) lb__law_table_5)
  (.cons (.ret (.bi .tuple (.var 6)))
  .nil)))))
def fn__law_table : Fn := ⟨2, [true, true], 11, ir__law_table⟩
def ir__law_chance : P := (.cons (.ret (.call "_law_part" (.cons (.ix (.ix (.var 0) (.var 1)) (.var 2)) (.cons (.bi .sum (.ix (.var 0) (.var 1))) .nil))))
  .nil)
def fn__law_chance : Fn := ⟨3, [true, true, true], 3, ir__law_chance⟩
def lb__law_apart_1 : P := (.cons (.asg (.nm 5) (.call "_law_less" (.cons (.var 3) (.cons (.var 4) .nil))))
  (.cons (.asg (.nm 2) (.call "_law_plus" (.cons (.var 2) (.cons (.tup (.cons (.bi .abs (.ix (.var 5) (.int 0))) (.cons (.ix (.var 5) (.int 1)) .nil))) .nil))))
  .nil))
def ir__law_apart : P := (.cons (.asg (.nm 2) (.tup (.cons (.int 0) (.cons (.int 1) .nil))))
  (.cons (.for_ [3, 4] false .zip (.cons (.var 0) (.cons (.var 1) .nil)) lb__law_apart_1)
  (.cons (.ret (.call "_law_by" (.cons (.var 2) (.cons (.tup (.cons (.int 1) (.cons (.int 2) .nil))) .nil))))
  .nil)))
def fn__law_apart : Fn := ⟨2, [true, true], 6, ir__law_apart⟩
def ir__law_shares : P := (.cons (.asg (.nm 2) (.lc (.call "_law_take" (.cons (.var 0) (.cons (.int 5) .nil))) [3] true .r1 (.cons (.var 1) .nil) .nil [3]))
  (.cons (.asg (.ix 2 (.call "_law_take" (.cons (.var 0) (.cons (.var 1) .nil)))) (.bin .Add (.int 1) (.call "_law_take" (.cons (.var 0) (.cons (.int 4) .nil)))))
  (.cons (.ret (.bi .tuple (.lc (.call "_law_part" (.cons (.var 4) (.cons (.bi .sum (.var 2)) .nil))) [4] true .seq (.cons (.var 2) .nil) .nil [4])))
  .nil)))
def fn__law_shares : Fn := ⟨2, [true, true], 5, ir__law_shares⟩
def lb__law_contraction_1 : P := (.cons (.asg (.nm 5) (.call "_law_apart" (.cons (.var 1) (.cons (.var 2) .nil))))
  (.cons (.asg (.nm 4) (.ife (.call "_law_is_below" (.cons (.var 4) (.cons (.var 5) .nil))) (.var 5) (.var 4)))
  .nil))
def lb__law_contraction_2 : P := (.cons (.forv [2] true .seq 3 lb__law_contraction_1)
  .nil)
def ir__law_contraction : P := (.cons (.asg (.nm 3) (.lc (.lc (.call "_law_chance" (.cons (.var 0) (.cons (.var 1) (.cons (.var 2) .nil)))) [2] true .r1 (.cons (.bi .len (.var 0)) .nil) .nil [2]) [1] true .r1 (.cons (.bi .len (.var 0)) .nil) .nil [1]))
  (.cons (.asg (.nm 4) (.tup (.cons (.int 0) (.cons (.int 1) .nil))))
  (.cons (.for_ [1] true .seq (.cons (.var 3) .nil) lb__law_contraction_2)
  (.cons (.ret (.var 4))
  .nil))))
def fn__law_contraction : Fn := ⟨1, [true], 6, ir__law_contraction⟩
def lb__law_is_told_1 : P := (.cons (.asg (.nm 11) (.and_ (.var 11) (.bi .any (.lc (.and_ (.cmp .Gt (.ix (.ix (.var 1) (.var 12)) (.var 15)) (.int 0)) (.cmp .Gt (.ix (.ix (.var 1) (.var 13)) (.var 15)) (.int 0))) [15] true .r1 (.cons (.var 2) .nil) .nil [15]))))
  .nil)
def lb__law_is_told_2 : P := (.cons (.for_ [13] true .r1 (.cons (.var 2) .nil) lb__law_is_told_1)
  .nil)
def ir__law_is_told : P := (.cons (.asg (.nm 2) (.bi .len (.var 1)))
  (.cons (.asgT (.tcons (.nm 3) (.tcons (.nm 4) (.tcons (.nm 5) .tnil))) (.cons (.call "_law_shares" (.cons (.var 0) (.cons (.var 2) .nil))) (.cons (.call "_law_shares" (.cons (.var 0) (.cons (.var 2) .nil))) (.cons (.call "_law_shares" (.cons (.var 0) (.cons (.var 2) .nil))) .nil))))
  (.cons (.asg (.nm 6) (.ife (.cmp .Eq (.call "_law_take" (.cons (.var 0) (.cons (.int 2) .nil))) (.int 0)) (.call "apart" (.cons (.var 1) (.cons (.var 3) (.cons (.var 4) .nil)))) (.callk "apart" .nil (.cons (.var 4) (.cons (.var 3) (.cons (.var 1) .nil))) [2, 1, 0])))
  (.cons (.iff (.or_ (.not_ (.call "_law_same" (.cons (.lst (.cons (.var 6) (.cons (.call "apart" (.cons (.var 1) (.cons (.var 4) (.cons (.var 3) .nil)))) .nil))) (.cons (.bin .Mult (.lst (.cons (.call "_law_apart" (.cons (.var 3) (.cons (.var 4) .nil))) .nil)) (.int 2)) .nil)))) (.cmp .NotEq (.cmp .Eq (.var 6) (.tup (.cons (.int 0) (.cons (.int 1) .nil)))) (.cmp .Eq (.var 3) (.var 4)))) (.cons (.ret (.bl false))
  .nil) .nil)
  (.cons (.iff (.or_ (.call "_law_is_below" (.cons (.call "_law_plus" (.cons (.call "apart" (.cons (.var 1) (.cons (.var 3) (.cons (.var 5) .nil)))) (.cons (.call "apart" (.cons (.var 1) (.cons (.var 5) (.cons (.var 4) .nil)))) .nil))) (.cons (.var 6) .nil))) (.call "_law_is_below" (.cons (.tup (.cons (.int 1) (.cons (.int 1) .nil))) (.cons (.var 6) .nil)))) (.cons (.ret (.bl false))
  .nil) .nil)
  (.cons (.asg (.nm 7) (.call "_law_contraction" (.cons (.var 1) .nil)))
  (.cons (.asg (.nm 8) (.ife (.cmp .Eq (.call "_law_take" (.cons (.var 0) (.cons (.int 2) .nil))) (.int 0)) (.call "contraction" (.cons (.var 1) .nil)) (.callk "contraction" .nil (.cons (.var 1) .nil) [0])))
  (.cons (.iff (.or_ (.not_ (.call "_law_same" (.cons (.var 8) (.cons (.var 7) .nil)))) (.call "_law_is_below" (.cons (.call "_law_by" (.cons (.var 7) (.cons (.var 6) .nil))) (.cons (.call "apart" (.cons (.var 1) (.cons (.call "led" (.cons (.var 1) (.cons (.var 3) (.cons (.int 1) .nil)))) (.cons (.call "led" (.cons (.var 1) (.cons (.var 4) (.cons (.int 1) .nil)))) .nil)))) .nil)))) (.cons (.ret (.bl false))
  .nil) .nil)
  (.cons (.asg (.nm 9) (.lc (.lc (.call "_law_chance" (.cons (.var 1) (.cons (.var 14) (.cons (.var 15) .nil)))) [15] true .r1 (.cons (.var 2) .nil) .nil [15]) [14] true .r1 (.cons (.var 2) .nil) .nil [14]))
  (.cons (.asgT (.tcons (.nm 10) (.tcons (.nm 11) .tnil)) (.cons (.bi .all (.lc (.cmp .Eq (.var 16) (.ix (.var 9) (.int 0))) [16] true .seq (.cons (.var 9) .nil) .nil [16])) (.cons (.bl true) .nil)))
  (.cons (.for_ [12] true .r1 (.cons (.var 2) .nil) lb__law_is_told_2)
  (.cons (.ret (.and_ (.cmp .Eq (.cmp .Eq (.var 8) (.tup (.cons (.int 0) (.cons (.int 1) .nil)))) (.var 10)) (.cmp .Eq (.call "_law_is_below" (.cons (.var 8) (.cons (.tup (.cons (.int 1) (.cons (.int 1) .nil))) .nil))) (.var 11))))
  .nil))))))))))))
def fn__law_is_told : Fn := ⟨2, [true, true], 17, ir__law_is_told⟩
def ib__law_right_1 : P := (.iff (.not_ (.call "_law_is_told" (.cons (.var 0) (.cons (.call "_law_table" (.cons (.var 0) (.cons (.int 6) .nil))) .nil)))) (.cons (.ret (.bl false))
  .nil) .nil)
def lb__law_right_2 : P := (.cons ib__law_right_1
  .nil)
def ir__law_right : P := (.cons (.for_ [1] true .r1 (.cons (.int 10) .nil) lb__law_right_2)
  (.cons (.asg (.nm 2) (.bi .tuple (.lc (.bin .Add (.int 1) (.call "_law_take" (.cons (.var 0) (.cons (.int 9) .nil)))) [4] true .r1 (.cons (.int 3) .nil) .nil [4])))
  (.cons (.asg (.nm 3) (.tup (.cons (.var 2) (.cons (.bi .tuple (.lc (.bin .Mult (.int 2) (.var 5)) [5] true .seq (.cons (.var 2) .nil) .nil [5])) (.cons (.var 2) .nil)))))
  (.cons (.ret (.and_ (.call "_law_is_told" (.cons (.var 0) (.cons (.var 3) .nil))) (.call "_law_same" (.cons (.lst (.cons (.call "contraction" (.cons (.var 3) .nil)) (.cons (.call "contraction" (.cons (.tup (.cons (.tup (.cons (.int 4) .nil)) .nil)) .nil)) (.cons (.call "contraction" (.cons (.tup (.cons (.tup (.cons (.int 0) (.cons (.int 1) .nil))) (.cons (.tup (.cons (.int 1) (.cons (.int 0) .nil))) .nil))) .nil)) .nil)))) (.cons (.lst (.cons (.tup (.cons (.int 0) (.cons (.int 1) .nil))) (.cons (.tup (.cons (.int 0) (.cons (.int 1) .nil))) (.cons (.tup (.cons (.int 1) (.cons (.int 1) .nil))) .nil)))) .nil)))))
  .nil))))
def fn__law_right : Fn := ⟨1, [true], 6, ir__law_right⟩
def ir_law : P := (.cons (.ret (.bi .all (.lc (.call "_law_right" (.cons (.call "_law_well" (.cons (.var 0) (.cons (.var 1) .nil))) .nil)) [1] true .r1 (.cons (.bi2 .max2 (.int 2) (.bi2 .min2 (.bi .len (.var 0)) (.int 3))) .nil) .nil [1])))
  .nil)
def fn_law : Fn := ⟨1, [true], 2, ir_law⟩
def TT : List (Str × Fn) := [(("is_whole" : Str), fn_is_whole), (("is_between" : Str), fn_is_between), (("is_tuple_of" : Str), fn_is_tuple_of), (("is_fraction" : Str), fn_is_fraction), (("fraction" : Str), fn_fraction), (("fraction_sum" : Str), fn_fraction_sum), (("fraction_less" : Str), fn_fraction_less), (("fraction_times" : Str), fn_fraction_times), (("is_above" : Str), fn_is_above), (("greater_of" : Str), fn_greater_of), (("total" : Str), fn_total), (("greatest_of" : Str), fn_greatest_of), (("wrong_in_each" : Str), fn_wrong_in_each), (("is_row" : Str), fn_is_row), (("wrong_in_table" : Str), fn_wrong_in_table), (("places_of" : Str), fn_places_of), (("chance_by" : Str), fn_chance_by), (("is_share" : Str), fn_is_share), (("wrong_in_shares" : Str), fn_wrong_in_shares), (("share_behind" : Str), fn_share_behind), (("led_once" : Str), fn_led_once), (("led_by" : Str), fn_led_by), (("check_table" : Str), fn_check_table), (("check_shares" : Str), fn_check_shares), (("check_times" : Str), fn_check_times), (("apart_by" : Str), fn_apart_by), (("chances_from" : Str), fn_chances_from), (("contraction_by" : Str), fn_contraction_by), (("led" : Str), fn_led), (("apart" : Str), fn_apart), (("contraction" : Str), fn_contraction), (("_law_well" : Str), fn__law_well), (("_law_take" : Str), fn__law_take), (("_law_of" : Str), fn__law_of), (("_law_same" : Str), fn__law_same), (("_law_part" : Str), fn__law_part), (("_law_plus" : Str), fn__law_plus), (("_law_less" : Str), fn__law_less), (("_law_by" : Str), fn__law_by), (("_law_is_below" : Str), fn__law_is_below), (("_law_table" : Str), fn__law_table), (("_law_chance" : Str), fn__law_chance), (("_law_apart" : Str), fn__law_apart), (("_law_shares" : Str), fn__law_shares), (("_law_contraction" : Str), fn__law_contraction), (("_law_is_told" : Str), fn__law_is_told), (("_law_right" : Str), fn__law_right), (("law" : Str), fn_law)]
def GLs : List (Str × D) := [(("HALF" : Str), (.tup [.int 1, .int 2] : D)), (("MOST_NUMBER" : Str), (.int 99 : D)), (("MOST_PLACES" : Str), (.int 6 : D)), (("MOST_STEPS" : Str), (.int 60 : D)), (("ONE" : Str), (.tup [.int 1, .int 1] : D)), (("ZERO" : Str), (.tup [.int 0, .int 1] : D)), (("is_share" : Str), (.fn "is_share" : D))]
def GG : Str → Option D := fun x => GLs.lookup x
def FU : Nat := 2 ^ 70
theorem s_is_whole (n : Nat) (ss : List S) : callN TT GG FU (n + 1) "is_whole" ss = runFn (callN TT GG FU n) GG FU fn_is_whole ss := rfl
theorem s_is_between (n : Nat) (ss : List S) : callN TT GG FU (n + 1) "is_between" ss = runFn (callN TT GG FU n) GG FU fn_is_between ss := rfl
theorem s_is_tuple_of (n : Nat) (ss : List S) : callN TT GG FU (n + 1) "is_tuple_of" ss = runFn (callN TT GG FU n) GG FU fn_is_tuple_of ss := rfl
theorem s_is_fraction (n : Nat) (ss : List S) : callN TT GG FU (n + 1) "is_fraction" ss = runFn (callN TT GG FU n) GG FU fn_is_fraction ss := rfl
theorem s_fraction (n : Nat) (ss : List S) : callN TT GG FU (n + 1) "fraction" ss = runFn (callN TT GG FU n) GG FU fn_fraction ss := rfl
theorem s_fraction_sum (n : Nat) (ss : List S) : callN TT GG FU (n + 1) "fraction_sum" ss = runFn (callN TT GG FU n) GG FU fn_fraction_sum ss := rfl
theorem s_fraction_less (n : Nat) (ss : List S) : callN TT GG FU (n + 1) "fraction_less" ss = runFn (callN TT GG FU n) GG FU fn_fraction_less ss := rfl
theorem s_fraction_times (n : Nat) (ss : List S) : callN TT GG FU (n + 1) "fraction_times" ss = runFn (callN TT GG FU n) GG FU fn_fraction_times ss := rfl
theorem s_is_above (n : Nat) (ss : List S) : callN TT GG FU (n + 1) "is_above" ss = runFn (callN TT GG FU n) GG FU fn_is_above ss := rfl
theorem s_greater_of (n : Nat) (ss : List S) : callN TT GG FU (n + 1) "greater_of" ss = runFn (callN TT GG FU n) GG FU fn_greater_of ss := rfl
theorem s_total (n : Nat) (ss : List S) : callN TT GG FU (n + 1) "total" ss = runFn (callN TT GG FU n) GG FU fn_total ss := rfl
theorem s_greatest_of (n : Nat) (ss : List S) : callN TT GG FU (n + 1) "greatest_of" ss = runFn (callN TT GG FU n) GG FU fn_greatest_of ss := rfl
theorem s_wrong_in_each (n : Nat) (ss : List S) : callN TT GG FU (n + 1) "wrong_in_each" ss = runFn (callN TT GG FU n) GG FU fn_wrong_in_each ss := rfl
theorem s_is_row (n : Nat) (ss : List S) : callN TT GG FU (n + 1) "is_row" ss = runFn (callN TT GG FU n) GG FU fn_is_row ss := rfl
theorem s_wrong_in_table (n : Nat) (ss : List S) : callN TT GG FU (n + 1) "wrong_in_table" ss = runFn (callN TT GG FU n) GG FU fn_wrong_in_table ss := rfl
theorem s_places_of (n : Nat) (ss : List S) : callN TT GG FU (n + 1) "places_of" ss = runFn (callN TT GG FU n) GG FU fn_places_of ss := rfl
theorem s_chance_by (n : Nat) (ss : List S) : callN TT GG FU (n + 1) "chance_by" ss = runFn (callN TT GG FU n) GG FU fn_chance_by ss := rfl
theorem s_is_share (n : Nat) (ss : List S) : callN TT GG FU (n + 1) "is_share" ss = runFn (callN TT GG FU n) GG FU fn_is_share ss := rfl
theorem s_wrong_in_shares (n : Nat) (ss : List S) : callN TT GG FU (n + 1) "wrong_in_shares" ss = runFn (callN TT GG FU n) GG FU fn_wrong_in_shares ss := rfl
theorem s_share_behind (n : Nat) (ss : List S) : callN TT GG FU (n + 1) "share_behind" ss = runFn (callN TT GG FU n) GG FU fn_share_behind ss := rfl
theorem s_led_once (n : Nat) (ss : List S) : callN TT GG FU (n + 1) "led_once" ss = runFn (callN TT GG FU n) GG FU fn_led_once ss := rfl
theorem s_led_by (n : Nat) (ss : List S) : callN TT GG FU (n + 1) "led_by" ss = runFn (callN TT GG FU n) GG FU fn_led_by ss := rfl
theorem s_check_table (n : Nat) (ss : List S) : callN TT GG FU (n + 1) "check_table" ss = runFn (callN TT GG FU n) GG FU fn_check_table ss := rfl
theorem s_check_shares (n : Nat) (ss : List S) : callN TT GG FU (n + 1) "check_shares" ss = runFn (callN TT GG FU n) GG FU fn_check_shares ss := rfl
theorem s_check_times (n : Nat) (ss : List S) : callN TT GG FU (n + 1) "check_times" ss = runFn (callN TT GG FU n) GG FU fn_check_times ss := rfl
theorem s_apart_by (n : Nat) (ss : List S) : callN TT GG FU (n + 1) "apart_by" ss = runFn (callN TT GG FU n) GG FU fn_apart_by ss := rfl
theorem s_chances_from (n : Nat) (ss : List S) : callN TT GG FU (n + 1) "chances_from" ss = runFn (callN TT GG FU n) GG FU fn_chances_from ss := rfl
theorem s_contraction_by (n : Nat) (ss : List S) : callN TT GG FU (n + 1) "contraction_by" ss = runFn (callN TT GG FU n) GG FU fn_contraction_by ss := rfl
theorem s_led (n : Nat) (ss : List S) : callN TT GG FU (n + 1) "led" ss = runFn (callN TT GG FU n) GG FU fn_led ss := rfl
theorem s_apart (n : Nat) (ss : List S) : callN TT GG FU (n + 1) "apart" ss = runFn (callN TT GG FU n) GG FU fn_apart ss := rfl
theorem s_contraction (n : Nat) (ss : List S) : callN TT GG FU (n + 1) "contraction" ss = runFn (callN TT GG FU n) GG FU fn_contraction ss := rfl
theorem s__law_well (n : Nat) (ss : List S) : callN TT GG FU (n + 1) "_law_well" ss = runFn (callN TT GG FU n) GG FU fn__law_well ss := rfl
theorem s__law_take (n : Nat) (ss : List S) : callN TT GG FU (n + 1) "_law_take" ss = runFn (callN TT GG FU n) GG FU fn__law_take ss := rfl
theorem s__law_of (n : Nat) (ss : List S) : callN TT GG FU (n + 1) "_law_of" ss = runFn (callN TT GG FU n) GG FU fn__law_of ss := rfl
theorem s__law_same (n : Nat) (ss : List S) : callN TT GG FU (n + 1) "_law_same" ss = runFn (callN TT GG FU n) GG FU fn__law_same ss := rfl
theorem s__law_part (n : Nat) (ss : List S) : callN TT GG FU (n + 1) "_law_part" ss = runFn (callN TT GG FU n) GG FU fn__law_part ss := rfl
theorem s__law_plus (n : Nat) (ss : List S) : callN TT GG FU (n + 1) "_law_plus" ss = runFn (callN TT GG FU n) GG FU fn__law_plus ss := rfl
theorem s__law_less (n : Nat) (ss : List S) : callN TT GG FU (n + 1) "_law_less" ss = runFn (callN TT GG FU n) GG FU fn__law_less ss := rfl
theorem s__law_by (n : Nat) (ss : List S) : callN TT GG FU (n + 1) "_law_by" ss = runFn (callN TT GG FU n) GG FU fn__law_by ss := rfl
theorem s__law_is_below (n : Nat) (ss : List S) : callN TT GG FU (n + 1) "_law_is_below" ss = runFn (callN TT GG FU n) GG FU fn__law_is_below ss := rfl
theorem s__law_table (n : Nat) (ss : List S) : callN TT GG FU (n + 1) "_law_table" ss = runFn (callN TT GG FU n) GG FU fn__law_table ss := rfl
theorem s__law_chance (n : Nat) (ss : List S) : callN TT GG FU (n + 1) "_law_chance" ss = runFn (callN TT GG FU n) GG FU fn__law_chance ss := rfl
theorem s__law_apart (n : Nat) (ss : List S) : callN TT GG FU (n + 1) "_law_apart" ss = runFn (callN TT GG FU n) GG FU fn__law_apart ss := rfl
theorem s__law_shares (n : Nat) (ss : List S) : callN TT GG FU (n + 1) "_law_shares" ss = runFn (callN TT GG FU n) GG FU fn__law_shares ss := rfl
theorem s__law_contraction (n : Nat) (ss : List S) : callN TT GG FU (n + 1) "_law_contraction" ss = runFn (callN TT GG FU n) GG FU fn__law_contraction ss := rfl
theorem s__law_is_told (n : Nat) (ss : List S) : callN TT GG FU (n + 1) "_law_is_told" ss = runFn (callN TT GG FU n) GG FU fn__law_is_told ss := rfl
theorem s__law_right (n : Nat) (ss : List S) : callN TT GG FU (n + 1) "_law_right" ss = runFn (callN TT GG FU n) GG FU fn__law_right ss := rfl
theorem s_law (n : Nat) (ss : List S) : callN TT GG FU (n + 1) "law" ss = runFn (callN TT GG FU n) GG FU fn_law ss := rfl
/-! ### names -/
abbrev kw_0 : KwP := ⟨"apart", ["other_shares", "shares", "table"], 0, [2, 1, 0]⟩
abbrev kw_1 : KwP := ⟨"contraction", ["table"], 0, [0]⟩
abbrev FS : Fs := ⟨[(("is_whole" : Str), 1), (("is_between" : Str), 3), (("is_tuple_of" : Str), 2), (("is_fraction" : Str), 1), (("fraction" : Str), 2), (("fraction_sum" : Str), 2), (("fraction_less" : Str), 2), (("fraction_times" : Str), 2), (("is_above" : Str), 2), (("greater_of" : Str), 2), (("total" : Str), 1), (("greatest_of" : Str), 1), (("wrong_in_each" : Str), 3), (("is_row" : Str), 2), (("wrong_in_table" : Str), 1), (("places_of" : Str), 1), (("chance_by" : Str), 3), (("is_share" : Str), 1), (("wrong_in_shares" : Str), 2), (("share_behind" : Str), 3), (("led_once" : Str), 2), (("led_by" : Str), 3), (("check_table" : Str), 1), (("check_shares" : Str), 2), (("check_times" : Str), 3), (("apart_by" : Str), 2), (("chances_from" : Str), 2), (("contraction_by" : Str), 1), (("led" : Str), 3), (("apart" : Str), 3), (("contraction" : Str), 1), (("_law_well" : Str), 2), (("_law_take" : Str), 2), (("_law_of" : Str), 2), (("_law_same" : Str), 2), (("_law_part" : Str), 2), (("_law_plus" : Str), 2), (("_law_less" : Str), 2), (("_law_by" : Str), 2), (("_law_is_below" : Str), 2), (("_law_table" : Str), 2), (("_law_chance" : Str), 3), (("_law_apart" : Str), 2), (("_law_shares" : Str), 2), (("_law_contraction" : Str), 1), (("_law_is_told" : Str), 2), (("_law_right" : Str), 1), (("law" : Str), 1)], [kw_0, kw_1]⟩
theorem k_0 : kw_0 ∈ FS.kw := List.mem_of_getElem? (i := 0) rfl
theorem k_1 : kw_1 ∈ FS.kw := List.mem_of_getElem? (i := 1) rfl
theorem m_is_whole : ((("is_whole" : Str), 1) : Str × Nat) ∈ FS := List.mem_of_getElem? (i := 0) rfl
theorem m_is_between : ((("is_between" : Str), 3) : Str × Nat) ∈ FS := List.mem_of_getElem? (i := 1) rfl
theorem m_is_tuple_of : ((("is_tuple_of" : Str), 2) : Str × Nat) ∈ FS := List.mem_of_getElem? (i := 2) rfl
theorem m_is_fraction : ((("is_fraction" : Str), 1) : Str × Nat) ∈ FS := List.mem_of_getElem? (i := 3) rfl
theorem m_fraction : ((("fraction" : Str), 2) : Str × Nat) ∈ FS := List.mem_of_getElem? (i := 4) rfl
theorem m_fraction_sum : ((("fraction_sum" : Str), 2) : Str × Nat) ∈ FS := List.mem_of_getElem? (i := 5) rfl
theorem m_fraction_less : ((("fraction_less" : Str), 2) : Str × Nat) ∈ FS := List.mem_of_getElem? (i := 6) rfl
theorem m_fraction_times : ((("fraction_times" : Str), 2) : Str × Nat) ∈ FS := List.mem_of_getElem? (i := 7) rfl
theorem m_is_above : ((("is_above" : Str), 2) : Str × Nat) ∈ FS := List.mem_of_getElem? (i := 8) rfl
theorem m_greater_of : ((("greater_of" : Str), 2) : Str × Nat) ∈ FS := List.mem_of_getElem? (i := 9) rfl
theorem m_total : ((("total" : Str), 1) : Str × Nat) ∈ FS := List.mem_of_getElem? (i := 10) rfl
theorem m_greatest_of : ((("greatest_of" : Str), 1) : Str × Nat) ∈ FS := List.mem_of_getElem? (i := 11) rfl
theorem m_wrong_in_each : ((("wrong_in_each" : Str), 3) : Str × Nat) ∈ FS := List.mem_of_getElem? (i := 12) rfl
theorem m_is_row : ((("is_row" : Str), 2) : Str × Nat) ∈ FS := List.mem_of_getElem? (i := 13) rfl
theorem m_wrong_in_table : ((("wrong_in_table" : Str), 1) : Str × Nat) ∈ FS := List.mem_of_getElem? (i := 14) rfl
theorem m_places_of : ((("places_of" : Str), 1) : Str × Nat) ∈ FS := List.mem_of_getElem? (i := 15) rfl
theorem m_chance_by : ((("chance_by" : Str), 3) : Str × Nat) ∈ FS := List.mem_of_getElem? (i := 16) rfl
theorem m_is_share : ((("is_share" : Str), 1) : Str × Nat) ∈ FS := List.mem_of_getElem? (i := 17) rfl
theorem m_wrong_in_shares : ((("wrong_in_shares" : Str), 2) : Str × Nat) ∈ FS := List.mem_of_getElem? (i := 18) rfl
theorem m_share_behind : ((("share_behind" : Str), 3) : Str × Nat) ∈ FS := List.mem_of_getElem? (i := 19) rfl
theorem m_led_once : ((("led_once" : Str), 2) : Str × Nat) ∈ FS := List.mem_of_getElem? (i := 20) rfl
theorem m_led_by : ((("led_by" : Str), 3) : Str × Nat) ∈ FS := List.mem_of_getElem? (i := 21) rfl
theorem m_check_table : ((("check_table" : Str), 1) : Str × Nat) ∈ FS := List.mem_of_getElem? (i := 22) rfl
theorem m_check_shares : ((("check_shares" : Str), 2) : Str × Nat) ∈ FS := List.mem_of_getElem? (i := 23) rfl
theorem m_check_times : ((("check_times" : Str), 3) : Str × Nat) ∈ FS := List.mem_of_getElem? (i := 24) rfl
theorem m_apart_by : ((("apart_by" : Str), 2) : Str × Nat) ∈ FS := List.mem_of_getElem? (i := 25) rfl
theorem m_chances_from : ((("chances_from" : Str), 2) : Str × Nat) ∈ FS := List.mem_of_getElem? (i := 26) rfl
theorem m_contraction_by : ((("contraction_by" : Str), 1) : Str × Nat) ∈ FS := List.mem_of_getElem? (i := 27) rfl
theorem m_led : ((("led" : Str), 3) : Str × Nat) ∈ FS := List.mem_of_getElem? (i := 28) rfl
theorem m_apart : ((("apart" : Str), 3) : Str × Nat) ∈ FS := List.mem_of_getElem? (i := 29) rfl
theorem m_contraction : ((("contraction" : Str), 1) : Str × Nat) ∈ FS := List.mem_of_getElem? (i := 30) rfl
theorem m__law_well : ((("_law_well" : Str), 2) : Str × Nat) ∈ FS := List.mem_of_getElem? (i := 31) rfl
theorem m__law_take : ((("_law_take" : Str), 2) : Str × Nat) ∈ FS := List.mem_of_getElem? (i := 32) rfl
theorem m__law_of : ((("_law_of" : Str), 2) : Str × Nat) ∈ FS := List.mem_of_getElem? (i := 33) rfl
theorem m__law_same : ((("_law_same" : Str), 2) : Str × Nat) ∈ FS := List.mem_of_getElem? (i := 34) rfl
theorem m__law_part : ((("_law_part" : Str), 2) : Str × Nat) ∈ FS := List.mem_of_getElem? (i := 35) rfl
theorem m__law_plus : ((("_law_plus" : Str), 2) : Str × Nat) ∈ FS := List.mem_of_getElem? (i := 36) rfl
theorem m__law_less : ((("_law_less" : Str), 2) : Str × Nat) ∈ FS := List.mem_of_getElem? (i := 37) rfl
theorem m__law_by : ((("_law_by" : Str), 2) : Str × Nat) ∈ FS := List.mem_of_getElem? (i := 38) rfl
theorem m__law_is_below : ((("_law_is_below" : Str), 2) : Str × Nat) ∈ FS := List.mem_of_getElem? (i := 39) rfl
theorem m__law_table : ((("_law_table" : Str), 2) : Str × Nat) ∈ FS := List.mem_of_getElem? (i := 40) rfl
theorem m__law_chance : ((("_law_chance" : Str), 3) : Str × Nat) ∈ FS := List.mem_of_getElem? (i := 41) rfl
theorem m__law_apart : ((("_law_apart" : Str), 2) : Str × Nat) ∈ FS := List.mem_of_getElem? (i := 42) rfl
theorem m__law_shares : ((("_law_shares" : Str), 2) : Str × Nat) ∈ FS := List.mem_of_getElem? (i := 43) rfl
theorem m__law_contraction : ((("_law_contraction" : Str), 1) : Str × Nat) ∈ FS := List.mem_of_getElem? (i := 44) rfl
theorem m__law_is_told : ((("_law_is_told" : Str), 2) : Str × Nat) ∈ FS := List.mem_of_getElem? (i := 45) rfl
theorem m__law_right : ((("_law_right" : Str), 1) : Str × Nat) ∈ FS := List.mem_of_getElem? (i := 46) rfl
theorem m_law : ((("law" : Str), 1) : Str × Nat) ∈ FS := List.mem_of_getElem? (i := 47) rfl
abbrev BS : List Str := [("abs" : Str), ("all" : Str), ("any" : Str), ("bool" : Str), ("dict" : Str), ("divmod" : Str), ("enumerate" : Str), ("int" : Str), ("isinstance" : Str), ("len" : Str), ("list" : Str), ("max" : Str), ("min" : Str), ("range" : Str), ("str" : Str), ("sum" : Str), ("tuple" : Str), ("zip" : Str)]
theorem b_abs : ("abs" : Str) ∈ BS := List.mem_of_getElem? (i := 0) rfl
theorem b_all : ("all" : Str) ∈ BS := List.mem_of_getElem? (i := 1) rfl
theorem b_any : ("any" : Str) ∈ BS := List.mem_of_getElem? (i := 2) rfl
theorem b_bool : ("bool" : Str) ∈ BS := List.mem_of_getElem? (i := 3) rfl
theorem b_dict : ("dict" : Str) ∈ BS := List.mem_of_getElem? (i := 4) rfl
theorem b_divmod : ("divmod" : Str) ∈ BS := List.mem_of_getElem? (i := 5) rfl
theorem b_enumerate : ("enumerate" : Str) ∈ BS := List.mem_of_getElem? (i := 6) rfl
theorem b_int : ("int" : Str) ∈ BS := List.mem_of_getElem? (i := 7) rfl
theorem b_isinstance : ("isinstance" : Str) ∈ BS := List.mem_of_getElem? (i := 8) rfl
theorem b_len : ("len" : Str) ∈ BS := List.mem_of_getElem? (i := 9) rfl
theorem b_list : ("list" : Str) ∈ BS := List.mem_of_getElem? (i := 10) rfl
theorem b_max : ("max" : Str) ∈ BS := List.mem_of_getElem? (i := 11) rfl
theorem b_min : ("min" : Str) ∈ BS := List.mem_of_getElem? (i := 12) rfl
theorem b_range : ("range" : Str) ∈ BS := List.mem_of_getElem? (i := 13) rfl
theorem b_str : ("str" : Str) ∈ BS := List.mem_of_getElem? (i := 14) rfl
theorem b_sum : ("sum" : Str) ∈ BS := List.mem_of_getElem? (i := 15) rfl
theorem b_tuple : ("tuple" : Str) ∈ BS := List.mem_of_getElem? (i := 16) rfl
theorem b_zip : ("zip" : Str) ∈ BS := List.mem_of_getElem? (i := 17) rfl
theorem n_HALF : Nm "HALF" := ⟨by decide +kernel, by decide +kernel⟩
theorem n_MOST_NUMBER : Nm "MOST_NUMBER" := ⟨by decide +kernel, by decide +kernel⟩
theorem n_MOST_PLACES : Nm "MOST_PLACES" := ⟨by decide +kernel, by decide +kernel⟩
theorem n_MOST_STEPS : Nm "MOST_STEPS" := ⟨by decide +kernel, by decide +kernel⟩
theorem n_ONE : Nm "ONE" := ⟨by decide +kernel, by decide +kernel⟩
theorem n_ZERO : Nm "ZERO" := ⟨by decide +kernel, by decide +kernel⟩
theorem n__law_apart : Nm "_law_apart" := ⟨by decide +kernel, by decide +kernel⟩
theorem n__law_by : Nm "_law_by" := ⟨by decide +kernel, by decide +kernel⟩
theorem n__law_chance : Nm "_law_chance" := ⟨by decide +kernel, by decide +kernel⟩
theorem n__law_contraction : Nm "_law_contraction" := ⟨by decide +kernel, by decide +kernel⟩
theorem n__law_is_below : Nm "_law_is_below" := ⟨by decide +kernel, by decide +kernel⟩
theorem n__law_is_told : Nm "_law_is_told" := ⟨by decide +kernel, by decide +kernel⟩
theorem n__law_less : Nm "_law_less" := ⟨by decide +kernel, by decide +kernel⟩
theorem n__law_of : Nm "_law_of" := ⟨by decide +kernel, by decide +kernel⟩
theorem n__law_part : Nm "_law_part" := ⟨by decide +kernel, by decide +kernel⟩
theorem n__law_plus : Nm "_law_plus" := ⟨by decide +kernel, by decide +kernel⟩
theorem n__law_right : Nm "_law_right" := ⟨by decide +kernel, by decide +kernel⟩
theorem n__law_same : Nm "_law_same" := ⟨by decide +kernel, by decide +kernel⟩
theorem n__law_shares : Nm "_law_shares" := ⟨by decide +kernel, by decide +kernel⟩
theorem n__law_table : Nm "_law_table" := ⟨by decide +kernel, by decide +kernel⟩
theorem n__law_take : Nm "_law_take" := ⟨by decide +kernel, by decide +kernel⟩
theorem n__law_well : Nm "_law_well" := ⟨by decide +kernel, by decide +kernel⟩
theorem n_alike : Nm "alike" := ⟨by decide +kernel, by decide +kernel⟩
theorem n_apart : Nm "apart" := ⟨by decide +kernel, by decide +kernel⟩
theorem n_apart_by : Nm "apart_by" := ⟨by decide +kernel, by decide +kernel⟩
theorem n_at : Nm "at" := ⟨by decide +kernel, by decide +kernel⟩
theorem n_chance_by : Nm "chance_by" := ⟨by decide +kernel, by decide +kernel⟩
theorem n_chances_from : Nm "chances_from" := ⟨by decide +kernel, by decide +kernel⟩
theorem n_check_shares : Nm "check_shares" := ⟨by decide +kernel, by decide +kernel⟩
theorem n_check_table : Nm "check_table" := ⟨by decide +kernel, by decide +kernel⟩
theorem n_check_times : Nm "check_times" := ⟨by decide +kernel, by decide +kernel⟩
theorem n_common : Nm "common" := ⟨by decide +kernel, by decide +kernel⟩
theorem n_contraction : Nm "contraction" := ⟨by decide +kernel, by decide +kernel⟩
theorem n_contraction_by : Nm "contraction_by" := ⟨by decide +kernel, by decide +kernel⟩
theorem n_cut : Nm "cut" := ⟨by decide +kernel, by decide +kernel⟩
theorem n_digit : Nm "digit" := ⟨by decide +kernel, by decide +kernel⟩
theorem n_due : Nm "due" := ⟨by decide +kernel, by decide +kernel⟩
theorem n_each : Nm "each" := ⟨by decide +kernel, by decide +kernel⟩
theorem n_first : Nm "first" := ⟨by decide +kernel, by decide +kernel⟩
theorem n_found : Nm "found" := ⟨by decide +kernel, by decide +kernel⟩
theorem n_fraction : Nm "fraction" := ⟨by decide +kernel, by decide +kernel⟩
theorem n_fraction_less : Nm "fraction_less" := ⟨by decide +kernel, by decide +kernel⟩
theorem n_fraction_sum : Nm "fraction_sum" := ⟨by decide +kernel, by decide +kernel⟩
theorem n_fraction_times : Nm "fraction_times" := ⟨by decide +kernel, by decide +kernel⟩
theorem n_fractions : Nm "fractions" := ⟨by decide +kernel, by decide +kernel⟩
theorem n_great : Nm "great" := ⟨by decide +kernel, by decide +kernel⟩
theorem n_greater_of : Nm "greater_of" := ⟨by decide +kernel, by decide +kernel⟩
theorem n_greatest_of : Nm "greatest_of" := ⟨by decide +kernel, by decide +kernel⟩
theorem n_high : Nm "high" := ⟨by decide +kernel, by decide +kernel⟩
theorem n_index : Nm "index" := ⟨by decide +kernel, by decide +kernel⟩
theorem n_is_above : Nm "is_above" := ⟨by decide +kernel, by decide +kernel⟩
theorem n_is_between : Nm "is_between" := ⟨by decide +kernel, by decide +kernel⟩
theorem n_is_fraction : Nm "is_fraction" := ⟨by decide +kernel, by decide +kernel⟩
theorem n_is_one : Nm "is_one" := ⟨by decide +kernel, by decide +kernel⟩
theorem n_is_row : Nm "is_row" := ⟨by decide +kernel, by decide +kernel⟩
theorem n_is_share : Nm "is_share" := ⟨by decide +kernel, by decide +kernel⟩
theorem n_is_tuple_of : Nm "is_tuple_of" := ⟨by decide +kernel, by decide +kernel⟩
theorem n_is_whole : Nm "is_whole" := ⟨by decide +kernel, by decide +kernel⟩
theorem n_lap : Nm "lap" := ⟨by decide +kernel, by decide +kernel⟩
theorem n_led : Nm "led" := ⟨by decide +kernel, by decide +kernel⟩
theorem n_led_by : Nm "led_by" := ⟨by decide +kernel, by decide +kernel⟩
theorem n_led_once : Nm "led_once" := ⟨by decide +kernel, by decide +kernel⟩
theorem n_low : Nm "low" := ⟨by decide +kernel, by decide +kernel⟩
theorem n_many : Nm "many" := ⟨by decide +kernel, by decide +kernel⟩
theorem n_most : Nm "most" := ⟨by decide +kernel, by decide +kernel⟩
theorem n_number : Nm "number" := ⟨by decide +kernel, by decide +kernel⟩
theorem n_one : Nm "one" := ⟨by decide +kernel, by decide +kernel⟩
theorem n_other : Nm "other" := ⟨by decide +kernel, by decide +kernel⟩
theorem n_other_shares : Nm "other_shares" := ⟨by decide +kernel, by decide +kernel⟩
theorem n_own : Nm "own" := ⟨by decide +kernel, by decide +kernel⟩
theorem n_part : Nm "part" := ⟨by decide +kernel, by decide +kernel⟩
theorem n_parts : Nm "parts" := ⟨by decide +kernel, by decide +kernel⟩
theorem n_place : Nm "place" := ⟨by decide +kernel, by decide +kernel⟩
theorem n_places_of : Nm "places_of" := ⟨by decide +kernel, by decide +kernel⟩
theorem n_row : Nm "row" := ⟨by decide +kernel, by decide +kernel⟩
theorem n_rows : Nm "rows" := ⟨by decide +kernel, by decide +kernel⟩
theorem n_script : Nm "script" := ⟨by decide +kernel, by decide +kernel⟩
theorem n_second : Nm "second" := ⟨by decide +kernel, by decide +kernel⟩
theorem n_share : Nm "share" := ⟨by decide +kernel, by decide +kernel⟩
theorem n_share_behind : Nm "share_behind" := ⟨by decide +kernel, by decide +kernel⟩
theorem n_shares : Nm "shares" := ⟨by decide +kernel, by decide +kernel⟩
theorem n_step : Nm "step" := ⟨by decide +kernel, by decide +kernel⟩
theorem n_stir : Nm "stir" := ⟨by decide +kernel, by decide +kernel⟩
theorem n_table : Nm "table" := ⟨by decide +kernel, by decide +kernel⟩
theorem n_things : Nm "things" := ⟨by decide +kernel, by decide +kernel⟩
theorem n_three : Nm "three" := ⟨by decide +kernel, by decide +kernel⟩
theorem n_times : Nm "times" := ⟨by decide +kernel, by decide +kernel⟩
theorem n_to : Nm "to" := ⟨by decide +kernel, by decide +kernel⟩
theorem n_told : Nm "told" := ⟨by decide +kernel, by decide +kernel⟩
theorem n_total : Nm "total" := ⟨by decide +kernel, by decide +kernel⟩
theorem n_two : Nm "two" := ⟨by decide +kernel, by decide +kernel⟩
theorem n_under : Nm "under" := ⟨by decide +kernel, by decide +kernel⟩
theorem n_value : Nm "value" := ⟨by decide +kernel, by decide +kernel⟩
theorem n_way : Nm "way" := ⟨by decide +kernel, by decide +kernel⟩
theorem n_well : Nm "well" := ⟨by decide +kernel, by decide +kernel⟩
theorem n_wrong_in_each : Nm "wrong_in_each" := ⟨by decide +kernel, by decide +kernel⟩
theorem n_wrong_in_shares : Nm "wrong_in_shares" := ⟨by decide +kernel, by decide +kernel⟩
theorem n_wrong_in_table : Nm "wrong_in_table" := ⟨by decide +kernel, by decide +kernel⟩
theorem g_HALF : GG "HALF" = some (.tup [.int 1, .int 2]) := rfl
theorem g_MOST_NUMBER : GG "MOST_NUMBER" = some (.int 99) := rfl
theorem g_MOST_PLACES : GG "MOST_PLACES" = some (.int 6) := rfl
theorem g_MOST_STEPS : GG "MOST_STEPS" = some (.int 60) := rfl
theorem g_ONE : GG "ONE" = some (.tup [.int 1, .int 1]) := rfl
theorem g_ZERO : GG "ZERO" = some (.tup [.int 0, .int 1]) := rfl
theorem g_is_share : GG "is_share" = some (.fn "is_share") := rfl
theorem v_abs : bootBuiltins (bfN .abs) = some (bfV .abs) := by decide +kernel
theorem v_all : bootBuiltins (bfN .all) = some (bfV .all) := by decide +kernel
theorem v_any : bootBuiltins (bfN .any) = some (bfV .any) := by decide +kernel
theorem w_divmod : bootBuiltins (bfN .divmod) = some (bfV .divmod) := by decide +kernel
theorem v_int : bootBuiltins (bfN .int) = some (bfV .int) := by decide +kernel
theorem v_len : bootBuiltins (bfN .len) = some (bfV .len) := by decide +kernel
theorem v_list : bootBuiltins (bfN .list) = some (bfV .list) := by decide +kernel
theorem v_max : bootBuiltins (bfN .max1) = some (bfV .max1) := by decide +kernel
theorem w_max : bootBuiltins (bfN .max2) = some (bfV .max2) := by decide +kernel
theorem v_min : bootBuiltins (bfN .min1) = some (bfV .min1) := by decide +kernel
theorem w_min : bootBuiltins (bfN .min2) = some (bfV .min2) := by decide +kernel
theorem v_sum : bootBuiltins (bfN .sum) = some (bfV .sum) := by decide +kernel
theorem v_tuple : bootBuiltins (bfN .tuple) = some (bfV .tuple) := by decide +kernel
/-! ### the text is that -/
section
variable {P : Program} {w : World} {K : PySem.W.Frag} {mg : Str → Option Value} {base : Heap} {fu : Nat}
abbrev st_is_whole : Stmt := topS 9
abbrev N_is_whole : List Str := ["value"]
theorem sc_is_whole : FnScope N_is_whole ["value"] (defScope st_is_whole) := ⟨rfl, rfl, rfl, by decide +kernel, rfl, by decide +kernel, by decide +kernel⟩
theorem ok_is_whole {f : Addr} {fd : FuncData} {Φ : Str → List S → FR} {k : Nat} (F : Fun K "is_whole" "is_whole" st_is_whole f fd) (wd : Wd Φ GG FS BS k P w K mg base) : FnOk P w K mg base (L2.CX P w) (k + 1) f fd ["value"] (spF K mg (runFn Φ GG fu fn_is_whole) 1) :=
  fn_ok F sc_is_whole rfl rfl rfl (by decide) wd fun cdv A outer s H E cok hp =>
  (sp_cons (sp_ret (so_and (so_isi cok b_isinstance rfl rfl (so_o n_value rfl (.inl rfl)) b_int rfl rfl rfl) (so_one (so_not (so_isi cok b_isinstance rfl rfl (so_o n_value rfl (.inl rfl)) b_bool rfl rfl rfl)))))
  sp_nil)
abbrev st_is_between : Stmt := topS 10
abbrev N_is_between : List Str := ["value", "low", "high"]
theorem sc_is_between : FnScope N_is_between ["value", "low", "high"] (defScope st_is_between) := ⟨rfl, rfl, rfl, by decide +kernel, rfl, by decide +kernel, by decide +kernel⟩
theorem ok_is_between {f : Addr} {fd : FuncData} {Φ : Str → List S → FR} {k : Nat} (F : Fun K "is_between" "is_between" st_is_between f fd) (wd : Wd Φ GG FS BS k P w K mg base) : FnOk P w K mg base (L2.CX P w) (k + 1) f fd ["value", "low", "high"] (spF K mg (runFn Φ GG fu fn_is_between) 3) :=
  fn_ok F sc_is_between rfl rfl rfl (by decide) wd fun cdv A outer s H E cok hp =>
  (sp_cons (sp_ret (so_and (so_fn n_is_whole cok m_is_whole rfl (so_args (so_av n_value rfl (.inl rfl) so_anil))) (so_one (so_chn cok.hu (so_v n_low rfl (.inl rfl)) (so_v n_value rfl (.inl rfl)) (so_v n_high rfl (.inl rfl))))))
  sp_nil)
abbrev st_is_tuple_of : Stmt := topS 11
abbrev N_is_tuple_of : List Str := ["value", "many"]
theorem sc_is_tuple_of : FnScope N_is_tuple_of ["value", "many"] (defScope st_is_tuple_of) := ⟨rfl, rfl, rfl, by decide +kernel, rfl, by decide +kernel, by decide +kernel⟩
theorem ok_is_tuple_of {f : Addr} {fd : FuncData} {Φ : Str → List S → FR} {k : Nat} (F : Fun K "is_tuple_of" "is_tuple_of" st_is_tuple_of f fd) (wd : Wd Φ GG FS BS k P w K mg base) : FnOk P w K mg base (L2.CX P w) (k + 1) f fd ["value", "many"] (spF K mg (runFn Φ GG fu fn_is_tuple_of) 2) :=
  fn_ok F sc_is_tuple_of rfl rfl rfl (by decide) wd fun cdv A outer s H E cok hp =>
  (sp_cons (sp_ret (so_and (so_isi cok b_isinstance rfl rfl (so_o n_value rfl (.inl rfl)) b_tuple rfl rfl rfl) (so_one (so_cmp cok.hu (so_t (so_bi cok b_len rfl rfl v_len (so_o n_value rfl (.inl rfl)))) (so_o n_many rfl (.inl rfl)) rfl))))
  sp_nil)
abbrev st_is_fraction : Stmt := topS 12
abbrev N_is_fraction : List Str := ["value"]
theorem sc_is_fraction : FnScope N_is_fraction ["value"] (defScope st_is_fraction) := ⟨rfl, rfl, rfl, by decide +kernel, rfl, by decide +kernel, by decide +kernel⟩
theorem ok_is_fraction (mgcd : mg "gcd" = some (.builtin "math.gcd")) {f : Addr} {fd : FuncData} {Φ : Str → List S → FR} {k : Nat} (F : Fun K "is_fraction" "is_fraction" st_is_fraction f fd) (wd : Wd Φ GG FS BS k P w K mg base) : FnOk P w K mg base (L2.CX P w) (k + 1) f fd ["value"] (spF K mg (runFn Φ GG fu fn_is_fraction) 1) :=
  fn_ok F sc_is_fraction rfl rfl rfl (by decide) wd fun cdv A outer s H E cok hp =>
  (sp_cons (sp_if (PW.pt (so_orT (so_notT (so_tr (so_t (so_fn n_is_tuple_of cok m_is_tuple_of rfl (so_args (so_av n_value rfl (.inl rfl) (so_acons so_int so_anil))))))) (so_orT (so_notT (so_tr (so_t (so_fn n_is_whole cok m_is_whole rfl (so_args (so_acons (so_ix (so_o n_value rfl (.inl rfl)) (so_t so_int)) so_anil)))))) (pw_or1 (so_notT (so_tr (so_t (so_fn n_is_whole cok m_is_whole rfl (so_args (so_acons (so_ix (so_o n_value rfl (.inl rfl)) (so_t so_int)) so_anil)))))))))) (sp_cons (sp_ret so_bl)
  sp_nil) sp_nil)
  (sp_cons (sp_ret (so_and (so_cmp cok.hu (so_t (so_ix (so_o n_value rfl (.inl rfl)) (so_t so_int))) (so_t so_int) rfl) (so_one (so_cmp cok.hu (so_t (so_gcd cok mgcd rfl rfl (so_t (so_ix (so_o n_value rfl (.inl rfl)) (so_t so_int))) (so_t (so_ix (so_o n_value rfl (.inl rfl)) (so_t so_int))))) (so_t so_int) rfl))))
  sp_nil))
abbrev st_fraction : Stmt := topS 13
abbrev N_fraction : List Str := ["number", "under", "part"]
theorem sc_fraction : FnScope N_fraction ["number", "under"] (defScope st_fraction) := ⟨rfl, rfl, rfl, by decide +kernel, rfl, by decide +kernel, by decide +kernel⟩
theorem ok_fraction (mgcd : mg "gcd" = some (.builtin "math.gcd")) {f : Addr} {fd : FuncData} {Φ : Str → List S → FR} {k : Nat} (F : Fun K "fraction" "fraction" st_fraction f fd) (wd : Wd Φ GG FS BS k P w K mg base) : FnOk P w K mg base (L2.CX P w) (k + 1) f fd ["number", "under"] (spF K mg (runFn Φ GG fu fn_fraction) 2) :=
  fn_ok F sc_fraction rfl rfl rfl (by decide) wd fun cdv A outer s H E cok hp =>
  (sp_cons (sp_asg (so_gcd cok mgcd rfl rfl (so_o n_number rfl (.inl rfl)) (so_o n_under rfl (.inl rfl))) (tg_nm cok.nd rfl (.inl rfl) (.inl rfl)))
  (sp_cons (sp_ret (so_tup (so_cons (so_bin (so_o n_number rfl (.inl rfl)) (so_o n_part rfl (.inl rfl))) (so_cons (so_bin (so_o n_under rfl (.inl rfl)) (so_o n_part rfl (.inl rfl))) so_nil))))
  sp_nil))
abbrev st_fraction_sum : Stmt := topS 14
abbrev N_fraction_sum : List Str := ["one", "two"]
theorem sc_fraction_sum : FnScope N_fraction_sum ["one", "two"] (defScope st_fraction_sum) := ⟨rfl, rfl, rfl, by decide +kernel, rfl, by decide +kernel, by decide +kernel⟩
theorem ok_fraction_sum {f : Addr} {fd : FuncData} {Φ : Str → List S → FR} {k : Nat} (F : Fun K "fraction_sum" "fraction_sum" st_fraction_sum f fd) (wd : Wd Φ GG FS BS k P w K mg base) : FnOk P w K mg base (L2.CX P w) (k + 1) f fd ["one", "two"] (spF K mg (runFn Φ GG fu fn_fraction_sum) 2) :=
  fn_ok F sc_fraction_sum rfl rfl rfl (by decide) wd fun cdv A outer s H E cok hp =>
  (sp_cons (sp_ret (so_fn n_fraction cok m_fraction rfl (so_args (so_acons (so_bin (so_t (so_bin (so_t (so_ix (so_o n_one rfl (.inl rfl)) (so_t so_int))) (so_t (so_ix (so_o n_two rfl (.inl rfl)) (so_t so_int))))) (so_t (so_bin (so_t (so_ix (so_o n_two rfl (.inl rfl)) (so_t so_int))) (so_t (so_ix (so_o n_one rfl (.inl rfl)) (so_t so_int)))))) (so_acons (so_bin (so_t (so_ix (so_o n_one rfl (.inl rfl)) (so_t so_int))) (so_t (so_ix (so_o n_two rfl (.inl rfl)) (so_t so_int)))) so_anil)))))
  sp_nil)
abbrev st_fraction_less : Stmt := topS 15
abbrev N_fraction_less : List Str := ["one", "two"]
theorem sc_fraction_less : FnScope N_fraction_less ["one", "two"] (defScope st_fraction_less) := ⟨rfl, rfl, rfl, by decide +kernel, rfl, by decide +kernel, by decide +kernel⟩
theorem ok_fraction_less {f : Addr} {fd : FuncData} {Φ : Str → List S → FR} {k : Nat} (F : Fun K "fraction_less" "fraction_less" st_fraction_less f fd) (wd : Wd Φ GG FS BS k P w K mg base) : FnOk P w K mg base (L2.CX P w) (k + 1) f fd ["one", "two"] (spF K mg (runFn Φ GG fu fn_fraction_less) 2) :=
  fn_ok F sc_fraction_less rfl rfl rfl (by decide) wd fun cdv A outer s H E cok hp =>
  (sp_cons (sp_ret (so_fn n_fraction cok m_fraction rfl (so_args (so_acons (so_bin (so_t (so_bin (so_t (so_ix (so_o n_one rfl (.inl rfl)) (so_t so_int))) (so_t (so_ix (so_o n_two rfl (.inl rfl)) (so_t so_int))))) (so_t (so_bin (so_t (so_ix (so_o n_two rfl (.inl rfl)) (so_t so_int))) (so_t (so_ix (so_o n_one rfl (.inl rfl)) (so_t so_int)))))) (so_acons (so_bin (so_t (so_ix (so_o n_one rfl (.inl rfl)) (so_t so_int))) (so_t (so_ix (so_o n_two rfl (.inl rfl)) (so_t so_int)))) so_anil)))))
  sp_nil)
abbrev st_fraction_times : Stmt := topS 16
abbrev N_fraction_times : List Str := ["one", "two"]
theorem sc_fraction_times : FnScope N_fraction_times ["one", "two"] (defScope st_fraction_times) := ⟨rfl, rfl, rfl, by decide +kernel, rfl, by decide +kernel, by decide +kernel⟩
theorem ok_fraction_times {f : Addr} {fd : FuncData} {Φ : Str → List S → FR} {k : Nat} (F : Fun K "fraction_times" "fraction_times" st_fraction_times f fd) (wd : Wd Φ GG FS BS k P w K mg base) : FnOk P w K mg base (L2.CX P w) (k + 1) f fd ["one", "two"] (spF K mg (runFn Φ GG fu fn_fraction_times) 2) :=
  fn_ok F sc_fraction_times rfl rfl rfl (by decide) wd fun cdv A outer s H E cok hp =>
  (sp_cons (sp_ret (so_fn n_fraction cok m_fraction rfl (so_args (so_acons (so_bin (so_t (so_ix (so_o n_one rfl (.inl rfl)) (so_t so_int))) (so_t (so_ix (so_o n_two rfl (.inl rfl)) (so_t so_int)))) (so_acons (so_bin (so_t (so_ix (so_o n_one rfl (.inl rfl)) (so_t so_int))) (so_t (so_ix (so_o n_two rfl (.inl rfl)) (so_t so_int)))) so_anil)))))
  sp_nil)
abbrev st_is_above : Stmt := topS 17
abbrev N_is_above : List Str := ["one", "two"]
theorem sc_is_above : FnScope N_is_above ["one", "two"] (defScope st_is_above) := ⟨rfl, rfl, rfl, by decide +kernel, rfl, by decide +kernel, by decide +kernel⟩
theorem ok_is_above {f : Addr} {fd : FuncData} {Φ : Str → List S → FR} {k : Nat} (F : Fun K "is_above" "is_above" st_is_above f fd) (wd : Wd Φ GG FS BS k P w K mg base) : FnOk P w K mg base (L2.CX P w) (k + 1) f fd ["one", "two"] (spF K mg (runFn Φ GG fu fn_is_above) 2) :=
  fn_ok F sc_is_above rfl rfl rfl (by decide) wd fun cdv A outer s H E cok hp =>
  (sp_cons (sp_ret (so_cmp cok.hu (so_t (so_bin (so_t (so_ix (so_o n_one rfl (.inl rfl)) (so_t so_int))) (so_t (so_ix (so_o n_two rfl (.inl rfl)) (so_t so_int))))) (so_t (so_bin (so_t (so_ix (so_o n_two rfl (.inl rfl)) (so_t so_int))) (so_t (so_ix (so_o n_one rfl (.inl rfl)) (so_t so_int))))) rfl))
  sp_nil)
abbrev st_greater_of : Stmt := topS 18
abbrev N_greater_of : List Str := ["one", "two"]
theorem sc_greater_of : FnScope N_greater_of ["one", "two"] (defScope st_greater_of) := ⟨rfl, rfl, rfl, by decide +kernel, rfl, by decide +kernel, by decide +kernel⟩
theorem ok_greater_of {f : Addr} {fd : FuncData} {Φ : Str → List S → FR} {k : Nat} (F : Fun K "greater_of" "greater_of" st_greater_of f fd) (wd : Wd Φ GG FS BS k P w K mg base) : FnOk P w K mg base (L2.CX P w) (k + 1) f fd ["one", "two"] (spF K mg (runFn Φ GG fu fn_greater_of) 2) :=
  fn_ok F sc_greater_of rfl rfl rfl (by decide) wd fun cdv A outer s H E cok hp =>
  (sp_cons (sp_ret (so_ife (so_tr (so_t (so_fn n_is_above cok m_is_above rfl (so_args (so_av n_one rfl (.inl rfl) (so_av n_two rfl (.inl rfl) so_anil)))))) (so_v n_one rfl (.inl rfl)) (so_v n_two rfl (.inl rfl))))
  sp_nil)
abbrev st_total : Stmt := topS 19
abbrev N_total : List Str := ["fractions", "found", "each"]
theorem sc_total : FnScope N_total ["fractions"] (defScope st_total) := ⟨rfl, rfl, rfl, by decide +kernel, rfl, by decide +kernel, by decide +kernel⟩
theorem ok_total {f : Addr} {fd : FuncData} {Φ : Str → List S → FR} {k : Nat} (F : Fun K "total" "total" st_total f fd) (wd : Wd Φ GG FS BS k P w K mg base) : FnOk P w K mg base (L2.CX P w) (k + 1) f fd ["fractions"] (spF K mg (runFn Φ GG fu fn_total) 1) :=
  fn_ok F sc_total rfl rfl rfl (by decide) wd fun cdv A outer s H E cok hp =>
  (sp_cons (sp_asg (so_g n_ZERO cok g_ZERO rfl) (tg_nm cok.nd rfl (.inl rfl) (.inl rfl)))
  (sp_cons (sp_forv (tgs := [2]) (one := true) hp cok.calm (iv_seq n_fractions rfl (.inl rfl)) (tg_1 cok.nd rfl (.inl rfl) (.inr rfl)) (sp_cons (sp_asg (so_fn n_fraction_sum cok m_fraction_sum rfl (so_args (so_av n_found rfl (.inl rfl) (so_av n_each rfl (.inl rfl) so_anil)))) (tg_nm cok.nd rfl (.inl rfl) (.inl rfl)))
  sp_nil))
  (sp_cons (sp_rv n_found rfl (.inl rfl))
  sp_nil)))
abbrev st_greatest_of : Stmt := topS 20
abbrev N_greatest_of : List Str := ["fractions", "found", "each"]
theorem sc_greatest_of : FnScope N_greatest_of ["fractions"] (defScope st_greatest_of) := ⟨rfl, rfl, rfl, by decide +kernel, rfl, by decide +kernel, by decide +kernel⟩
theorem ok_greatest_of {f : Addr} {fd : FuncData} {Φ : Str → List S → FR} {k : Nat} (F : Fun K "greatest_of" "greatest_of" st_greatest_of f fd) (wd : Wd Φ GG FS BS k P w K mg base) : FnOk P w K mg base (L2.CX P w) (k + 1) f fd ["fractions"] (spF K mg (runFn Φ GG fu fn_greatest_of) 1) :=
  fn_ok F sc_greatest_of rfl rfl rfl (by decide) wd fun cdv A outer s H E cok hp =>
  (sp_cons (sp_asg (so_ix (so_o n_fractions rfl (.inl rfl)) (so_t so_int)) (tg_nm cok.nd rfl (.inl rfl) (.inl rfl)))
  (sp_cons (sp_forv (tgs := [2]) (one := true) hp cok.calm (iv_seq n_fractions rfl (.inl rfl)) (tg_1 cok.nd rfl (.inl rfl) (.inr rfl)) (sp_cons (sp_asg (so_fn n_greater_of cok m_greater_of rfl (so_args (so_av n_found rfl (.inl rfl) (so_av n_each rfl (.inl rfl) so_anil)))) (tg_nm cok.nd rfl (.inl rfl) (.inl rfl)))
  sp_nil))
  (sp_cons (sp_rv n_found rfl (.inl rfl))
  sp_nil)))
abbrev st_wrong_in_each : Stmt := topS 21
abbrev N_wrong_in_each : List Str := ["value", "many", "is_one", "index", "each"]
theorem sc_wrong_in_each : FnScope N_wrong_in_each ["value", "many", "is_one"] (defScope st_wrong_in_each) := ⟨rfl, rfl, rfl, by decide +kernel, rfl, by decide +kernel, by decide +kernel⟩
theorem bk_wrong_in_each_1 : BlkOk N_wrong_in_each (defScope (st_wrong_in_each)) { kind := PySem.ScopeKind.function, names := [(".0", PySem.NameKind.local), ("index", PySem.NameKind.local), ("each", PySem.NameKind.local), ("is_one", PySem.NameKind.free)], isGenerator := false, isCoroutine := false, more := [] : PySem.Scope } [("index", 3), ("each", 4)] := ⟨rfl, by decide +kernel, by decide +kernel, by decide +kernel, by decide +kernel⟩
theorem ok_wrong_in_each {f : Addr} {fd : FuncData} {Φ : Str → List S → FR} {k : Nat} (F : Fun K "wrong_in_each" "wrong_in_each" st_wrong_in_each f fd) (wd : Wd Φ GG FS BS k P w K mg base) : FnOk P w K mg base (L2.CX P w) (k + 1) f fd ["value", "many", "is_one"] (spF K mg (runFn Φ GG fu fn_wrong_in_each) 3) :=
  fn_ok F sc_wrong_in_each rfl rfl rfl (by decide) wd fun cdv A outer s H E cok hp =>
  (sp_cons (sp_if (so_notT (so_tr (so_t (so_fn n_is_tuple_of cok m_is_tuple_of rfl (so_args (so_av n_value rfl (.inl rfl) (so_av n_many rfl (.inl rfl) so_anil))))))) (sp_cons (sp_ret (so_lst (so_cons so_nn so_nil)))
  sp_nil) sp_nil)
  (sp_cons (sp_ret (so_slc (so_t (so_lc (own := [("index", 3), ("each", 4)]) (tgs := [3, 4]) (one := false) cok (so_enum cok rfl b_enumerate rfl (so_v n_value rfl (.inl rfl))) bk_wrong_in_each_1 (fun _ _ _ _ _ => (tg_n cok.calm (ns_cons cok.nd rfl (.inl rfl) (.inr rfl) (ns_cons cok.nd rfl (.inl rfl) (.inr rfl) ns_nil)))) (fun _ _ _ _ _ cb => (so_if1 (so_notT (so_tr (so_t (so_callv n_is_one cb rfl (.inr (.inl rfl)) (so_args (so_av n_each rfl (.inl rfl) so_anil)))))))) (fun _ _ _ _ _ cb => (so_v n_index rfl (.inl rfl))))) so_non (so_som so_int)))
  sp_nil))
abbrev st_is_row : Stmt := topS 25
abbrev N_is_row : List Str := ["value", "many", "each"]
theorem sc_is_row : FnScope N_is_row ["value", "many"] (defScope st_is_row) := ⟨rfl, rfl, rfl, by decide +kernel, rfl, by decide +kernel, by decide +kernel⟩
theorem bk_is_row_1 : BlkOk N_is_row (defScope (st_is_row)) { kind := PySem.ScopeKind.function, names := [(".0", PySem.NameKind.local), ("each", PySem.NameKind.local), ("is_between", PySem.NameKind.globalImplicit), ("MOST_NUMBER", PySem.NameKind.globalImplicit)], isGenerator := false, isCoroutine := false, more := [] : PySem.Scope } [("each", 2)] := ⟨rfl, by decide +kernel, by decide +kernel, by decide +kernel, by decide +kernel⟩
theorem bk_is_row_2 : BlkOk N_is_row (defScope (st_is_row)) { kind := PySem.ScopeKind.function, names := [(".0", PySem.NameKind.local), ("each", PySem.NameKind.local)], isGenerator := false, isCoroutine := false, more := [] : PySem.Scope } [("each", 2)] := ⟨rfl, by decide +kernel, by decide +kernel, by decide +kernel, by decide +kernel⟩
theorem ok_is_row {f : Addr} {fd : FuncData} {Φ : Str → List S → FR} {k : Nat} (F : Fun K "is_row" "is_row" st_is_row f fd) (wd : Wd Φ GG FS BS k P w K mg base) : FnOk P w K mg base (L2.CX P w) (k + 1) f fd ["value", "many"] (spF K mg (runFn Φ GG fu fn_is_row) 2) :=
  fn_ok F sc_is_row rfl rfl rfl (by decide) wd fun cdv A outer s H E cok hp =>
  (sp_cons (sp_if (PW.pt (so_orT (so_notT (so_tr (so_t (so_fn n_is_tuple_of cok m_is_tuple_of rfl (so_args (so_av n_value rfl (.inl rfl) (so_av n_many rfl (.inl rfl) so_anil))))))) (pw_or1 (so_notT (so_tr (so_t (so_bi cok b_all rfl rfl v_all (so_t (so_lc (own := [("each", 2)]) (tgs := [2]) (one := true) cok (so_seq (so_v n_value rfl (.inl rfl))) bk_is_row_1 (fun _ _ _ _ _ => (tg_1 cok.nd rfl (.inl rfl) (.inr rfl))) (fun _ _ _ _ _ cb => so_if0) (fun _ _ _ _ _ cb => (so_fn n_is_between cb m_is_between rfl (so_args (so_av n_each rfl (.inl rfl) (so_acons so_int (so_acons (so_g n_MOST_NUMBER cb g_MOST_NUMBER rfl) so_anil))))))))))))))) (sp_cons (sp_ret so_bl)
  sp_nil) sp_nil)
  (sp_cons (sp_ret (so_bi cok b_any rfl rfl v_any (so_t (so_lc (own := [("each", 2)]) (tgs := [2]) (one := true) cok (so_seq (so_v n_value rfl (.inl rfl))) bk_is_row_2 (fun _ _ _ _ _ => (tg_1 cok.nd rfl (.inl rfl) (.inr rfl))) (fun _ _ _ _ _ cb => so_if0) (fun _ _ _ _ _ cb => (so_cmp cb.hu (so_o n_each rfl (.inl rfl)) (so_t so_int) rfl))))))
  sp_nil))
abbrev st_wrong_in_table : Stmt := topS 26
abbrev N_wrong_in_table : List Str := ["value", "index", "row"]
theorem sc_wrong_in_table : FnScope N_wrong_in_table ["value"] (defScope st_wrong_in_table) := ⟨rfl, rfl, rfl, by decide +kernel, rfl, by decide +kernel, by decide +kernel⟩
theorem bk_wrong_in_table_1 : BlkOk N_wrong_in_table (defScope (st_wrong_in_table)) { kind := PySem.ScopeKind.function, names := [(".0", PySem.NameKind.local), ("index", PySem.NameKind.local), ("row", PySem.NameKind.local), ("is_row", PySem.NameKind.globalImplicit), ("len", PySem.NameKind.globalImplicit), ("value", PySem.NameKind.free)], isGenerator := false, isCoroutine := false, more := [] : PySem.Scope } [("index", 1), ("row", 2)] := ⟨rfl, by decide +kernel, by decide +kernel, by decide +kernel, by decide +kernel⟩
theorem ok_wrong_in_table {f : Addr} {fd : FuncData} {Φ : Str → List S → FR} {k : Nat} (F : Fun K "wrong_in_table" "wrong_in_table" st_wrong_in_table f fd) (wd : Wd Φ GG FS BS k P w K mg base) : FnOk P w K mg base (L2.CX P w) (k + 1) f fd ["value"] (spF K mg (runFn Φ GG fu fn_wrong_in_table) 1) :=
  fn_ok F sc_wrong_in_table rfl rfl rfl (by decide) wd fun cdv A outer s H E cok hp =>
  (sp_cons (sp_if (PW.pt (so_orT (so_notT (so_tr (so_t (so_isi cok b_isinstance rfl rfl (so_o n_value rfl (.inr (.inl rfl))) b_tuple rfl rfl rfl)))) (pw_or1 (so_notT (so_chnT cok.hu so_int (so_bi cok b_len rfl rfl v_len (so_o n_value rfl (.inr (.inl rfl)))) (so_g n_MOST_PLACES cok g_MOST_PLACES rfl)))))) (sp_cons (sp_ret (so_lst (so_cons so_nn so_nil)))
  sp_nil) sp_nil)
  (sp_cons (sp_ret (so_slc (so_t (so_lc (own := [("index", 1), ("row", 2)]) (tgs := [1, 2]) (one := false) cok (so_enum cok rfl b_enumerate rfl (so_v n_value rfl (.inr (.inl rfl)))) bk_wrong_in_table_1 (fun _ _ _ _ _ => (tg_n cok.calm (ns_cons cok.nd rfl (.inl rfl) (.inr rfl) (ns_cons cok.nd rfl (.inl rfl) (.inr rfl) ns_nil)))) (fun _ _ _ _ _ cb => (so_if1 (so_notT (so_tr (so_t (so_fn n_is_row cb m_is_row rfl (so_args (so_av n_row rfl (.inl rfl) (so_acons (so_bi cb b_len rfl rfl v_len (so_o n_value rfl (.inr (.inl rfl)))) so_anil))))))))) (fun _ _ _ _ _ cb => (so_v n_index rfl (.inl rfl))))) so_non (so_som so_int)))
  sp_nil))
abbrev st_places_of : Stmt := topS 27
abbrev N_places_of : List Str := ["table"]
theorem sc_places_of : FnScope N_places_of ["table"] (defScope st_places_of) := ⟨rfl, rfl, rfl, by decide +kernel, rfl, by decide +kernel, by decide +kernel⟩
theorem ok_places_of {f : Addr} {fd : FuncData} {Φ : Str → List S → FR} {k : Nat} (F : Fun K "places_of" "places_of" st_places_of f fd) (wd : Wd Φ GG FS BS k P w K mg base) : FnOk P w K mg base (L2.CX P w) (k + 1) f fd ["table"] (spF K mg (runFn Φ GG fu fn_places_of) 1) :=
  fn_ok F sc_places_of rfl rfl rfl (by decide) wd fun cdv A outer s H E cok hp =>
  (sp_cons (sp_ret (so_lrg1 cok b_list b_range rfl rfl (so_bi cok b_len rfl rfl v_len (so_o n_table rfl (.inl rfl)))))
  sp_nil)
abbrev st_chance_by : Stmt := topS 28
abbrev N_chance_by : List Str := ["table", "one", "two"]
theorem sc_chance_by : FnScope N_chance_by ["table", "one", "two"] (defScope st_chance_by) := ⟨rfl, rfl, rfl, by decide +kernel, rfl, by decide +kernel, by decide +kernel⟩
theorem ok_chance_by {f : Addr} {fd : FuncData} {Φ : Str → List S → FR} {k : Nat} (F : Fun K "chance_by" "chance_by" st_chance_by f fd) (wd : Wd Φ GG FS BS k P w K mg base) : FnOk P w K mg base (L2.CX P w) (k + 1) f fd ["table", "one", "two"] (spF K mg (runFn Φ GG fu fn_chance_by) 3) :=
  fn_ok F sc_chance_by rfl rfl rfl (by decide) wd fun cdv A outer s H E cok hp =>
  (sp_cons (sp_ret (so_fn n_fraction cok m_fraction rfl (so_args (so_acons (so_ix (so_t (so_ix (so_o n_table rfl (.inl rfl)) (so_o n_one rfl (.inl rfl)))) (so_o n_two rfl (.inl rfl))) (so_acons (so_bi cok b_sum rfl rfl v_sum (so_t (so_ix (so_o n_table rfl (.inl rfl)) (so_o n_one rfl (.inl rfl))))) so_anil)))))
  sp_nil)
abbrev st_is_share : Stmt := topS 30
abbrev N_is_share : List Str := ["value"]
theorem sc_is_share : FnScope N_is_share ["value"] (defScope st_is_share) := ⟨rfl, rfl, rfl, by decide +kernel, rfl, by decide +kernel, by decide +kernel⟩
theorem ok_is_share {f : Addr} {fd : FuncData} {Φ : Str → List S → FR} {k : Nat} (F : Fun K "is_share" "is_share" st_is_share f fd) (wd : Wd Φ GG FS BS k P w K mg base) : FnOk P w K mg base (L2.CX P w) (k + 1) f fd ["value"] (spF K mg (runFn Φ GG fu fn_is_share) 1) :=
  fn_ok F sc_is_share rfl rfl rfl (by decide) wd fun cdv A outer s H E cok hp =>
  (sp_cons (sp_ret (so_and (so_fn n_is_fraction cok m_is_fraction rfl (so_args (so_av n_value rfl (.inl rfl) so_anil))) (so_one (so_cmp cok.hu (so_t (so_ix (so_o n_value rfl (.inl rfl)) (so_t so_int))) (so_t so_int) rfl))))
  sp_nil)
abbrev st_wrong_in_shares : Stmt := topS 31
abbrev N_wrong_in_shares : List Str := ["many", "value", "found"]
theorem sc_wrong_in_shares : FnScope N_wrong_in_shares ["many", "value"] (defScope st_wrong_in_shares) := ⟨rfl, rfl, rfl, by decide +kernel, rfl, by decide +kernel, by decide +kernel⟩
theorem ok_wrong_in_shares {f : Addr} {fd : FuncData} {Φ : Str → List S → FR} {k : Nat} (F : Fun K "wrong_in_shares" "wrong_in_shares" st_wrong_in_shares f fd) (wd : Wd Φ GG FS BS k P w K mg base) : FnOk P w K mg base (L2.CX P w) (k + 1) f fd ["many", "value"] (spF K mg (runFn Φ GG fu fn_wrong_in_shares) 2) :=
  fn_ok F sc_wrong_in_shares rfl rfl rfl (by decide) wd fun cdv A outer s H E cok hp =>
  (sp_cons (sp_asg (so_fn n_wrong_in_each cok m_wrong_in_each rfl (so_args (so_av n_value rfl (.inl rfl) (so_av n_many rfl (.inl rfl) (so_acons (so_g n_is_share cok g_is_share rfl) so_anil))))) (tg_nm cok.nd rfl (.inl rfl) (.inl rfl)))
  (sp_cons (sp_if (so_cmpT cok.hu (so_o n_found rfl (.inl rfl)) (so_t (so_lst so_nil)) rfl) (sp_cons (sp_rv n_found rfl (.inl rfl))
  sp_nil) sp_nil)
  (sp_cons (sp_ret (so_ife (so_cmpT cok.hu (so_t (so_fn n_total cok m_total rfl (so_args (so_av n_value rfl (.inl rfl) so_anil)))) (so_t (so_g n_ONE cok g_ONE rfl)) rfl) (so_lst so_nil) (so_lst (so_cons (so_v n_many rfl (.inl rfl)) so_nil))))
  sp_nil)))
abbrev st_share_behind : Stmt := topS 32
abbrev N_share_behind : List Str := ["table", "shares", "two", "one", "share"]
theorem sc_share_behind : FnScope N_share_behind ["table", "shares", "two"] (defScope st_share_behind) := ⟨rfl, rfl, rfl, by decide +kernel, rfl, by decide +kernel, by decide +kernel⟩
theorem bk_share_behind_1 : BlkOk N_share_behind (defScope (st_share_behind)) { kind := PySem.ScopeKind.function, names := [(".0", PySem.NameKind.local), ("one", PySem.NameKind.local), ("share", PySem.NameKind.local), ("fraction_times", PySem.NameKind.globalImplicit), ("chance_by", PySem.NameKind.globalImplicit), ("table", PySem.NameKind.free), ("two", PySem.NameKind.free)], isGenerator := false, isCoroutine := false, more := [] : PySem.Scope } [("one", 3), ("share", 4)] := ⟨rfl, by decide +kernel, by decide +kernel, by decide +kernel, by decide +kernel⟩
theorem ok_share_behind {f : Addr} {fd : FuncData} {Φ : Str → List S → FR} {k : Nat} (F : Fun K "share_behind" "share_behind" st_share_behind f fd) (wd : Wd Φ GG FS BS k P w K mg base) : FnOk P w K mg base (L2.CX P w) (k + 1) f fd ["table", "shares", "two"] (spF K mg (runFn Φ GG fu fn_share_behind) 3) :=
  fn_ok F sc_share_behind rfl rfl rfl (by decide) wd fun cdv A outer s H E cok hp =>
  (sp_cons (sp_ret (so_fn n_total cok m_total rfl (so_args (so_acons (so_lc (own := [("one", 3), ("share", 4)]) (tgs := [3, 4]) (one := false) cok (so_enum cok rfl b_enumerate rfl (so_v n_shares rfl (.inl rfl))) bk_share_behind_1 (fun _ _ _ _ _ => (tg_n cok.calm (ns_cons cok.nd rfl (.inl rfl) (.inr rfl) (ns_cons cok.nd rfl (.inl rfl) (.inr rfl) ns_nil)))) (fun _ _ _ _ _ cb => so_if0) (fun _ _ _ _ _ cb => (so_fn n_fraction_times cb m_fraction_times rfl (so_args (so_av n_share rfl (.inl rfl) (so_acons (so_fn n_chance_by cb m_chance_by rfl (so_args (so_av n_table rfl (.inr (.inl rfl)) (so_av n_one rfl (.inl rfl) (so_av n_two rfl (.inr (.inl rfl)) so_anil))))) so_anil)))))) so_anil))))
  sp_nil)
abbrev st_led_once : Stmt := topS 33
abbrev N_led_once : List Str := ["table", "shares", "two"]
theorem sc_led_once : FnScope N_led_once ["table", "shares"] (defScope st_led_once) := ⟨rfl, rfl, rfl, by decide +kernel, rfl, by decide +kernel, by decide +kernel⟩
theorem bk_led_once_1 : BlkOk N_led_once (defScope (st_led_once)) { kind := PySem.ScopeKind.function, names := [(".0", PySem.NameKind.local), ("two", PySem.NameKind.local), ("share_behind", PySem.NameKind.globalImplicit), ("shares", PySem.NameKind.free), ("table", PySem.NameKind.free)], isGenerator := false, isCoroutine := false, more := [] : PySem.Scope } [("two", 2)] := ⟨rfl, by decide +kernel, by decide +kernel, by decide +kernel, by decide +kernel⟩
theorem ok_led_once {f : Addr} {fd : FuncData} {Φ : Str → List S → FR} {k : Nat} (F : Fun K "led_once" "led_once" st_led_once f fd) (wd : Wd Φ GG FS BS k P w K mg base) : FnOk P w K mg base (L2.CX P w) (k + 1) f fd ["table", "shares"] (spF K mg (runFn Φ GG fu fn_led_once) 2) :=
  fn_ok F sc_led_once rfl rfl rfl (by decide) wd fun cdv A outer s H E cok hp =>
  (sp_cons (sp_ret (so_bi cok b_tuple rfl rfl v_tuple (so_t (so_lc (own := [("two", 2)]) (tgs := [2]) (one := true) cok (so_seq (so_fn n_places_of cok m_places_of rfl (so_args (so_av n_table rfl (.inr (.inl rfl)) so_anil)))) bk_led_once_1 (fun _ _ _ _ _ => (tg_1 cok.nd rfl (.inl rfl) (.inr rfl))) (fun _ _ _ _ _ cb => so_if0) (fun _ _ _ _ _ cb => (so_fn n_share_behind cb m_share_behind rfl (so_args (so_av n_table rfl (.inr (.inl rfl)) (so_av n_shares rfl (.inr (.inl rfl)) (so_av n_two rfl (.inl rfl) so_anil))))))))))
  sp_nil)
abbrev st_led_by : Stmt := topS 34
abbrev N_led_by : List Str := ["table", "shares", "times", "_"]
theorem sc_led_by : FnScope N_led_by ["table", "shares", "times"] (defScope st_led_by) := ⟨rfl, rfl, rfl, by decide +kernel, rfl, by decide +kernel, by decide +kernel⟩
theorem ok_led_by {f : Addr} {fd : FuncData} {Φ : Str → List S → FR} {k : Nat} (F : Fun K "led_by" "led_by" st_led_by f fd) (wd : Wd Φ GG FS BS k P w K mg base) : FnOk P w K mg base (L2.CX P w) (k + 1) f fd ["table", "shares", "times"] (spF K mg (runFn Φ GG fu fn_led_by) 3) :=
  fn_ok F sc_led_by rfl rfl rfl (by decide) wd fun cdv A outer s H E cok hp =>
  (sp_cons (sp_for (tgs := [3]) (one := true) hp cok.calm (so_r1 cok rfl b_range rfl (so_v n_times rfl (.inl rfl))) (tg_1 cok.nd rfl (.inl rfl) (.inr rfl)) (sp_cons (sp_asg (so_fn n_led_once cok m_led_once rfl (so_args (so_av n_table rfl (.inl rfl) (so_av n_shares rfl (.inl rfl) so_anil)))) (tg_nm cok.nd rfl (.inl rfl) (.inl rfl)))
  sp_nil))
  (sp_cons (sp_rv n_shares rfl (.inl rfl))
  sp_nil))
abbrev st_check_table : Stmt := topS 36
abbrev N_check_table : List Str := ["value", "index"]
theorem sc_check_table : FnScope N_check_table ["value"] (defScope st_check_table) := ⟨rfl, rfl, rfl, by decide +kernel, rfl, by decide +kernel, by decide +kernel⟩
theorem ok_check_table {f : Addr} {fd : FuncData} {Φ : Str → List S → FR} {k : Nat} (F : Fun K "check_table" "check_table" st_check_table f fd) (wd : Wd Φ GG FS BS k P w K mg base) : FnOk P w K mg base (L2.CX P w) (k + 1) f fd ["value"] (spF K mg (runFn Φ GG fu fn_check_table) 1) :=
  fn_ok F sc_check_table rfl rfl rfl (by decide) wd fun cdv A outer s H E cok hp =>
  (sp_cons (sp_for (tgs := [1]) (one := true) hp cok.calm (so_seq (so_fn n_wrong_in_table cok m_wrong_in_table rfl (so_args (so_av n_value rfl (.inl rfl) so_anil)))) (tg_1 cok.nd rfl (.inl rfl) (.inr rfl)) (sp_cons sp_bad
  sp_nil))
  sp_nil)
abbrev st_check_shares : Stmt := topS 37
abbrev N_check_shares : List Str := ["table", "value", "index"]
theorem sc_check_shares : FnScope N_check_shares ["table", "value"] (defScope st_check_shares) := ⟨rfl, rfl, rfl, by decide +kernel, rfl, by decide +kernel, by decide +kernel⟩
theorem ok_check_shares {f : Addr} {fd : FuncData} {Φ : Str → List S → FR} {k : Nat} (F : Fun K "check_shares" "check_shares" st_check_shares f fd) (wd : Wd Φ GG FS BS k P w K mg base) : FnOk P w K mg base (L2.CX P w) (k + 1) f fd ["table", "value"] (spF K mg (runFn Φ GG fu fn_check_shares) 2) :=
  fn_ok F sc_check_shares rfl rfl rfl (by decide) wd fun cdv A outer s H E cok hp =>
  (sp_cons (sp_for (tgs := [2]) (one := true) hp cok.calm (so_seq (so_fn n_wrong_in_shares cok m_wrong_in_shares rfl (so_args (so_acons (so_bi cok b_len rfl rfl v_len (so_o n_table rfl (.inl rfl))) (so_av n_value rfl (.inl rfl) so_anil))))) (tg_1 cok.nd rfl (.inl rfl) (.inr rfl)) (sp_cons sp_bad
  sp_nil))
  sp_nil)
abbrev st_check_times : Stmt := topS 38
abbrev N_check_times : List Str := ["value", "low", "high"]
theorem sc_check_times : FnScope N_check_times ["value", "low", "high"] (defScope st_check_times) := ⟨rfl, rfl, rfl, by decide +kernel, rfl, by decide +kernel, by decide +kernel⟩
theorem ok_check_times {f : Addr} {fd : FuncData} {Φ : Str → List S → FR} {k : Nat} (F : Fun K "check_times" "check_times" st_check_times f fd) (wd : Wd Φ GG FS BS k P w K mg base) : FnOk P w K mg base (L2.CX P w) (k + 1) f fd ["value", "low", "high"] (spF K mg (runFn Φ GG fu fn_check_times) 3) :=
  fn_ok F sc_check_times rfl rfl rfl (by decide) wd fun cdv A outer s H E cok hp =>
  (sp_cons (sp_if (so_notT (so_tr (so_t (so_fn n_is_between cok m_is_between rfl (so_args (so_av n_value rfl (.inl rfl) (so_av n_low rfl (.inl rfl) (so_av n_high rfl (.inl rfl) so_anil)))))))) (sp_cons sp_bad
  sp_nil) sp_nil)
  sp_nil)
abbrev st_apart_by : Stmt := topS 41
abbrev N_apart_by : List Str := ["one", "two", "found", "share", "other", "number", "under"]
theorem sc_apart_by : FnScope N_apart_by ["one", "two"] (defScope st_apart_by) := ⟨rfl, rfl, rfl, by decide +kernel, rfl, by decide +kernel, by decide +kernel⟩
theorem ok_apart_by {f : Addr} {fd : FuncData} {Φ : Str → List S → FR} {k : Nat} (F : Fun K "apart_by" "apart_by" st_apart_by f fd) (wd : Wd Φ GG FS BS k P w K mg base) : FnOk P w K mg base (L2.CX P w) (k + 1) f fd ["one", "two"] (spF K mg (runFn Φ GG fu fn_apart_by) 2) :=
  fn_ok F sc_apart_by rfl rfl rfl (by decide) wd fun cdv A outer s H E cok hp =>
  (sp_cons (sp_asg (so_lst so_nil) (tg_nm cok.nd rfl (.inl rfl) (.inl rfl)))
  (sp_cons (sp_for (tgs := [3, 4]) (one := false) hp cok.calm (so_zip cok rfl b_zip rfl (so_v n_one rfl (.inl rfl)) (so_v n_two rfl (.inl rfl))) (tg_n cok.calm (ns_cons cok.nd rfl (.inl rfl) (.inr rfl) (ns_cons cok.nd rfl (.inl rfl) (.inr rfl) ns_nil))) (sp_cons (sp_asgU cok.calm (so_fn n_fraction_less cok m_fraction_less rfl (so_args (so_av n_share rfl (.inl rfl) (so_av n_other rfl (.inl rfl) so_anil)))) (tg_cons (tg_nm cok.nd rfl (.inl rfl) (.inl rfl)) (tg_cons (tg_nm cok.nd rfl (.inl rfl) (.inl rfl)) tg_nil)))
  (sp_cons (sp_expr (so_app rfl (.inl rfl) (so_fn n_fraction cok m_fraction rfl (so_args (so_acons (so_bi cok b_abs rfl rfl v_abs (so_o n_number rfl (.inl rfl))) (so_av n_under rfl (.inl rfl) so_anil)))) n_found.d n_found.c))
  sp_nil)))
  (sp_cons (sp_ret (so_fn n_fraction_times cok m_fraction_times rfl (so_args (so_acons (so_g n_HALF cok g_HALF rfl) (so_acons (so_fn n_total cok m_total rfl (so_args (so_av n_found rfl (.inl rfl) so_anil))) so_anil)))))
  sp_nil)))
abbrev st_chances_from : Stmt := topS 42
abbrev N_chances_from : List Str := ["table", "one", "two"]
theorem sc_chances_from : FnScope N_chances_from ["table", "one"] (defScope st_chances_from) := ⟨rfl, rfl, rfl, by decide +kernel, rfl, by decide +kernel, by decide +kernel⟩
theorem bk_chances_from_1 : BlkOk N_chances_from (defScope (st_chances_from)) { kind := PySem.ScopeKind.function, names := [(".0", PySem.NameKind.local), ("two", PySem.NameKind.local), ("chance_by", PySem.NameKind.globalImplicit), ("one", PySem.NameKind.free), ("table", PySem.NameKind.free)], isGenerator := false, isCoroutine := false, more := [] : PySem.Scope } [("two", 2)] := ⟨rfl, by decide +kernel, by decide +kernel, by decide +kernel, by decide +kernel⟩
theorem ok_chances_from {f : Addr} {fd : FuncData} {Φ : Str → List S → FR} {k : Nat} (F : Fun K "chances_from" "chances_from" st_chances_from f fd) (wd : Wd Φ GG FS BS k P w K mg base) : FnOk P w K mg base (L2.CX P w) (k + 1) f fd ["table", "one"] (spF K mg (runFn Φ GG fu fn_chances_from) 2) :=
  fn_ok F sc_chances_from rfl rfl rfl (by decide) wd fun cdv A outer s H E cok hp =>
  (sp_cons (sp_ret (so_bi cok b_tuple rfl rfl v_tuple (so_t (so_lc (own := [("two", 2)]) (tgs := [2]) (one := true) cok (so_seq (so_fn n_places_of cok m_places_of rfl (so_args (so_av n_table rfl (.inr (.inl rfl)) so_anil)))) bk_chances_from_1 (fun _ _ _ _ _ => (tg_1 cok.nd rfl (.inl rfl) (.inr rfl))) (fun _ _ _ _ _ cb => so_if0) (fun _ _ _ _ _ cb => (so_fn n_chance_by cb m_chance_by rfl (so_args (so_av n_table rfl (.inr (.inl rfl)) (so_av n_one rfl (.inr (.inl rfl)) (so_av n_two rfl (.inl rfl) so_anil))))))))))
  sp_nil)
abbrev st_contraction_by : Stmt := topS 43
abbrev N_contraction_by : List Str := ["table", "rows", "one", "two"]
theorem sc_contraction_by : FnScope N_contraction_by ["table"] (defScope st_contraction_by) := ⟨rfl, rfl, rfl, by decide +kernel, rfl, by decide +kernel, by decide +kernel⟩
theorem bk_contraction_by_1 : BlkOk N_contraction_by (defScope (st_contraction_by)) { kind := PySem.ScopeKind.function, names := [(".0", PySem.NameKind.local), ("one", PySem.NameKind.local), ("chances_from", PySem.NameKind.globalImplicit), ("table", PySem.NameKind.free)], isGenerator := false, isCoroutine := false, more := [] : PySem.Scope } [("one", 2)] := ⟨rfl, by decide +kernel, by decide +kernel, by decide +kernel, by decide +kernel⟩
theorem bk_contraction_by_2 : BlkOk N_contraction_by (defScope (st_contraction_by)) { kind := PySem.ScopeKind.function, names := [(".0", PySem.NameKind.local), ("one", PySem.NameKind.local), ("two", PySem.NameKind.local), ("apart_by", PySem.NameKind.globalImplicit), ("rows", PySem.NameKind.free)], isGenerator := false, isCoroutine := false, more := [] : PySem.Scope } [("one", 2), ("two", 3)] := ⟨rfl, by decide +kernel, by decide +kernel, by decide +kernel, by decide +kernel⟩
theorem ok_contraction_by {f : Addr} {fd : FuncData} {Φ : Str → List S → FR} {k : Nat} (F : Fun K "contraction_by" "contraction_by" st_contraction_by f fd) (wd : Wd Φ GG FS BS k P w K mg base) : FnOk P w K mg base (L2.CX P w) (k + 1) f fd ["table"] (spF K mg (runFn Φ GG fu fn_contraction_by) 1) :=
  fn_ok F sc_contraction_by rfl rfl rfl (by decide) wd fun cdv A outer s H E cok hp =>
  (sp_cons (sp_asg (so_lc (own := [("one", 2)]) (tgs := [2]) (one := true) cok (so_seq (so_fn n_places_of cok m_places_of rfl (so_args (so_av n_table rfl (.inr (.inl rfl)) so_anil)))) bk_contraction_by_1 (fun _ _ _ _ _ => (tg_1 cok.nd rfl (.inl rfl) (.inr rfl))) (fun _ _ _ _ _ cb => so_if0) (fun _ _ _ _ _ cb => (so_fn n_chances_from cb m_chances_from rfl (so_args (so_av n_table rfl (.inr (.inl rfl)) (so_av n_one rfl (.inl rfl) so_anil)))))) (tg_nm cok.nd rfl (.inr rfl) (.inl rfl)))
  (sp_cons (sp_ret (so_fn n_greatest_of cok m_greatest_of rfl (so_args (so_acons (so_lc2 (own := [("one", 2), ("two", 3)]) (tgs := [2]) (one := true) (tgs2 := [3]) (one2 := true) cok (so_seq (so_v n_rows rfl (.inr (.inl rfl)))) bk_contraction_by_2 (fun _ _ _ _ _ => (tg_1 cok.nd rfl (.inl rfl) (.inr rfl))) (fun _ _ _ _ _ cb => so_if0) (fun _ _ _ _ _ cb => (so_seq (so_v n_rows rfl (.inr (.inl rfl))))) (fun _ _ _ _ _ => (tg_1 cok.nd rfl (.inl rfl) (.inr rfl))) (fun _ _ _ _ _ cb => so_if0) (fun _ _ _ _ _ cb => (so_fn n_apart_by cb m_apart_by rfl (so_args (so_av n_one rfl (.inl rfl) (so_av n_two rfl (.inl rfl) so_anil)))))) so_anil))))
  sp_nil))
abbrev st_led : Stmt := topS 46
abbrev N_led : List Str := ["table", "shares", "times"]
theorem sc_led : FnScope N_led ["table", "shares", "times"] (defScope st_led) := ⟨rfl, rfl, rfl, by decide +kernel, rfl, by decide +kernel, by decide +kernel⟩
theorem ok_led {f : Addr} {fd : FuncData} {Φ : Str → List S → FR} {k : Nat} (F : Fun K "led" "led" st_led f fd) (wd : Wd Φ GG FS BS k P w K mg base) : FnOk P w K mg base (L2.CX P w) (k + 1) f fd ["table", "shares", "times"] (spF K mg (runFn Φ GG fu fn_led) 3) :=
  fn_ok F sc_led rfl rfl rfl (by decide) wd fun cdv A outer s H E cok hp =>
  (sp_cons (sp_expr (so_fn n_check_table cok m_check_table rfl (so_args (so_av n_table rfl (.inl rfl) so_anil))))
  (sp_cons (sp_expr (so_fn n_check_shares cok m_check_shares rfl (so_args (so_av n_table rfl (.inl rfl) (so_av n_shares rfl (.inl rfl) so_anil)))))
  (sp_cons (sp_expr (so_fn n_check_times cok m_check_times rfl (so_args (so_av n_times rfl (.inl rfl) (so_acons so_int (so_acons (so_g n_MOST_STEPS cok g_MOST_STEPS rfl) so_anil))))))
  (sp_cons (sp_ret (so_fn n_led_by cok m_led_by rfl (so_args (so_av n_table rfl (.inl rfl) (so_av n_shares rfl (.inl rfl) (so_av n_times rfl (.inl rfl) so_anil))))))
  sp_nil))))
abbrev st_apart : Stmt := topS 48
abbrev N_apart : List Str := ["table", "shares", "other_shares"]
theorem sc_apart : FnScope N_apart ["table", "shares", "other_shares"] (defScope st_apart) := ⟨rfl, rfl, rfl, by decide +kernel, rfl, by decide +kernel, by decide +kernel⟩
theorem ok_apart {f : Addr} {fd : FuncData} {Φ : Str → List S → FR} {k : Nat} (F : Fun K "apart" "apart" st_apart f fd) (wd : Wd Φ GG FS BS k P w K mg base) : FnOk P w K mg base (L2.CX P w) (k + 1) f fd ["table", "shares", "other_shares"] (spF K mg (runFn Φ GG fu fn_apart) 3) :=
  fn_ok F sc_apart rfl rfl rfl (by decide) wd fun cdv A outer s H E cok hp =>
  (sp_cons (sp_expr (so_fn n_check_table cok m_check_table rfl (so_args (so_av n_table rfl (.inl rfl) so_anil))))
  (sp_cons (sp_expr (so_fn n_check_shares cok m_check_shares rfl (so_args (so_av n_table rfl (.inl rfl) (so_av n_shares rfl (.inl rfl) so_anil)))))
  (sp_cons (sp_expr (so_fn n_check_shares cok m_check_shares rfl (so_args (so_av n_table rfl (.inl rfl) (so_av n_other_shares rfl (.inl rfl) so_anil)))))
  (sp_cons (sp_ret (so_fn n_apart_by cok m_apart_by rfl (so_args (so_av n_shares rfl (.inl rfl) (so_av n_other_shares rfl (.inl rfl) so_anil)))))
  sp_nil))))
abbrev st_contraction : Stmt := topS 49
abbrev N_contraction : List Str := ["table"]
theorem sc_contraction : FnScope N_contraction ["table"] (defScope st_contraction) := ⟨rfl, rfl, rfl, by decide +kernel, rfl, by decide +kernel, by decide +kernel⟩
theorem ok_contraction {f : Addr} {fd : FuncData} {Φ : Str → List S → FR} {k : Nat} (F : Fun K "contraction" "contraction" st_contraction f fd) (wd : Wd Φ GG FS BS k P w K mg base) : FnOk P w K mg base (L2.CX P w) (k + 1) f fd ["table"] (spF K mg (runFn Φ GG fu fn_contraction) 1) :=
  fn_ok F sc_contraction rfl rfl rfl (by decide) wd fun cdv A outer s H E cok hp =>
  (sp_cons (sp_expr (so_fn n_check_table cok m_check_table rfl (so_args (so_av n_table rfl (.inl rfl) so_anil))))
  (sp_cons (sp_ret (so_fn n_contraction_by cok m_contraction_by rfl (so_args (so_av n_table rfl (.inl rfl) so_anil))))
  sp_nil))
abbrev st__law_well : Stmt := topS 51
abbrev N__law_well : List Str := ["script", "lap", "own", "stir", "each"]
theorem sc__law_well : FnScope N__law_well ["script", "lap"] (defScope st__law_well) := ⟨rfl, rfl, rfl, by decide +kernel, rfl, by decide +kernel, by decide +kernel⟩
theorem ok__law_well {f : Addr} {fd : FuncData} {Φ : Str → List S → FR} {k : Nat} (F : Fun K "_law_well" "_law_well" st__law_well f fd) (wd : Wd Φ GG FS BS k P w K mg base) : FnOk P w K mg base (L2.CX P w) (k + 1) f fd ["script", "lap"] (spF K mg (runFn Φ GG fu fn__law_well) 2) :=
  fn_ok F sc__law_well rfl rfl rfl (by decide) wd fun cdv A outer s H E cok hp =>
  (sp_cons (sp_asg (so_ife (so_cmpT cok.hu (so_o n_lap rfl (.inl rfl)) (so_t (so_bi cok b_len rfl rfl v_len (so_o n_script rfl (.inl rfl)))) rfl) (so_bi cok b_int rfl rfl v_int (so_t (so_ix (so_o n_script rfl (.inl rfl)) (so_o n_lap rfl (.inl rfl))))) so_int) (tg_nm cok.nd rfl (.inl rfl) (.inl rfl)))
  (sp_cons (sp_asg (so_bin (so_t so_int) (so_t (so_bin (so_t so_int) (so_o n_lap rfl (.inl rfl))))) (tg_nm cok.nd rfl (.inl rfl) (.inl rfl)))
  (sp_cons (sp_for (tgs := [4]) (one := true) hp cok.calm (so_seq (so_bin (so_t (so_slc (so_o n_script rfl (.inl rfl)) so_non (so_som so_int))) (so_t (so_lst (so_cons (so_v n_own rfl (.inl rfl)) so_nil))))) (tg_1 cok.nd rfl (.inl rfl) (.inr rfl)) (sp_cons (sp_asg (so_bin (so_t (so_bi cok b_int rfl rfl v_int (so_t (so_bin (so_t (so_bin (so_t (so_bin (so_o n_stir rfl (.inl rfl)) (so_t so_int))) (so_t (so_bin (so_t (so_bi cok b_int rfl rfl v_int (so_o n_each rfl (.inl rfl)))) (so_t so_int))))) (so_t so_int))))) (so_t so_int)) (tg_nm cok.nd rfl (.inl rfl) (.inl rfl)))
  sp_nil))
  (sp_cons (sp_ret (so_lst (so_cons (so_ife (PW.pt (so_orT (so_cmpT cok.hu (so_o n_own rfl (.inl rfl)) (so_t so_int) rfl) (pw_or1 (so_cmpT cok.hu (so_o n_own rfl (.inl rfl)) (so_t (so_bin (so_t so_int) (so_t so_int))) rfl)))) (so_bi cok b_abs rfl rfl v_abs (so_o n_own rfl (.inl rfl))) so_int) (so_cons (so_v n_stir rfl (.inl rfl)) (so_cons so_int so_nil)))))
  sp_nil))))
abbrev st__law_take : Stmt := topS 52
abbrev N__law_take : List Str := ["well", "many", "digit"]
theorem sc__law_take : FnScope N__law_take ["well", "many"] (defScope st__law_take) := ⟨rfl, rfl, rfl, by decide +kernel, rfl, by decide +kernel, by decide +kernel⟩
theorem ok__law_take {f : Addr} {fd : FuncData} {Φ : Str → List S → FR} {k : Nat} (F : Fun K "_law_take" "_law_take" st__law_take f fd) (wd : Wd Φ GG FS BS k P w K mg base) : FnOk P w K mg base (L2.CX P w) (k + 1) f fd ["well", "many"] (spF K mg (runFn Φ GG fu fn__law_take) 2) :=
  fn_ok F sc__law_take rfl rfl rfl (by decide) wd fun cdv A outer s H E cok hp =>
  (sp_cons (sp_if (so_cmpT cok.hu (so_t (so_ix (so_o n_well rfl (.inl rfl)) (so_t so_int))) (so_t so_int) rfl) (sp_cons (sp_asgU cok.calm (so_bi2 cok b_divmod rfl rfl w_divmod (so_t (so_ix (so_o n_well rfl (.inl rfl)) (so_t so_int))) (so_o n_many rfl (.inl rfl))) (tg_cons (tg_ix (W := fun cls d _ H => E cls d H) rfl (.inl rfl) (so_t so_int) n_well.d n_well.c) (tg_cons (tg_nm cok.nd rfl (.inl rfl) (.inl rfl)) tg_nil)))
  (sp_cons (sp_rv n_digit rfl (.inl rfl))
  sp_nil)) sp_nil)
  (sp_cons (sp_asg (so_bin (so_t (so_ix (so_o n_well rfl (.inl rfl)) (so_t so_int))) (so_t so_int)) (tg_ix (W := fun cls d _ H => E cls d H) rfl (.inl rfl) (so_t so_int) n_well.d n_well.c))
  (sp_cons (sp_asg (so_bin (so_t (so_bi cok b_int rfl rfl v_int (so_t (so_bin (so_t (so_bin (so_t (so_bin (so_t (so_ix (so_o n_well rfl (.inl rfl)) (so_t so_int))) (so_t so_int))) (so_t (so_bin (so_t (so_ix (so_o n_well rfl (.inl rfl)) (so_t so_int))) (so_t so_int))))) (so_t so_int))))) (so_t so_int)) (tg_ix (W := fun cls d _ H => E cls d H) rfl (.inl rfl) (so_t so_int) n_well.d n_well.c))
  (sp_cons (sp_ret (so_bin (so_t (so_bi cok b_int rfl rfl v_int (so_t (so_bin (so_t (so_ix (so_o n_well rfl (.inl rfl)) (so_t so_int))) (so_t so_int))))) (so_o n_many rfl (.inl rfl))))
  sp_nil))))
abbrev st__law_of : Stmt := topS 53
abbrev N__law_of : List Str := ["well", "things"]
theorem sc__law_of : FnScope N__law_of ["well", "things"] (defScope st__law_of) := ⟨rfl, rfl, rfl, by decide +kernel, rfl, by decide +kernel, by decide +kernel⟩
theorem ok__law_of {f : Addr} {fd : FuncData} {Φ : Str → List S → FR} {k : Nat} (F : Fun K "_law_of" "_law_of" st__law_of f fd) (wd : Wd Φ GG FS BS k P w K mg base) : FnOk P w K mg base (L2.CX P w) (k + 1) f fd ["well", "things"] (spF K mg (runFn Φ GG fu fn__law_of) 2) :=
  fn_ok F sc__law_of rfl rfl rfl (by decide) wd fun cdv A outer s H E cok hp =>
  (sp_cons (sp_ret (so_ix (so_o n_things rfl (.inl rfl)) (so_t (so_fn n__law_take cok m__law_take rfl (so_args (so_av n_well rfl (.inl rfl) (so_acons (so_bi cok b_len rfl rfl v_len (so_o n_things rfl (.inl rfl))) so_anil)))))))
  sp_nil)
abbrev st__law_same : Stmt := topS 54
abbrev N__law_same : List Str := ["told", "due", "at"]
theorem sc__law_same : FnScope N__law_same ["told", "due"] (defScope st__law_same) := ⟨rfl, rfl, rfl, by decide +kernel, rfl, by decide +kernel, by decide +kernel⟩
theorem bk__law_same_1 : BlkOk N__law_same (defScope (st__law_same)) { kind := PySem.ScopeKind.function, names := [(".0", PySem.NameKind.local), ("at", PySem.NameKind.local), ("_law_same", PySem.NameKind.globalImplicit), ("due", PySem.NameKind.free), ("told", PySem.NameKind.free)], isGenerator := false, isCoroutine := false, more := [] : PySem.Scope } [("at", 2)] := ⟨rfl, by decide +kernel, by decide +kernel, by decide +kernel, by decide +kernel⟩
theorem ok__law_same {f : Addr} {fd : FuncData} {Φ : Str → List S → FR} {k : Nat} (F : Fun K "_law_same" "_law_same" st__law_same f fd) (wd : Wd Φ GG FS BS k P w K mg base) : FnOk P w K mg base (L2.CX P w) (k + 1) f fd ["told", "due"] (spF K mg (runFn Φ GG fu fn__law_same) 2) :=
  fn_ok F sc__law_same rfl rfl rfl (by decide) wd fun cdv A outer s H E cok hp =>
  (sp_cons (sp_if (PW.pt (so_orT (PW.pt (so_andT (so_tr (so_t (so_isi cok b_isinstance rfl rfl (so_o n_due rfl (.inr (.inl rfl))) b_tuple rfl rfl rfl))) (pw_and1 (so_notT (so_tr (so_t (so_isi cok b_isinstance rfl rfl (so_o n_told rfl (.inr (.inl rfl))) b_tuple rfl rfl rfl))))))) (pw_or1 (PW.pt (so_andT (so_tr (so_t (so_isi cok b_isinstance rfl rfl (so_o n_due rfl (.inr (.inl rfl))) b_list rfl rfl rfl))) (pw_and1 (so_notT (so_tr (so_t (so_isi cok b_isinstance rfl rfl (so_o n_told rfl (.inr (.inl rfl))) b_list rfl rfl rfl)))))))))) (sp_cons (sp_ret so_bl)
  sp_nil) sp_nil)
  (sp_cons (sp_if (so_tr (so_t (so_isiT cok b_isinstance rfl rfl (so_o n_due rfl (.inr (.inl rfl))) (so_tys cok b_tuple rfl rfl rfl (so_tys cok b_list rfl rfl rfl so_ty0)) rfl))) (sp_cons (sp_ret (so_and (so_cmp cok.hu (so_t (so_bi cok b_len rfl rfl v_len (so_o n_told rfl (.inr (.inl rfl))))) (so_t (so_bi cok b_len rfl rfl v_len (so_o n_due rfl (.inr (.inl rfl))))) rfl) (so_one (so_bi cok b_all rfl rfl v_all (so_t (so_lc (own := [("at", 2)]) (tgs := [2]) (one := true) cok (so_r1 cok rfl b_range rfl (so_bi cok b_len rfl rfl v_len (so_o n_due rfl (.inr (.inl rfl))))) bk__law_same_1 (fun _ _ _ _ _ => (tg_1 cok.nd rfl (.inl rfl) (.inr rfl))) (fun _ _ _ _ _ cb => so_if0) (fun _ _ _ _ _ cb => (so_fn n__law_same cb m__law_same rfl (so_args (so_acons (so_ix (so_o n_told rfl (.inr (.inl rfl))) (so_o n_at rfl (.inl rfl))) (so_acons (so_ix (so_o n_due rfl (.inr (.inl rfl))) (so_o n_at rfl (.inl rfl))) so_anil)))))))))))
  sp_nil) sp_nil)
  (sp_cons (sp_if (PW.pt (so_orT (so_cmpT cok.hu (so_o n_due rfl (.inr (.inl rfl))) (so_t so_nn) rfl) (pw_or1 (so_cmpT cok.hu (so_o n_told rfl (.inr (.inl rfl))) (so_t so_nn) rfl)))) (sp_cons (sp_ret (so_and (so_cmp cok.hu (so_o n_due rfl (.inr (.inl rfl))) (so_t so_nn) rfl) (so_one (so_cmp cok.hu (so_o n_told rfl (.inr (.inl rfl))) (so_t so_nn) rfl))))
  sp_nil) sp_nil)
  (sp_cons (sp_if (PW.pt (so_orT (so_tr (so_t (so_isi cok b_isinstance rfl rfl (so_o n_due rfl (.inr (.inl rfl))) b_bool rfl rfl rfl))) (pw_or1 (so_tr (so_t (so_isi cok b_isinstance rfl rfl (so_o n_told rfl (.inr (.inl rfl))) b_bool rfl rfl rfl)))))) (sp_cons (sp_ret (so_and (so_isi cok b_isinstance rfl rfl (so_o n_due rfl (.inr (.inl rfl))) b_bool rfl rfl rfl) (so_and (so_isi cok b_isinstance rfl rfl (so_o n_told rfl (.inr (.inl rfl))) b_bool rfl rfl rfl) (so_one (so_cmp cok.hu (so_o n_due rfl (.inr (.inl rfl))) (so_o n_told rfl (.inr (.inl rfl))) rfl)))))
  sp_nil) sp_nil)
  (sp_cons (sp_if (so_tr (so_t (so_isi cok b_isinstance rfl rfl (so_o n_due rfl (.inr (.inl rfl))) b_int rfl rfl rfl))) (sp_cons (sp_ret (so_and (so_isi cok b_isinstance rfl rfl (so_o n_told rfl (.inr (.inl rfl))) b_int rfl rfl rfl) (so_one (so_cmp cok.hu (so_o n_told rfl (.inr (.inl rfl))) (so_o n_due rfl (.inr (.inl rfl))) rfl))))
  sp_nil) sp_nil)
  (sp_cons (sp_if (so_tr (so_t (so_isi cok b_isinstance rfl rfl (so_o n_due rfl (.inr (.inl rfl))) b_str rfl rfl rfl))) (sp_cons (sp_ret (so_and (so_isi cok b_isinstance rfl rfl (so_o n_told rfl (.inr (.inl rfl))) b_str rfl rfl rfl) (so_one (so_cmp cok.hu (so_o n_told rfl (.inr (.inl rfl))) (so_o n_due rfl (.inr (.inl rfl))) rfl))))
  sp_nil) sp_nil)
  (sp_cons (sp_ret (so_and (so_isi cok b_isinstance rfl rfl (so_o n_due rfl (.inr (.inl rfl))) b_dict rfl rfl rfl) (so_and (so_isi cok b_isinstance rfl rfl (so_o n_told rfl (.inr (.inl rfl))) b_dict rfl rfl rfl) (so_and (so_cmp cok.hu (so_t (so_bi cok b_len rfl rfl v_len (so_o n_told rfl (.inr (.inl rfl))))) (so_t (so_bi cok b_len rfl rfl v_len (so_o n_due rfl (.inr (.inl rfl))))) rfl) (so_one (so_cmp cok.hu (so_o n_told rfl (.inr (.inl rfl))) (so_o n_due rfl (.inr (.inl rfl))) rfl))))))
  sp_nil)))))))
abbrev st__law_part : Stmt := topS 55
abbrev N__law_part : List Str := ["one", "two", "low", "high"]
theorem sc__law_part : FnScope N__law_part ["one", "two"] (defScope st__law_part) := ⟨rfl, rfl, rfl, by decide +kernel, rfl, by decide +kernel, by decide +kernel⟩
theorem ok__law_part {f : Addr} {fd : FuncData} {Φ : Str → List S → FR} {k : Nat} (F : Fun K "_law_part" "_law_part" st__law_part f fd) (wd : Wd Φ GG FS BS k P w K mg base) : FnOk P w K mg base (L2.CX P w) (k + 1) f fd ["one", "two"] (spF K mg (runFn Φ GG fu fn__law_part) 2) :=
  fn_ok F sc__law_part rfl rfl rfl (by decide) wd fun cdv A outer s H E cok hp =>
  (sp_cons (sp_if (so_cmpT cok.hu (so_o n_two rfl (.inl rfl)) (so_t so_int) rfl) (sp_cons (sp_par cok.calm cok.nd rfl rfl (by decide) rfl rfl (so_cons (so_bin (so_t so_int) (so_o n_one rfl (.inl rfl))) (so_cons (so_bin (so_t so_int) (so_o n_two rfl (.inl rfl))) so_nil)) rfl)
  sp_nil) sp_nil)
  (sp_cons (sp_par cok.calm cok.nd rfl rfl (by decide) rfl rfl (so_cons (so_bi cok b_abs rfl rfl v_abs (so_o n_one rfl (.inl rfl))) (so_cons (so_v n_two rfl (.inl rfl)) so_nil)) rfl)
  (sp_cons (sp_whl hp (so_cmpT cok.hu (so_o n_high rfl (.inl rfl)) (so_t so_int) rfl) (sp_cons (sp_par cok.calm cok.nd rfl rfl (by decide) rfl rfl (so_cons (so_v n_high rfl (.inl rfl)) (so_cons (so_bin (so_t (so_bi cok b_int rfl rfl v_int (so_o n_low rfl (.inl rfl)))) (so_o n_high rfl (.inl rfl))) so_nil)) rfl)
  sp_nil))
  (sp_cons (sp_ret (so_tup (so_cons (so_bin (so_o n_one rfl (.inl rfl)) (so_o n_low rfl (.inl rfl))) (so_cons (so_bin (so_o n_two rfl (.inl rfl)) (so_o n_low rfl (.inl rfl))) so_nil))))
  sp_nil))))
abbrev st__law_plus : Stmt := topS 56
abbrev N__law_plus : List Str := ["one", "two"]
theorem sc__law_plus : FnScope N__law_plus ["one", "two"] (defScope st__law_plus) := ⟨rfl, rfl, rfl, by decide +kernel, rfl, by decide +kernel, by decide +kernel⟩
theorem ok__law_plus {f : Addr} {fd : FuncData} {Φ : Str → List S → FR} {k : Nat} (F : Fun K "_law_plus" "_law_plus" st__law_plus f fd) (wd : Wd Φ GG FS BS k P w K mg base) : FnOk P w K mg base (L2.CX P w) (k + 1) f fd ["one", "two"] (spF K mg (runFn Φ GG fu fn__law_plus) 2) :=
  fn_ok F sc__law_plus rfl rfl rfl (by decide) wd fun cdv A outer s H E cok hp =>
  (sp_cons (sp_ret (so_fn n__law_part cok m__law_part rfl (so_args (so_acons (so_bin (so_t (so_bin (so_t (so_ix (so_o n_one rfl (.inl rfl)) (so_t so_int))) (so_t (so_ix (so_o n_two rfl (.inl rfl)) (so_t so_int))))) (so_t (so_bin (so_t (so_ix (so_o n_two rfl (.inl rfl)) (so_t so_int))) (so_t (so_ix (so_o n_one rfl (.inl rfl)) (so_t so_int)))))) (so_acons (so_bin (so_t (so_ix (so_o n_one rfl (.inl rfl)) (so_t so_int))) (so_t (so_ix (so_o n_two rfl (.inl rfl)) (so_t so_int)))) so_anil)))))
  sp_nil)
abbrev st__law_less : Stmt := topS 57
abbrev N__law_less : List Str := ["one", "two"]
theorem sc__law_less : FnScope N__law_less ["one", "two"] (defScope st__law_less) := ⟨rfl, rfl, rfl, by decide +kernel, rfl, by decide +kernel, by decide +kernel⟩
theorem ok__law_less {f : Addr} {fd : FuncData} {Φ : Str → List S → FR} {k : Nat} (F : Fun K "_law_less" "_law_less" st__law_less f fd) (wd : Wd Φ GG FS BS k P w K mg base) : FnOk P w K mg base (L2.CX P w) (k + 1) f fd ["one", "two"] (spF K mg (runFn Φ GG fu fn__law_less) 2) :=
  fn_ok F sc__law_less rfl rfl rfl (by decide) wd fun cdv A outer s H E cok hp =>
  (sp_cons (sp_ret (so_fn n__law_part cok m__law_part rfl (so_args (so_acons (so_bin (so_t (so_bin (so_t (so_ix (so_o n_one rfl (.inl rfl)) (so_t so_int))) (so_t (so_ix (so_o n_two rfl (.inl rfl)) (so_t so_int))))) (so_t (so_bin (so_t (so_ix (so_o n_two rfl (.inl rfl)) (so_t so_int))) (so_t (so_ix (so_o n_one rfl (.inl rfl)) (so_t so_int)))))) (so_acons (so_bin (so_t (so_ix (so_o n_one rfl (.inl rfl)) (so_t so_int))) (so_t (so_ix (so_o n_two rfl (.inl rfl)) (so_t so_int)))) so_anil)))))
  sp_nil)
abbrev st__law_by : Stmt := topS 58
abbrev N__law_by : List Str := ["one", "two"]
theorem sc__law_by : FnScope N__law_by ["one", "two"] (defScope st__law_by) := ⟨rfl, rfl, rfl, by decide +kernel, rfl, by decide +kernel, by decide +kernel⟩
theorem ok__law_by {f : Addr} {fd : FuncData} {Φ : Str → List S → FR} {k : Nat} (F : Fun K "_law_by" "_law_by" st__law_by f fd) (wd : Wd Φ GG FS BS k P w K mg base) : FnOk P w K mg base (L2.CX P w) (k + 1) f fd ["one", "two"] (spF K mg (runFn Φ GG fu fn__law_by) 2) :=
  fn_ok F sc__law_by rfl rfl rfl (by decide) wd fun cdv A outer s H E cok hp =>
  (sp_cons (sp_ret (so_fn n__law_part cok m__law_part rfl (so_args (so_acons (so_bin (so_t (so_ix (so_o n_one rfl (.inl rfl)) (so_t so_int))) (so_t (so_ix (so_o n_two rfl (.inl rfl)) (so_t so_int)))) (so_acons (so_bin (so_t (so_ix (so_o n_one rfl (.inl rfl)) (so_t so_int))) (so_t (so_ix (so_o n_two rfl (.inl rfl)) (so_t so_int)))) so_anil)))))
  sp_nil)
abbrev st__law_is_below : Stmt := topS 59
abbrev N__law_is_below : List Str := ["one", "two"]
theorem sc__law_is_below : FnScope N__law_is_below ["one", "two"] (defScope st__law_is_below) := ⟨rfl, rfl, rfl, by decide +kernel, rfl, by decide +kernel, by decide +kernel⟩
theorem ok__law_is_below {f : Addr} {fd : FuncData} {Φ : Str → List S → FR} {k : Nat} (F : Fun K "_law_is_below" "_law_is_below" st__law_is_below f fd) (wd : Wd Φ GG FS BS k P w K mg base) : FnOk P w K mg base (L2.CX P w) (k + 1) f fd ["one", "two"] (spF K mg (runFn Φ GG fu fn__law_is_below) 2) :=
  fn_ok F sc__law_is_below rfl rfl rfl (by decide) wd fun cdv A outer s H E cok hp =>
  (sp_cons (sp_ret (so_cmp cok.hu (so_t (so_bin (so_t (so_ix (so_o n_one rfl (.inl rfl)) (so_t so_int))) (so_t (so_ix (so_o n_two rfl (.inl rfl)) (so_t so_int))))) (so_t (so_bin (so_t (so_ix (so_o n_two rfl (.inl rfl)) (so_t so_int))) (so_t (so_ix (so_o n_one rfl (.inl rfl)) (so_t so_int))))) rfl))
  sp_nil)
abbrev st__law_table : Stmt := topS 60
abbrev N__law_table : List Str := ["well", "most", "many", "way", "share", "great", "found", "cut", "one", "row", "two"]
theorem sc__law_table : FnScope N__law_table ["well", "most"] (defScope st__law_table) := ⟨rfl, rfl, rfl, by decide +kernel, rfl, by decide +kernel, by decide +kernel⟩
theorem bk__law_table_1 : BlkOk N__law_table (defScope (st__law_table)) { kind := PySem.ScopeKind.function, names := [(".0", PySem.NameKind.local), ("two", PySem.NameKind.local), ("_law_take", PySem.NameKind.globalImplicit), ("great", PySem.NameKind.free), ("share", PySem.NameKind.free), ("well", PySem.NameKind.free)], isGenerator := false, isCoroutine := false, more := [] : PySem.Scope } [("two", 10)] := ⟨rfl, by decide +kernel, by decide +kernel, by decide +kernel, by decide +kernel⟩
theorem bk__law_table_2 : BlkOk N__law_table (defScope (st__law_table)) { kind := PySem.ScopeKind.function, names := [(".0", PySem.NameKind.local), ("two", PySem.NameKind.local), ("cut", PySem.NameKind.free), ("row", PySem.NameKind.free)], isGenerator := false, isCoroutine := false, more := [] : PySem.Scope } [("two", 10)] := ⟨rfl, by decide +kernel, by decide +kernel, by decide +kernel, by decide +kernel⟩
theorem bk__law_table_3 : BlkOk N__law_table (defScope (st__law_table)) { kind := PySem.ScopeKind.function, names := [(".0", PySem.NameKind.local), ("two", PySem.NameKind.local), ("int", PySem.NameKind.globalImplicit), ("one", PySem.NameKind.free), ("row", PySem.NameKind.free)], isGenerator := false, isCoroutine := false, more := [] : PySem.Scope } [("two", 10)] := ⟨rfl, by decide +kernel, by decide +kernel, by decide +kernel, by decide +kernel⟩
theorem bk__law_table_4 : BlkOk N__law_table (defScope (st__law_table)) { kind := PySem.ScopeKind.function, names := [(".0", PySem.NameKind.local), ("two", PySem.NameKind.local), ("int", PySem.NameKind.globalImplicit), ("many", PySem.NameKind.free), ("one", PySem.NameKind.free)], isGenerator := false, isCoroutine := false, more := [] : PySem.Scope } [("two", 10)] := ⟨rfl, by decide +kernel, by decide +kernel, by decide +kernel, by decide +kernel⟩
theorem ok__law_table {f : Addr} {fd : FuncData} {Φ : Str → List S → FR} {k : Nat} (F : Fun K "_law_table" "_law_table" st__law_table f fd) (wd : Wd Φ GG FS BS k P w K mg base) : FnOk P w K mg base (L2.CX P w) (k + 1) f fd ["well", "most"] (spF K mg (runFn Φ GG fu fn__law_table) 2) :=
  fn_ok F sc__law_table rfl rfl rfl (by decide) wd fun cdv A outer s H E cok hp =>
  (sp_cons (sp_asgT cok.calm (so_cons (so_bin (so_t so_int) (so_t (so_fn n__law_take cok m__law_take rfl (so_args (so_av n_well rfl (.inr (.inl rfl)) (so_av n_most rfl (.inl rfl) so_anil)))))) (so_cons (so_fn n__law_take cok m__law_take rfl (so_args (so_av n_well rfl (.inr (.inl rfl)) (so_acons so_int so_anil)))) so_nil)) (tg_cons (tg_nm cok.nd rfl (.inr rfl) (.inl rfl)) (tg_cons (tg_nm cok.nd rfl (.inl rfl) (.inl rfl)) tg_nil)) rfl)
  (sp_cons (sp_asgT cok.calm (so_cons (so_fn n__law_of cok m__law_of rfl (so_args (so_av n_well rfl (.inr (.inl rfl)) (so_acons (so_tup (so_cons so_int (so_cons so_int (so_cons so_int so_nil)))) so_anil)))) (so_cons (so_fn n__law_of cok m__law_of rfl (so_args (so_av n_well rfl (.inr (.inl rfl)) (so_acons (so_tup (so_cons so_int (so_cons so_int (so_cons so_int so_nil)))) so_anil)))) (so_cons (so_lst so_nil) so_nil))) (tg_cons (tg_nm cok.nd rfl (.inr rfl) (.inl rfl)) (tg_cons (tg_nm cok.nd rfl (.inr rfl) (.inl rfl)) (tg_cons (tg_nm cok.nd rfl (.inl rfl) (.inl rfl)) tg_nil))) rfl)
  (sp_cons (sp_asg (so_bin (so_t so_int) (so_t (so_fn n__law_take cok m__law_take rfl (so_args (so_av n_well rfl (.inr (.inl rfl)) (so_av n_many rfl (.inr (.inl rfl)) so_anil)))))) (tg_nm cok.nd rfl (.inr rfl) (.inl rfl)))
  (sp_cons (sp_for (tgs := [8]) (one := true) hp cok.calm (so_r1 cok rfl b_range rfl (so_v n_many rfl (.inr (.inl rfl)))) (tg_1 cok.nd rfl (.inr rfl) (.inl rfl)) (sp_cons (sp_asg (so_lc (own := [("two", 10)]) (tgs := [10]) (one := true) cok (so_r1 cok rfl b_range rfl (so_v n_many rfl (.inr (.inl rfl)))) bk__law_table_1 (fun _ _ _ _ _ => (tg_1 cok.nd rfl (.inl rfl) (.inr rfl))) (fun _ _ _ _ _ cb => so_if0) (fun _ _ _ _ _ cb => (so_ife (so_cmpT cb.hu (so_t (so_fn n__law_take cb m__law_take rfl (so_args (so_av n_well rfl (.inr (.inl rfl)) (so_acons so_int so_anil))))) (so_o n_share rfl (.inr (.inl rfl))) rfl) (so_bin (so_t so_int) (so_t (so_fn n__law_take cb m__law_take rfl (so_args (so_av n_well rfl (.inr (.inl rfl)) (so_av n_great rfl (.inr (.inl rfl)) so_anil)))))) so_int))) (tg_nm cok.nd rfl (.inr rfl) (.inl rfl)))
  (sp_cons (sp_if (PW.pt (so_andT (so_cmpT cok.hu (so_o n_way rfl (.inl rfl)) (so_t so_int) rfl) (pw_and1 (so_cmpT cok.hu (so_o n_one rfl (.inr (.inl rfl))) (so_o n_cut rfl (.inr (.inl rfl))) rfl)))) (sp_cons (sp_asg (so_lc (own := [("two", 10)]) (tgs := [10]) (one := true) cok (so_r1 cok rfl b_range rfl (so_v n_many rfl (.inr (.inl rfl)))) bk__law_table_2 (fun _ _ _ _ _ => (tg_1 cok.nd rfl (.inl rfl) (.inr rfl))) (fun _ _ _ _ _ cb => so_if0) (fun _ _ _ _ _ cb => (so_ife (so_cmpT cb.hu (so_o n_two rfl (.inl rfl)) (so_o n_cut rfl (.inr (.inl rfl))) rfl) (so_ix (so_o n_row rfl (.inr (.inl rfl))) (so_o n_two rfl (.inl rfl))) so_int))) (tg_nm cok.nd rfl (.inr rfl) (.inl rfl)))
  sp_nil) sp_nil)
  (sp_cons (sp_if (so_cmpT cok.hu (so_o n_way rfl (.inl rfl)) (so_t so_int) rfl) (sp_cons (sp_asg (so_lc (own := [("two", 10)]) (tgs := [10]) (one := true) cok (so_r1 cok rfl b_range rfl (so_v n_many rfl (.inr (.inl rfl)))) bk__law_table_3 (fun _ _ _ _ _ => (tg_1 cok.nd rfl (.inl rfl) (.inr rfl))) (fun _ _ _ _ _ cb => so_if0) (fun _ _ _ _ _ cb => (so_ife (so_cmpT cb.hu (so_t (so_bin (so_t (so_bi cb b_int rfl rfl v_int (so_t (so_bin (so_o n_one rfl (.inr (.inl rfl))) (so_o n_two rfl (.inl rfl)))))) (so_t so_int))) (so_t so_int) rfl) (so_ix (so_o n_row rfl (.inr (.inl rfl))) (so_o n_two rfl (.inl rfl))) so_int))) (tg_nm cok.nd rfl (.inr rfl) (.inl rfl)))
  sp_nil) sp_nil)
  (sp_cons (sp_if (so_cmpT cok.hu (so_o n_way rfl (.inl rfl)) (so_t so_int) rfl) (sp_cons (sp_asg (so_lc (own := [("two", 10)]) (tgs := [10]) (one := true) cok (so_r1 cok rfl b_range rfl (so_v n_many rfl (.inr (.inl rfl)))) bk__law_table_4 (fun _ _ _ _ _ => (tg_1 cok.nd rfl (.inl rfl) (.inr rfl))) (fun _ _ _ _ _ cb => so_if0) (fun _ _ _ _ _ cb => (so_ife (so_cmpT cb.hu (so_o n_two rfl (.inl rfl)) (so_t (so_bin (so_t (so_bi cb b_int rfl rfl v_int (so_t (so_bin (so_o n_one rfl (.inr (.inl rfl))) (so_t so_int))))) (so_o n_many rfl (.inr (.inl rfl))))) rfl) so_int so_int))) (tg_nm cok.nd rfl (.inr rfl) (.inl rfl)))
  sp_nil) sp_nil)
  (sp_cons (sp_if (so_cmpT cok.hu (so_t (so_bi cok b_sum rfl rfl v_sum (so_o n_row rfl (.inr (.inl rfl))))) (so_t so_int) rfl) (sp_cons (sp_asg so_int (tg_ix (W := fun cls d _ H => E cls d H) rfl (.inr (.inl rfl)) (so_t (so_ife (PW.pt (so_orT (so_cmpT cok.hu (so_o n_way rfl (.inl rfl)) (so_t so_int) rfl) (pw_or1 (so_cmpT cok.hu (so_o n_one rfl (.inr (.inl rfl))) (so_o n_cut rfl (.inr (.inl rfl))) rfl)))) (so_fn n__law_take cok m__law_take rfl (so_args (so_av n_well rfl (.inr (.inl rfl)) (so_av n_many rfl (.inr (.inl rfl)) so_anil)))) (so_fn n__law_take cok m__law_take rfl (so_args (so_av n_well rfl (.inr (.inl rfl)) (so_av n_cut rfl (.inr (.inl rfl)) so_anil)))))) n_row.d n_row.c))
  sp_nil) sp_nil)
  (sp_cons (sp_expr (so_app rfl (.inl rfl) (so_bi cok b_tuple rfl rfl v_tuple (so_o n_row rfl (.inr (.inl rfl)))) n_found.d n_found.c))
  sp_nil)))))))
  (sp_cons (sp_ret (so_bi cok b_tuple rfl rfl v_tuple (so_o n_found rfl (.inl rfl))))
  sp_nil)))))
abbrev st__law_chance : Stmt := topS 61
abbrev N__law_chance : List Str := ["table", "one", "two"]
theorem sc__law_chance : FnScope N__law_chance ["table", "one", "two"] (defScope st__law_chance) := ⟨rfl, rfl, rfl, by decide +kernel, rfl, by decide +kernel, by decide +kernel⟩
theorem ok__law_chance {f : Addr} {fd : FuncData} {Φ : Str → List S → FR} {k : Nat} (F : Fun K "_law_chance" "_law_chance" st__law_chance f fd) (wd : Wd Φ GG FS BS k P w K mg base) : FnOk P w K mg base (L2.CX P w) (k + 1) f fd ["table", "one", "two"] (spF K mg (runFn Φ GG fu fn__law_chance) 3) :=
  fn_ok F sc__law_chance rfl rfl rfl (by decide) wd fun cdv A outer s H E cok hp =>
  (sp_cons (sp_ret (so_fn n__law_part cok m__law_part rfl (so_args (so_acons (so_ix (so_t (so_ix (so_o n_table rfl (.inl rfl)) (so_o n_one rfl (.inl rfl)))) (so_o n_two rfl (.inl rfl))) (so_acons (so_bi cok b_sum rfl rfl v_sum (so_t (so_ix (so_o n_table rfl (.inl rfl)) (so_o n_one rfl (.inl rfl))))) so_anil)))))
  sp_nil)
abbrev st__law_apart : Stmt := topS 62
abbrev N__law_apart : List Str := ["one", "two", "found", "first", "second", "step"]
theorem sc__law_apart : FnScope N__law_apart ["one", "two"] (defScope st__law_apart) := ⟨rfl, rfl, rfl, by decide +kernel, rfl, by decide +kernel, by decide +kernel⟩
theorem ok__law_apart {f : Addr} {fd : FuncData} {Φ : Str → List S → FR} {k : Nat} (F : Fun K "_law_apart" "_law_apart" st__law_apart f fd) (wd : Wd Φ GG FS BS k P w K mg base) : FnOk P w K mg base (L2.CX P w) (k + 1) f fd ["one", "two"] (spF K mg (runFn Φ GG fu fn__law_apart) 2) :=
  fn_ok F sc__law_apart rfl rfl rfl (by decide) wd fun cdv A outer s H E cok hp =>
  (sp_cons (sp_asg (so_tup (so_cons so_int (so_cons so_int so_nil))) (tg_nm cok.nd rfl (.inl rfl) (.inl rfl)))
  (sp_cons (sp_for (tgs := [3, 4]) (one := false) hp cok.calm (so_zip cok rfl b_zip rfl (so_v n_one rfl (.inl rfl)) (so_v n_two rfl (.inl rfl))) (tg_n cok.calm (ns_cons cok.nd rfl (.inl rfl) (.inr rfl) (ns_cons cok.nd rfl (.inl rfl) (.inr rfl) ns_nil))) (sp_cons (sp_asg (so_fn n__law_less cok m__law_less rfl (so_args (so_av n_first rfl (.inl rfl) (so_av n_second rfl (.inl rfl) so_anil)))) (tg_nm cok.nd rfl (.inl rfl) (.inl rfl)))
  (sp_cons (sp_asg (so_fn n__law_plus cok m__law_plus rfl (so_args (so_av n_found rfl (.inl rfl) (so_acons (so_tup (so_cons (so_bi cok b_abs rfl rfl v_abs (so_t (so_ix (so_o n_step rfl (.inl rfl)) (so_t so_int)))) (so_cons (so_ix (so_o n_step rfl (.inl rfl)) (so_t so_int)) so_nil))) so_anil)))) (tg_nm cok.nd rfl (.inl rfl) (.inl rfl)))
  sp_nil)))
  (sp_cons (sp_ret (so_fn n__law_by cok m__law_by rfl (so_args (so_av n_found rfl (.inl rfl) (so_acons (so_tup (so_cons so_int (so_cons so_int so_nil))) so_anil)))))
  sp_nil)))
abbrev st__law_shares : Stmt := topS 63
abbrev N__law_shares : List Str := ["well", "many", "parts", "one", "part"]
theorem sc__law_shares : FnScope N__law_shares ["well", "many"] (defScope st__law_shares) := ⟨rfl, rfl, rfl, by decide +kernel, rfl, by decide +kernel, by decide +kernel⟩
theorem bk__law_shares_1 : BlkOk N__law_shares (defScope (st__law_shares)) { kind := PySem.ScopeKind.function, names := [(".0", PySem.NameKind.local), ("one", PySem.NameKind.local), ("_law_take", PySem.NameKind.globalImplicit), ("well", PySem.NameKind.free)], isGenerator := false, isCoroutine := false, more := [] : PySem.Scope } [("one", 3)] := ⟨rfl, by decide +kernel, by decide +kernel, by decide +kernel, by decide +kernel⟩
theorem bk__law_shares_2 : BlkOk N__law_shares (defScope (st__law_shares)) { kind := PySem.ScopeKind.function, names := [(".0", PySem.NameKind.local), ("part", PySem.NameKind.local), ("_law_part", PySem.NameKind.globalImplicit), ("sum", PySem.NameKind.globalImplicit), ("parts", PySem.NameKind.free)], isGenerator := false, isCoroutine := false, more := [] : PySem.Scope } [("part", 4)] := ⟨rfl, by decide +kernel, by decide +kernel, by decide +kernel, by decide +kernel⟩
theorem ok__law_shares {f : Addr} {fd : FuncData} {Φ : Str → List S → FR} {k : Nat} (F : Fun K "_law_shares" "_law_shares" st__law_shares f fd) (wd : Wd Φ GG FS BS k P w K mg base) : FnOk P w K mg base (L2.CX P w) (k + 1) f fd ["well", "many"] (spF K mg (runFn Φ GG fu fn__law_shares) 2) :=
  fn_ok F sc__law_shares rfl rfl rfl (by decide) wd fun cdv A outer s H E cok hp =>
  (sp_cons (sp_asg (so_lc (own := [("one", 3)]) (tgs := [3]) (one := true) cok (so_r1 cok rfl b_range rfl (so_v n_many rfl (.inl rfl))) bk__law_shares_1 (fun _ _ _ _ _ => (tg_1 cok.nd rfl (.inl rfl) (.inr rfl))) (fun _ _ _ _ _ cb => so_if0) (fun _ _ _ _ _ cb => (so_fn n__law_take cb m__law_take rfl (so_args (so_av n_well rfl (.inr (.inl rfl)) (so_acons so_int so_anil)))))) (tg_nm cok.nd rfl (.inr rfl) (.inl rfl)))
  (sp_cons (sp_asg (so_bin (so_t so_int) (so_t (so_fn n__law_take cok m__law_take rfl (so_args (so_av n_well rfl (.inr (.inl rfl)) (so_acons so_int so_anil)))))) (tg_ix (W := fun cls d _ H => E cls d H) rfl (.inr (.inl rfl)) (so_t (so_fn n__law_take cok m__law_take rfl (so_args (so_av n_well rfl (.inr (.inl rfl)) (so_av n_many rfl (.inl rfl) so_anil))))) n_parts.d n_parts.c))
  (sp_cons (sp_ret (so_bi cok b_tuple rfl rfl v_tuple (so_t (so_lc (own := [("part", 4)]) (tgs := [4]) (one := true) cok (so_seq (so_v n_parts rfl (.inr (.inl rfl)))) bk__law_shares_2 (fun _ _ _ _ _ => (tg_1 cok.nd rfl (.inl rfl) (.inr rfl))) (fun _ _ _ _ _ cb => so_if0) (fun _ _ _ _ _ cb => (so_fn n__law_part cb m__law_part rfl (so_args (so_av n_part rfl (.inl rfl) (so_acons (so_bi cb b_sum rfl rfl v_sum (so_o n_parts rfl (.inr (.inl rfl)))) so_anil)))))))))
  sp_nil)))
abbrev st__law_contraction : Stmt := topS 64
abbrev N__law_contraction : List Str := ["table", "one", "two", "rows", "found", "each"]
theorem sc__law_contraction : FnScope N__law_contraction ["table"] (defScope st__law_contraction) := ⟨rfl, rfl, rfl, by decide +kernel, rfl, by decide +kernel, by decide +kernel⟩
theorem bk__law_contraction_1 : BlkOk N__law_contraction (defScope (st__law_contraction)) { kind := PySem.ScopeKind.function, names := [(".0", PySem.NameKind.local), ("one", PySem.NameKind.cell), ("range", PySem.NameKind.globalImplicit), ("len", PySem.NameKind.globalImplicit), ("table", PySem.NameKind.free)], isGenerator := false, isCoroutine := false, more := [] : PySem.Scope } [("one", 1)] := ⟨rfl, by decide +kernel, by decide +kernel, by decide +kernel, by decide +kernel⟩
theorem bk__law_contraction_2 : BlkOk N__law_contraction { kind := PySem.ScopeKind.function, names := [(".0", PySem.NameKind.local), ("one", PySem.NameKind.cell), ("range", PySem.NameKind.globalImplicit), ("len", PySem.NameKind.globalImplicit), ("table", PySem.NameKind.cell)], isGenerator := false, isCoroutine := false, more := [] : PySem.Scope } { kind := PySem.ScopeKind.function, names := [(".0", PySem.NameKind.local), ("two", PySem.NameKind.local), ("_law_chance", PySem.NameKind.globalImplicit), ("one", PySem.NameKind.free), ("table", PySem.NameKind.free)], isGenerator := false, isCoroutine := false, more := [] : PySem.Scope } [("two", 2)] := ⟨rfl, by decide +kernel, by decide +kernel, by decide +kernel, by decide +kernel⟩
theorem ok__law_contraction {f : Addr} {fd : FuncData} {Φ : Str → List S → FR} {k : Nat} (F : Fun K "_law_contraction" "_law_contraction" st__law_contraction f fd) (wd : Wd Φ GG FS BS k P w K mg base) : FnOk P w K mg base (L2.CX P w) (k + 1) f fd ["table"] (spF K mg (runFn Φ GG fu fn__law_contraction) 1) :=
  fn_ok F sc__law_contraction rfl rfl rfl (by decide) wd fun cdv A outer s H E cok hp =>
  (sp_cons (sp_lc (own := [("one", 1)]) (tgs := [1]) (one := true) cok rfl rfl rfl (so_r1 cok rfl b_range rfl (so_bi cok b_len rfl rfl v_len (so_o n_table rfl (.inr (.inl rfl))))) bk__law_contraction_1 (fun _ _ _ _ _ => (tg_1 cok.nd rfl (.inr rfl) (.inl rfl))) (fun _ _ _ _ _ cb => so_if0) (fun _ _ _ _ _ cb => (so_lc (own := [("two", 2)]) (tgs := [2]) (one := true) cb (so_r1 cb rfl b_range rfl (so_bi cb b_len rfl rfl v_len (so_o n_table rfl (.inr (.inl rfl))))) bk__law_contraction_2 (fun _ _ _ _ _ => (tg_1 cb.nd rfl (.inl rfl) (.inr rfl))) (fun _ _ _ _ _ cb => so_if0) (fun _ _ _ _ _ cb => (so_fn n__law_chance cb m__law_chance rfl (so_args (so_av n_table rfl (.inr (.inl rfl)) (so_av n_one rfl (.inr (.inl rfl)) (so_av n_two rfl (.inl rfl) so_anil)))))))))
  (sp_cons (sp_asg (so_tup (so_cons so_int (so_cons so_int so_nil))) (tg_nm cok.nd rfl (.inl rfl) (.inl rfl)))
  (sp_cons (sp_for (tgs := [1]) (one := true) hp cok.calm (so_seq (so_v n_rows rfl (.inl rfl))) (tg_1 cok.nd rfl (.inl rfl) (.inr rfl)) (sp_cons (sp_forv (tgs := [2]) (one := true) hp cok.calm (iv_seq n_rows rfl (.inl rfl)) (tg_1 cok.nd rfl (.inl rfl) (.inr rfl)) (sp_cons (sp_asg (so_fn n__law_apart cok m__law_apart rfl (so_args (so_av n_one rfl (.inl rfl) (so_av n_two rfl (.inl rfl) so_anil)))) (tg_nm cok.nd rfl (.inl rfl) (.inl rfl)))
  (sp_cons (sp_asg (so_ife (so_tr (so_t (so_fn n__law_is_below cok m__law_is_below rfl (so_args (so_av n_found rfl (.inl rfl) (so_av n_each rfl (.inl rfl) so_anil)))))) (so_v n_each rfl (.inl rfl)) (so_v n_found rfl (.inl rfl))) (tg_nm cok.nd rfl (.inl rfl) (.inl rfl)))
  sp_nil)))
  sp_nil))
  (sp_cons (sp_rv n_found rfl (.inl rfl))
  sp_nil))))
abbrev st__law_is_told : Stmt := topS 65
abbrev N__law_is_told : List Str := ["well", "table", "many", "one", "two", "three", "told", "due", "own", "rows", "alike", "common", "first", "second", "place", "to", "row"]
theorem sc__law_is_told : FnScope N__law_is_told ["well", "table"] (defScope st__law_is_told) := ⟨rfl, rfl, rfl, by decide +kernel, rfl, by decide +kernel, by decide +kernel⟩
theorem bk__law_is_told_1 : BlkOk N__law_is_told (defScope (st__law_is_told)) { kind := PySem.ScopeKind.function, names := [(".0", PySem.NameKind.local), ("place", PySem.NameKind.cell), ("range", PySem.NameKind.globalImplicit), ("many", PySem.NameKind.free), ("table", PySem.NameKind.free)], isGenerator := false, isCoroutine := false, more := [] : PySem.Scope } [("place", 14)] := ⟨rfl, by decide +kernel, by decide +kernel, by decide +kernel, by decide +kernel⟩
theorem bk__law_is_told_2 : BlkOk N__law_is_told { kind := PySem.ScopeKind.function, names := [(".0", PySem.NameKind.local), ("place", PySem.NameKind.cell), ("range", PySem.NameKind.globalImplicit), ("many", PySem.NameKind.cell), ("table", PySem.NameKind.cell)], isGenerator := false, isCoroutine := false, more := [] : PySem.Scope } { kind := PySem.ScopeKind.function, names := [(".0", PySem.NameKind.local), ("to", PySem.NameKind.local), ("_law_chance", PySem.NameKind.globalImplicit), ("place", PySem.NameKind.free), ("table", PySem.NameKind.free)], isGenerator := false, isCoroutine := false, more := [] : PySem.Scope } [("to", 15)] := ⟨rfl, by decide +kernel, by decide +kernel, by decide +kernel, by decide +kernel⟩
theorem bk__law_is_told_3 : BlkOk N__law_is_told (defScope (st__law_is_told)) { kind := PySem.ScopeKind.function, names := [(".0", PySem.NameKind.local), ("row", PySem.NameKind.local), ("rows", PySem.NameKind.free)], isGenerator := false, isCoroutine := false, more := [] : PySem.Scope } [("row", 16)] := ⟨rfl, by decide +kernel, by decide +kernel, by decide +kernel, by decide +kernel⟩
theorem bk__law_is_told_4 : BlkOk N__law_is_told (defScope (st__law_is_told)) { kind := PySem.ScopeKind.function, names := [(".0", PySem.NameKind.local), ("to", PySem.NameKind.local), ("first", PySem.NameKind.free), ("second", PySem.NameKind.free), ("table", PySem.NameKind.free)], isGenerator := false, isCoroutine := false, more := [] : PySem.Scope } [("to", 15)] := ⟨rfl, by decide +kernel, by decide +kernel, by decide +kernel, by decide +kernel⟩
theorem ok__law_is_told {f : Addr} {fd : FuncData} {Φ : Str → List S → FR} {k : Nat} (F : Fun K "_law_is_told" "_law_is_told" st__law_is_told f fd) (wd : Wd Φ GG FS BS k P w K mg base) : FnOk P w K mg base (L2.CX P w) (k + 1) f fd ["well", "table"] (spF K mg (runFn Φ GG fu fn__law_is_told) 2) :=
  fn_ok F sc__law_is_told rfl rfl rfl (by decide) wd fun cdv A outer s H E cok hp =>
  (sp_cons (sp_asg (so_bi cok b_len rfl rfl v_len (so_o n_table rfl (.inr (.inl rfl)))) (tg_nm cok.nd rfl (.inr rfl) (.inl rfl)))
  (sp_cons (sp_par3 cok.calm cok.nd rfl rfl rfl (by decide) (by decide) (by decide) rfl rfl rfl (so_cons (so_fn n__law_shares cok m__law_shares rfl (so_args (so_av n_well rfl (.inl rfl) (so_av n_many rfl (.inr (.inl rfl)) so_anil)))) (so_cons (so_fn n__law_shares cok m__law_shares rfl (so_args (so_av n_well rfl (.inl rfl) (so_av n_many rfl (.inr (.inl rfl)) so_anil)))) (so_cons (so_fn n__law_shares cok m__law_shares rfl (so_args (so_av n_well rfl (.inl rfl) (so_av n_many rfl (.inr (.inl rfl)) so_anil)))) so_nil))) rfl)
  (sp_cons (sp_asg (so_ife (so_cmpT cok.hu (so_t (so_fn n__law_take cok m__law_take rfl (so_args (so_av n_well rfl (.inl rfl) (so_acons so_int so_anil))))) (so_t so_int) rfl) (so_fn n_apart cok m_apart rfl (so_args (so_av n_table rfl (.inr (.inl rfl)) (so_av n_one rfl (.inl rfl) (so_av n_two rfl (.inl rfl) so_anil))))) (so_callk0 (q0 := kw_0) cok m_apart k_0 rfl rfl (sk_cons (so_v n_two rfl (.inl rfl)) (sk_cons (so_v n_one rfl (.inl rfl)) (sk_cons (so_v n_table rfl (.inr (.inl rfl))) sk_nil))))) (tg_nm cok.nd rfl (.inl rfl) (.inl rfl)))
  (sp_cons (sp_if (PW.pt (so_orT (so_notT (so_tr (so_t (so_fn n__law_same cok m__law_same rfl (so_args (so_acons (so_lst (so_cons (so_v n_told rfl (.inl rfl)) (so_cons (so_fn n_apart cok m_apart rfl (so_args (so_av n_table rfl (.inr (.inl rfl)) (so_av n_two rfl (.inl rfl) (so_av n_one rfl (.inl rfl) so_anil))))) so_nil))) (so_acons (so_bin (so_t (so_lst (so_cons (so_fn n__law_apart cok m__law_apart rfl (so_args (so_av n_one rfl (.inl rfl) (so_av n_two rfl (.inl rfl) so_anil)))) so_nil))) (so_t so_int)) so_anil))))))) (pw_or1 (so_cmpT cok.hu (so_t (so_cmp cok.hu (so_o n_told rfl (.inl rfl)) (so_t (so_tup (so_cons so_int (so_cons so_int so_nil)))) rfl)) (so_t (so_cmp cok.hu (so_o n_one rfl (.inl rfl)) (so_o n_two rfl (.inl rfl)) rfl)) rfl)))) (sp_cons (sp_ret so_bl)
  sp_nil) sp_nil)
  (sp_cons (sp_if (PW.pt (so_orT (so_tr (so_t (so_fn n__law_is_below cok m__law_is_below rfl (so_args (so_acons (so_fn n__law_plus cok m__law_plus rfl (so_args (so_acons (so_fn n_apart cok m_apart rfl (so_args (so_av n_table rfl (.inr (.inl rfl)) (so_av n_one rfl (.inl rfl) (so_av n_three rfl (.inl rfl) so_anil))))) (so_acons (so_fn n_apart cok m_apart rfl (so_args (so_av n_table rfl (.inr (.inl rfl)) (so_av n_three rfl (.inl rfl) (so_av n_two rfl (.inl rfl) so_anil))))) so_anil)))) (so_av n_told rfl (.inl rfl) so_anil)))))) (pw_or1 (so_tr (so_t (so_fn n__law_is_below cok m__law_is_below rfl (so_args (so_acons (so_tup (so_cons so_int (so_cons so_int so_nil))) (so_av n_told rfl (.inl rfl) so_anil))))))))) (sp_cons (sp_ret so_bl)
  sp_nil) sp_nil)
  (sp_cons (sp_asg (so_fn n__law_contraction cok m__law_contraction rfl (so_args (so_av n_table rfl (.inr (.inl rfl)) so_anil))) (tg_nm cok.nd rfl (.inl rfl) (.inl rfl)))
  (sp_cons (sp_asg (so_ife (so_cmpT cok.hu (so_t (so_fn n__law_take cok m__law_take rfl (so_args (so_av n_well rfl (.inl rfl) (so_acons so_int so_anil))))) (so_t so_int) rfl) (so_fn n_contraction cok m_contraction rfl (so_args (so_av n_table rfl (.inr (.inl rfl)) so_anil))) (so_callk0 (q0 := kw_1) cok m_contraction k_1 rfl rfl (sk_cons (so_v n_table rfl (.inr (.inl rfl))) sk_nil))) (tg_nm cok.nd rfl (.inl rfl) (.inl rfl)))
  (sp_cons (sp_if (PW.pt (so_orT (so_notT (so_tr (so_t (so_fn n__law_same cok m__law_same rfl (so_args (so_av n_own rfl (.inl rfl) (so_av n_due rfl (.inl rfl) so_anil))))))) (pw_or1 (so_tr (so_t (so_fn n__law_is_below cok m__law_is_below rfl (so_args (so_acons (so_fn n__law_by cok m__law_by rfl (so_args (so_av n_due rfl (.inl rfl) (so_av n_told rfl (.inl rfl) so_anil)))) (so_acons (so_fn n_apart cok m_apart rfl (so_args (so_av n_table rfl (.inr (.inl rfl)) (so_acons (so_fn n_led cok m_led rfl (so_args (so_av n_table rfl (.inr (.inl rfl)) (so_av n_one rfl (.inl rfl) (so_acons so_int so_anil))))) (so_acons (so_fn n_led cok m_led rfl (so_args (so_av n_table rfl (.inr (.inl rfl)) (so_av n_two rfl (.inl rfl) (so_acons so_int so_anil))))) so_anil))))) so_anil))))))))) (sp_cons (sp_ret so_bl)
  sp_nil) sp_nil)
  (sp_cons (sp_asg (so_lc (own := [("place", 14)]) (tgs := [14]) (one := true) cok (so_r1 cok rfl b_range rfl (so_v n_many rfl (.inr (.inl rfl)))) bk__law_is_told_1 (fun _ _ _ _ _ => (tg_1 cok.nd rfl (.inr rfl) (.inl rfl))) (fun _ _ _ _ _ cb => so_if0) (fun _ _ _ _ _ cb => (so_lc (own := [("to", 15)]) (tgs := [15]) (one := true) cb (so_r1 cb rfl b_range rfl (so_v n_many rfl (.inr (.inl rfl)))) bk__law_is_told_2 (fun _ _ _ _ _ => (tg_1 cb.nd rfl (.inl rfl) (.inr rfl))) (fun _ _ _ _ _ cb => so_if0) (fun _ _ _ _ _ cb => (so_fn n__law_chance cb m__law_chance rfl (so_args (so_av n_table rfl (.inr (.inl rfl)) (so_av n_place rfl (.inr (.inl rfl)) (so_av n_to rfl (.inl rfl) so_anil))))))))) (tg_nm cok.nd rfl (.inr rfl) (.inl rfl)))
  (sp_cons (sp_par cok.calm cok.nd rfl rfl (by decide) rfl rfl (so_cons (so_bi cok b_all rfl rfl v_all (so_t (so_lc (own := [("row", 16)]) (tgs := [16]) (one := true) cok (so_seq (so_v n_rows rfl (.inr (.inl rfl)))) bk__law_is_told_3 (fun _ _ _ _ _ => (tg_1 cok.nd rfl (.inl rfl) (.inr rfl))) (fun _ _ _ _ _ cb => so_if0) (fun _ _ _ _ _ cb => (so_cmp cb.hu (so_o n_row rfl (.inl rfl)) (so_t (so_ix (so_o n_rows rfl (.inr (.inl rfl))) (so_t so_int))) rfl))))) (so_cons so_bl so_nil)) rfl)
  (sp_cons (sp_for (tgs := [12]) (one := true) hp cok.calm (so_r1 cok rfl b_range rfl (so_v n_many rfl (.inr (.inl rfl)))) (tg_1 cok.nd rfl (.inr rfl) (.inl rfl)) (sp_cons (sp_for (tgs := [13]) (one := true) hp cok.calm (so_r1 cok rfl b_range rfl (so_v n_many rfl (.inr (.inl rfl)))) (tg_1 cok.nd rfl (.inr rfl) (.inl rfl)) (sp_cons (sp_asg (so_and (so_v n_common rfl (.inl rfl)) (so_one (so_bi cok b_any rfl rfl v_any (so_t (so_lc (own := [("to", 15)]) (tgs := [15]) (one := true) cok (so_r1 cok rfl b_range rfl (so_v n_many rfl (.inr (.inl rfl)))) bk__law_is_told_4 (fun _ _ _ _ _ => (tg_1 cok.nd rfl (.inl rfl) (.inr rfl))) (fun _ _ _ _ _ cb => so_if0) (fun _ _ _ _ _ cb => (so_and (so_cmp cb.hu (so_t (so_ix (so_t (so_ix (so_o n_table rfl (.inr (.inl rfl))) (so_o n_first rfl (.inr (.inl rfl))))) (so_o n_to rfl (.inl rfl)))) (so_t so_int) rfl) (so_one (so_cmp cb.hu (so_t (so_ix (so_t (so_ix (so_o n_table rfl (.inr (.inl rfl))) (so_o n_second rfl (.inr (.inl rfl))))) (so_o n_to rfl (.inl rfl)))) (so_t so_int) rfl))))))))) (tg_nm cok.nd rfl (.inl rfl) (.inl rfl)))
  sp_nil))
  sp_nil))
  (sp_cons (sp_ret (so_and (so_cmp cok.hu (so_t (so_cmp cok.hu (so_o n_own rfl (.inl rfl)) (so_t (so_tup (so_cons so_int (so_cons so_int so_nil)))) rfl)) (so_o n_alike rfl (.inl rfl)) rfl) (so_one (so_cmp cok.hu (so_t (so_fn n__law_is_below cok m__law_is_below rfl (so_args (so_av n_own rfl (.inl rfl) (so_acons (so_tup (so_cons so_int (so_cons so_int so_nil))) so_anil))))) (so_o n_common rfl (.inl rfl)) rfl))))
  sp_nil))))))))))))
abbrev st__law_right : Stmt := topS 66
abbrev N__law_right : List Str := ["well", "turn", "row", "alike", "place", "each"]
theorem sc__law_right : FnScope N__law_right ["well"] (defScope st__law_right) := ⟨rfl, rfl, rfl, by decide +kernel, rfl, by decide +kernel, by decide +kernel⟩
theorem bk__law_right_1 : BlkOk N__law_right (defScope (st__law_right)) { kind := PySem.ScopeKind.function, names := [(".0", PySem.NameKind.local), ("place", PySem.NameKind.local), ("_law_take", PySem.NameKind.globalImplicit), ("well", PySem.NameKind.free)], isGenerator := false, isCoroutine := false, more := [] : PySem.Scope } [("place", 4)] := ⟨rfl, by decide +kernel, by decide +kernel, by decide +kernel, by decide +kernel⟩
theorem bk__law_right_2 : BlkOk N__law_right (defScope (st__law_right)) { kind := PySem.ScopeKind.function, names := [(".0", PySem.NameKind.local), ("each", PySem.NameKind.local)], isGenerator := false, isCoroutine := false, more := [] : PySem.Scope } [("each", 5)] := ⟨rfl, by decide +kernel, by decide +kernel, by decide +kernel, by decide +kernel⟩
theorem ok__law_right {f : Addr} {fd : FuncData} {Φ : Str → List S → FR} {k : Nat} (F : Fun K "_law_right" "_law_right" st__law_right f fd) (wd : Wd Φ GG FS BS k P w K mg base) : FnOk P w K mg base (L2.CX P w) (k + 1) f fd ["well"] (spF K mg (runFn Φ GG fu fn__law_right) 1) :=
  fn_ok F sc__law_right rfl rfl rfl (by decide) wd fun cdv A outer s H E cok hp =>
  (sp_cons (sp_for (tgs := [1]) (one := true) hp cok.calm (so_r1 cok rfl b_range rfl so_int) (tg_1 cok.nd rfl (.inl rfl) (.inr rfl)) (sp_cons (sp_if (so_notT (so_tr (so_t (so_fn n__law_is_told cok m__law_is_told rfl (so_args (so_av n_well rfl (.inr (.inl rfl)) (so_acons (so_fn n__law_table cok m__law_table rfl (so_args (so_av n_well rfl (.inr (.inl rfl)) (so_acons so_int so_anil)))) so_anil))))))) (sp_cons (sp_ret so_bl)
  sp_nil) sp_nil)
  sp_nil))
  (sp_cons (sp_asg (so_bi cok b_tuple rfl rfl v_tuple (so_t (so_lc (own := [("place", 4)]) (tgs := [4]) (one := true) cok (so_r1 cok rfl b_range rfl so_int) bk__law_right_1 (fun _ _ _ _ _ => (tg_1 cok.nd rfl (.inl rfl) (.inr rfl))) (fun _ _ _ _ _ cb => so_if0) (fun _ _ _ _ _ cb => (so_bin (so_t so_int) (so_t (so_fn n__law_take cb m__law_take rfl (so_args (so_av n_well rfl (.inr (.inl rfl)) (so_acons so_int so_anil)))))))))) (tg_nm cok.nd rfl (.inl rfl) (.inl rfl)))
  (sp_cons (sp_asg (so_tup (so_cons (so_v n_row rfl (.inl rfl)) (so_cons (so_bi cok b_tuple rfl rfl v_tuple (so_t (so_lc (own := [("each", 5)]) (tgs := [5]) (one := true) cok (so_seq (so_v n_row rfl (.inl rfl))) bk__law_right_2 (fun _ _ _ _ _ => (tg_1 cok.nd rfl (.inl rfl) (.inr rfl))) (fun _ _ _ _ _ cb => so_if0) (fun _ _ _ _ _ cb => (so_bin (so_t so_int) (so_o n_each rfl (.inl rfl))))))) (so_cons (so_v n_row rfl (.inl rfl)) so_nil)))) (tg_nm cok.nd rfl (.inl rfl) (.inl rfl)))
  (sp_cons (sp_ret (so_and (so_fn n__law_is_told cok m__law_is_told rfl (so_args (so_av n_well rfl (.inr (.inl rfl)) (so_av n_alike rfl (.inl rfl) so_anil)))) (so_one (so_fn n__law_same cok m__law_same rfl (so_args (so_acons (so_lst (so_cons (so_fn n_contraction cok m_contraction rfl (so_args (so_av n_alike rfl (.inl rfl) so_anil))) (so_cons (so_fn n_contraction cok m_contraction rfl (so_args (so_acons (so_tup (so_cons (so_tup (so_cons so_int so_nil)) so_nil)) so_anil))) (so_cons (so_fn n_contraction cok m_contraction rfl (so_args (so_acons (so_tup (so_cons (so_tup (so_cons so_int (so_cons so_int so_nil))) (so_cons (so_tup (so_cons so_int (so_cons so_int so_nil))) so_nil))) so_anil))) so_nil)))) (so_acons (so_lst (so_cons (so_tup (so_cons so_int (so_cons so_int so_nil))) (so_cons (so_tup (so_cons so_int (so_cons so_int so_nil))) (so_cons (so_tup (so_cons so_int (so_cons so_int so_nil))) so_nil)))) so_anil)))))))
  sp_nil))))
abbrev st_law : Stmt := topS 67
abbrev N_law : List Str := ["script", "lap"]
theorem sc_law : FnScope N_law ["script"] (defScope st_law) := ⟨rfl, rfl, rfl, by decide +kernel, rfl, by decide +kernel, by decide +kernel⟩
theorem bk_law_1 : BlkOk N_law (defScope (st_law)) { kind := PySem.ScopeKind.function, names := [(".0", PySem.NameKind.local), ("lap", PySem.NameKind.local), ("_law_right", PySem.NameKind.globalImplicit), ("_law_well", PySem.NameKind.globalImplicit), ("script", PySem.NameKind.free)], isGenerator := false, isCoroutine := false, more := [] : PySem.Scope } [("lap", 1)] := ⟨rfl, by decide +kernel, by decide +kernel, by decide +kernel, by decide +kernel⟩
theorem ok_law {f : Addr} {fd : FuncData} {Φ : Str → List S → FR} {k : Nat} (F : Fun K "law" "law" st_law f fd) (wd : Wd Φ GG FS BS k P w K mg base) : FnOk P w K mg base (L2.CX P w) (k + 1) f fd ["script"] (spF K mg (runFn Φ GG fu fn_law) 1) :=
  fn_ok F sc_law rfl rfl rfl (by decide) wd fun cdv A outer s H E cok hp =>
  (sp_cons (sp_ret (so_bi cok b_all rfl rfl v_all (so_t (so_lc (own := [("lap", 1)]) (tgs := [1]) (one := true) cok (so_r1 cok rfl b_range rfl (so_bi2 cok b_max rfl rfl w_max (so_t so_int) (so_t (so_bi2 cok b_min rfl rfl w_min (so_t (so_bi cok b_len rfl rfl v_len (so_o n_script rfl (.inr (.inl rfl))))) (so_t so_int))))) bk_law_1 (fun _ _ _ _ _ => (tg_1 cok.nd rfl (.inl rfl) (.inr rfl))) (fun _ _ _ _ _ cb => so_if0) (fun _ _ _ _ _ cb => (so_fn n__law_right cb m__law_right rfl (so_args (so_acons (so_fn n__law_well cb m__law_well rfl (so_args (so_av n_script rfl (.inr (.inl rfl)) (so_av n_lap rfl (.inl rfl) so_anil)))) so_anil))))))))
  sp_nil)
end
end Law

set_option Elab.async false
set_option linter.all false
set_option maxRecDepth 100000
set_option maxHeartbeats 8000000
namespace Law
open PySem PySem.Spec PyProof.Rows L2 RZ Eng
/-! ### what may stand anywhere -/
mutual
def nofn : D → Bool
  | .fn _ => false | .tup ds => nofns ds | .lst ds => nofns ds | .dct _ vs => nofns vs | _ => true
def nofns : List D → Bool | [] => true | d :: ds => nofn d && nofns ds
end
theorem nofns_mem : ∀ {ds : List D}, nofns ds = true → ∀ d, d ∈ ds → nofn d = true
  | [], _, d, h => nomatch h
  | e :: ds, h, d, hd => by
    simp only [nofns, Bool.and_eq_true] at h
    rcases List.mem_cons.mp hd with z | z
    · rw [z]; exact h.1
    · exact nofns_mem h.2 d z
def isW : D → Bool | .int _ => true | _ => false
theorem c_is_whole (n : Nat) (d : D) (h : nofn d = true) : callN TT GG FU (n + 1) "is_whole" [.dat d] = .ret (.dat (.bl (isW d))) [some (.dat d)] := by
  rw [s_is_whole]
  unfold fn_is_whole ir_is_whole
  cases d with
  | fn x => cases h
  | _ =>
    simp (disch := first | assumption | (with_unfolding_all exact Eng.bf_of rfl) | omega | (with_unfolding_all exact of_decide_eq_true rfl) | (simp only [List.length_map, List.length_append, List.length_take, List.length_drop, List.length_cons, List.length_nil, List.length_replicate, SZ]; omega)) only [Eng.RU, Nat.reduceAdd, Nat.reduceSub, Nat.reduceLeDiff, decide_true, decide_false]
    rfl
def btw (d : D) (lo hi : Int) : Bool := match d with | .int i => decide (lo ≤ i) && decide (i ≤ hi) | _ => false
theorem c_is_between (n : Nat) (d : D) (lo hi : Int) (h : nofn d = true) : callN TT GG FU (n + 2) "is_between" [.dat d, .dat (.int lo), .dat (.int hi)] = .ret (.dat (.bl (btw d lo hi))) [some (.dat d), some (.dat (.int lo)), some (.dat (.int hi))] := by
  rw [s_is_between]
  unfold fn_is_between ir_is_between
  cases d with
  | int i =>
    simp (disch := first | assumption | (with_unfolding_all exact Eng.bf_of rfl) | omega | (with_unfolding_all exact of_decide_eq_true rfl) | (simp only [List.length_map, List.length_append, List.length_take, List.length_drop, List.length_cons, List.length_nil, List.length_replicate, SZ]; omega)) only [Eng.RU, Nat.reduceAdd, Nat.reduceSub, Nat.reduceLeDiff, decide_true, decide_false, c_is_whole, isW]
    by_cases h1 : lo ≤ i
    · simp (disch := first | assumption | (with_unfolding_all exact Eng.bf_of rfl) | omega | (with_unfolding_all exact of_decide_eq_true rfl) | (simp only [List.length_map, List.length_append, List.length_take, List.length_drop, List.length_cons, List.length_nil, List.length_replicate, SZ]; omega)) only [Eng.RU, Nat.reduceAdd, Nat.reduceSub, Nat.reduceLeDiff, decide_true, decide_false, h1, decide_true]
      simp [btw, h1]
    · simp (disch := first | assumption | (with_unfolding_all exact Eng.bf_of rfl) | omega | (with_unfolding_all exact of_decide_eq_true rfl) | (simp only [List.length_map, List.length_append, List.length_take, List.length_drop, List.length_cons, List.length_nil, List.length_replicate, SZ]; omega)) only [Eng.RU, Nat.reduceAdd, Nat.reduceSub, Nat.reduceLeDiff, decide_true, decide_false, h1, decide_false]
      simp [btw, h1]
  | fn x => cases h
  | _ =>
    simp (disch := first | assumption | (with_unfolding_all exact Eng.bf_of rfl) | omega | (with_unfolding_all exact of_decide_eq_true rfl) | (simp only [List.length_map, List.length_append, List.length_take, List.length_drop, List.length_cons, List.length_nil, List.length_replicate, SZ]; omega)) only [Eng.RU, Nat.reduceAdd, Nat.reduceSub, Nat.reduceLeDiff, decide_true, decide_false, c_is_whole, isW]
    rfl
def isTup (d : D) (m : Int) : Bool := match d with | .tup xs => decide ((xs.length : Int) = m) | _ => false
theorem c_is_tuple_of (n : Nat) (d : D) (m : Int) (h : nofn d = true) : callN TT GG FU (n + 1) "is_tuple_of" [.dat d, .dat (.int m)] = .ret (.dat (.bl (isTup d m))) [some (.dat d), some (.dat (.int m))] := by
  rw [s_is_tuple_of]
  unfold fn_is_tuple_of ir_is_tuple_of
  cases d with
  | fn x => cases h
  | tup xs =>
    simp (disch := first | assumption | (with_unfolding_all exact Eng.bf_of rfl) | omega | (with_unfolding_all exact of_decide_eq_true rfl) | (simp only [List.length_map, List.length_append, List.length_take, List.length_drop, List.length_cons, List.length_nil, List.length_replicate, SZ]; omega)) only [Eng.RU, Nat.reduceAdd, Nat.reduceSub, Nat.reduceLeDiff, decide_true, decide_false]
    rfl
  | _ =>
    simp (disch := first | assumption | (with_unfolding_all exact Eng.bf_of rfl) | omega | (with_unfolding_all exact of_decide_eq_true rfl) | (simp only [List.length_map, List.length_append, List.length_take, List.length_drop, List.length_cons, List.length_nil, List.length_replicate, SZ]; omega)) only [Eng.RU, Nat.reduceAdd, Nat.reduceSub, Nat.reduceLeDiff, decide_true, decide_false]
    rfl
end Law

set_option Elab.async false
set_option linter.all false
set_option maxRecDepth 100000
set_option maxHeartbeats 8000000
namespace Law
open PySem PySem.Spec PyProof.Rows L2 RZ Eng
/-! ### fractions -/
theorem c_fraction (n : Nat) {a b : Int} {k : Nat} (hb : 0 < b) (hk : b < 2 ^ k) (h : k < 9000) : callN TT GG FU (n + 1) "fraction" [.dat (.int a), .dat (.int b)] = .ret (.dat (fr (Rat.divInt a b))) [some (.dat (.int a)), some (.dat (.int b))] := by
  rw [s_fraction]
  unfold fn_fraction ir_fraction
  have hg := gcd_pos (a := a) hb
  have hl := gcd_log (a := a) hb hk
  have f1 : ∀ i : Int, binS .FloorDiv (.dat (.int i)) (.dat (.int ((Int.gcd a b : Nat) : Int))) = some (.dat (.int (i / ((Int.gcd a b : Nat) : Int)))) := fun i => fdv_i ⟨hg, by omega⟩
  simp (disch := first | assumption | (with_unfolding_all exact Eng.bf_of rfl) | omega | (with_unfolding_all exact of_decide_eq_true rfl) | (simp only [List.length_map, List.length_append, List.length_take, List.length_drop, List.length_cons, List.length_nil, List.length_replicate, SZ]; omega)) only [Eng.RU, Nat.reduceAdd, Nat.reduceSub, Nat.reduceLeDiff, decide_true, decide_false, f1]
  unfold fr
  rw [dv_num hb, dv_den hb]
theorem two_mul_lt {i j : Int} {k l : Nat} (h1 : i.natAbs.log2 ≤ k) (h2 : j.natAbs.log2 ≤ l) (h : k + l < 1000000) : binS .Mult (.dat (.int i)) (.dat (.int j)) = some (.dat (.int (i * j))) := mul_i (by omega)
theorem c_fraction_sum (n : Nat) {p q : Rat} {k l : Nat} (hp : Bd k p) (hq : Bd l q) (h : k + l < 9000) : callN TT GG FU (n + 2) "fraction_sum" [.dat (fr p), .dat (fr q)] = .ret (.dat (fr (p + q))) [some (.dat (fr p)), some (.dat (fr q))] := by
  rw [s_fraction_sum]
  unfold fn_fraction_sum ir_fraction_sum
  have m1 := two_mul_lt hp.num hq.den (by omega)
  have m2 := two_mul_lt hq.num hp.den (by omega)
  have m3 := two_mul_lt hp.den hq.den (by omega)
  have hd := p.den_pos
  have hd2 := q.den_pos
  have c := c_fraction n (a := p.num * q.den + q.num * p.den) (b := (p.den : Int) * q.den) (k := k + l) (Int.mul_pos (by omega) (by omega)) (lt_natAbs (natAbs_mul_lt (nat_int hp.2) (nat_int hq.2))).2 h
  rw [← sum_eq] at c
  have e1 : fr p = D.tup [.int p.num, .int (p.den : Int)] := rfl
  have e2 : fr q = D.tup [.int q.num, .int (q.den : Int)] := rfl
  rw [e1, e2]
  simp (disch := first | assumption | (with_unfolding_all exact Eng.bf_of rfl) | omega | (with_unfolding_all exact of_decide_eq_true rfl) | (simp only [List.length_map, List.length_append, List.length_take, List.length_drop, List.length_cons, List.length_nil, List.length_replicate, SZ]; omega)) only [Eng.RU, Nat.reduceAdd, Nat.reduceSub, Nat.reduceLeDiff, decide_true, decide_false, m1, m2, m3, c]
theorem c_fraction_less (n : Nat) {p q : Rat} {k l : Nat} (hp : Bd k p) (hq : Bd l q) (h : k + l < 9000) : callN TT GG FU (n + 2) "fraction_less" [.dat (fr p), .dat (fr q)] = .ret (.dat (fr (p - q))) [some (.dat (fr p)), some (.dat (fr q))] := by
  rw [s_fraction_less]
  unfold fn_fraction_less ir_fraction_less
  have m1 := two_mul_lt hp.num hq.den (by omega)
  have m2 := two_mul_lt hq.num hp.den (by omega)
  have m3 := two_mul_lt hp.den hq.den (by omega)
  have hd := p.den_pos
  have hd2 := q.den_pos
  have c := c_fraction n (a := p.num * q.den - q.num * p.den) (b := (p.den : Int) * q.den) (k := k + l) (Int.mul_pos (by omega) (by omega)) (lt_natAbs (natAbs_mul_lt (nat_int hp.2) (nat_int hq.2))).2 h
  rw [← sub_eq] at c
  have e1 : fr p = D.tup [.int p.num, .int (p.den : Int)] := rfl
  have e2 : fr q = D.tup [.int q.num, .int (q.den : Int)] := rfl
  rw [e1, e2]
  simp (disch := first | assumption | (with_unfolding_all exact Eng.bf_of rfl) | omega | (with_unfolding_all exact of_decide_eq_true rfl) | (simp only [List.length_map, List.length_append, List.length_take, List.length_drop, List.length_cons, List.length_nil, List.length_replicate, SZ]; omega)) only [Eng.RU, Nat.reduceAdd, Nat.reduceSub, Nat.reduceLeDiff, decide_true, decide_false, m1, m2, m3, c]
theorem c_fraction_times (n : Nat) {p q : Rat} {k l : Nat} (hp : Bd k p) (hq : Bd l q) (h : k + l < 9000) : callN TT GG FU (n + 2) "fraction_times" [.dat (fr p), .dat (fr q)] = .ret (.dat (fr (p * q))) [some (.dat (fr p)), some (.dat (fr q))] := by
  rw [s_fraction_times]
  unfold fn_fraction_times ir_fraction_times
  have m1 := two_mul_lt hp.num hq.num (by omega)
  have m3 := two_mul_lt hp.den hq.den (by omega)
  have hd := p.den_pos
  have hd2 := q.den_pos
  have c := c_fraction n (a := p.num * q.num) (b := (p.den : Int) * q.den) (k := k + l) (Int.mul_pos (by omega) (by omega)) (lt_natAbs (natAbs_mul_lt (nat_int hp.2) (nat_int hq.2))).2 h
  rw [← mul_eq] at c
  have e1 : fr p = D.tup [.int p.num, .int (p.den : Int)] := rfl
  have e2 : fr q = D.tup [.int q.num, .int (q.den : Int)] := rfl
  rw [e1, e2]
  simp (disch := first | assumption | (with_unfolding_all exact Eng.bf_of rfl) | omega | (with_unfolding_all exact of_decide_eq_true rfl) | (simp only [List.length_map, List.length_append, List.length_take, List.length_drop, List.length_cons, List.length_nil, List.length_replicate, SZ]; omega)) only [Eng.RU, Nat.reduceAdd, Nat.reduceSub, Nat.reduceLeDiff, decide_true, decide_false, m1, m3, c]
theorem c_is_above (n : Nat) {p q : Rat} {k l : Nat} (hp : Bd k p) (hq : Bd l q) (h : k + l < 1000000) : callN TT GG FU (n + 1) "is_above" [.dat (fr p), .dat (fr q)] = .ret (.dat (.bl (decide (q < p)))) [some (.dat (fr p)), some (.dat (fr q))] := by
  rw [s_is_above]
  unfold fn_is_above ir_is_above
  have m1 := two_mul_lt hp.num hq.den (by omega)
  have m2 := two_mul_lt hq.num hp.den (by omega)
  have e1 : fr p = D.tup [.int p.num, .int (p.den : Int)] := rfl
  have e2 : fr q = D.tup [.int q.num, .int (q.den : Int)] := rfl
  have e3 : decide (q < p) = decide (q.num * (p.den : Int) < p.num * q.den) := by
    rw [decide_eq_decide]; exact Rat.lt_iff q p
  rw [e3, e1, e2]
  simp (disch := first | assumption | (with_unfolding_all exact Eng.bf_of rfl) | omega | (with_unfolding_all exact of_decide_eq_true rfl) | (simp only [List.length_map, List.length_append, List.length_take, List.length_drop, List.length_cons, List.length_nil, List.length_replicate, SZ]; omega)) only [Eng.RU, Nat.reduceAdd, Nat.reduceSub, Nat.reduceLeDiff, decide_true, decide_false, m1, m2]
end Law

set_option Elab.async false
set_option linter.all false
set_option maxRecDepth 100000
set_option maxHeartbeats 8000000
namespace Law
open PySem PySem.Spec PyProof.Rows L2 RZ Eng
theorem Bd.sum {k : Nat} : ∀ {l : List Rat}, (∀ q ∈ l, Bd k q) → Bd ((k + 1) * l.length + 1) l.sum
  | [], _ => by
    simp only [List.sum_nil]
    exact ⟨by simp, by simp⟩
  | q :: l, h => by
    have h1 := h q List.mem_cons_self
    have h2 := Bd.sum (l := l) fun q hq => h q (List.mem_cons_of_mem _ hq)
    rw [List.sum_cons]
    refine (h1.add h2).mono ?_
    rw [List.length_cons, Nat.mul_add]
    omega
theorem loop_total (n : Nat) {qs : List Rat} {k : Nat} (hq : ∀ q ∈ qs, Bd k q) (h : (k + 1) * (qs.length + 1) < 4000) (s2 : Option S) : ∃ f2, kFor (callN TT GG FU (n + 2)) GG FU [2] true lb_total_1 (qs.map fr) [s2, some (.dat (fr 0)), none] = .nx [s2, some (.dat (fr qs.sum)), f2] := by
  obtain ⟨en, h1, f2, rfl⟩ := for_nx (Φ := callN TT GG FU (n + 2)) (G := GG) (fu := FU) (tg := [2]) (one := true) (b := lb_total_1) (xs := qs.map fr) (en := [s2, some (.dat (fr 0)), none])
    (fun i en => ∃ f2, en = [s2, some (.dat (fr (qs.take i).sum)), f2]) ⟨none, by simp⟩ (by
    rintro i x en hx ⟨f2, rfl⟩
    obtain ⟨q, hq2, rfl⟩ := List.mem_map.mp (List.mem_of_getElem? hx)
    rw [List.getElem?_map] at hx
    obtain ⟨q', e1, e2⟩ := Option.map_eq_some_iff.mp hx
    rw [fr_inj e2] at e1
    have hi : i < qs.length := (List.getElem?_eq_some_iff.mp e1).1
    have b1 : Bd ((k + 1) * i + 1) (qs.take i).sum := by
      have := Bd.sum (k := k) (l := qs.take i) fun q hq3 => hq q (List.mem_of_mem_take hq3)
      rwa [List.length_take, Nat.min_eq_left (by omega)] at this
    have b2 : (k + 1) * i ≤ (k + 1) * qs.length := Nat.mul_le_mul_left _ (by omega)
    have b3 : (k + 1) * (qs.length + 1) = (k + 1) * qs.length + (k + 1) := Nat.mul_succ _ _
    have c := c_fraction_sum n b1 (hq q hq2) (by omega)
    rw [← sum_take_succ e1] at c
    unfold lb_total_1
    refine ⟨_, .inl ?_, some (.dat (fr q)), rfl⟩
    simp (disch := first | assumption | (with_unfolding_all exact Eng.bf_of rfl) | omega | (with_unfolding_all exact of_decide_eq_true rfl) | (simp only [List.length_map, List.length_append, List.length_take, List.length_drop, List.length_cons, List.length_nil, List.length_replicate, SZ]; omega)) only [Eng.RU, Nat.reduceAdd, Nat.reduceSub, Nat.reduceLeDiff, decide_true, decide_false, c])
  rw [List.length_map, List.take_length] at h1
  exact ⟨_, h1⟩
theorem c_total (n : Nat) {qs : List Rat} {k : Nat} (hq : ∀ q ∈ qs, Bd k q) (h : (k + 1) * (qs.length + 1) < 4000) : callN TT GG FU (n + 3) "total" [.ml (qs.map fr)] = .ret (.dat (fr qs.sum)) [some (.ml (qs.map fr))] := by
  rw [s_total]
  unfold fn_total ir_total
  obtain ⟨f2, h1⟩ := loop_total n hq h none
  simp (disch := first | assumption | (with_unfolding_all exact Eng.bf_of rfl) | omega | (with_unfolding_all exact of_decide_eq_true rfl) | (simp only [List.length_map, List.length_append, List.length_take, List.length_drop, List.length_cons, List.length_nil, List.length_replicate, SZ]; omega)) only [Eng.RU, Nat.reduceAdd, Nat.reduceSub, Nat.reduceLeDiff, decide_true, decide_false, x_gl g_ZERO, fr_0, h1]
end Law

set_option Elab.async false
set_option linter.all false
set_option maxRecDepth 100000
set_option maxHeartbeats 8000000
namespace Law
open PySem PySem.Spec PyProof.Rows L2 RZ Eng
def rowOk (d : D) (m : Int) : Bool := match d with | .tup xs => decide ((xs.length : Int) = m) && xs.all (btw · 0 99) && xs.any (btw · 1 99) | _ => false
theorem g_MN : GG "MOST_NUMBER" = some (.int 99) := rfl
theorem g_MP : GG "MOST_PLACES" = some (.int 6) := rfl
theorem c_is_row (n : Nat) (d : D) (m : Int) (h : nofn d = true) (hz : ∀ xs, d = .tup xs → xs.length ≤ SZ) : callN TT GG FU (n + 3) "is_row" [.dat d, .dat (.int m)] = .ret (.dat (.bl (rowOk d m))) [some (.dat d), some (.dat (.int m))] := by
  rw [s_is_row]
  unfold fn_is_row ir_is_row
  cases d with
  | fn x => cases h
  | tup xs =>
    simp (disch := first | assumption | (with_unfolding_all exact Eng.bf_of rfl) | omega | (with_unfolding_all exact of_decide_eq_true rfl) | (simp only [List.length_map, List.length_append, List.length_take, List.length_drop, List.length_cons, List.length_nil, List.length_replicate, SZ]; omega)) only [Eng.RU, Nat.reduceAdd, Nat.reduceSub, Nat.reduceLeDiff, decide_true, decide_false, c_is_tuple_of, isTup]
    by_cases h1 : (xs.length : Int) = m
    · simp (disch := first | assumption | (with_unfolding_all exact Eng.bf_of rfl) | omega | (with_unfolding_all exact of_decide_eq_true rfl) | (simp only [List.length_map, List.length_append, List.length_take, List.length_drop, List.length_cons, List.length_nil, List.length_replicate, SZ]; omega)) only [Eng.RU, Nat.reduceAdd, Nat.reduceSub, Nat.reduceLeDiff, decide_true, decide_false, h1, decide_true]
      have hn : ∀ x ∈ xs, nofn x = true := nofns_mem (by simpa [nofn] using h)
      rw [lc_map (g := fun x => D.bl (btw x 0 99)) (hz xs rfl) fun i x acc hx ha => by
        have hx2 := hn x (List.mem_of_getElem? hx)
        simp (disch := first | assumption | (with_unfolding_all exact Eng.bf_of rfl) | omega | (with_unfolding_all exact of_decide_eq_true rfl) | (simp only [List.length_map, List.length_append, List.length_take, List.length_drop, List.length_cons, List.length_nil, List.length_replicate, SZ]; omega)) only [Eng.RU, Nat.reduceAdd, Nat.reduceSub, Nat.reduceLeDiff, decide_true, decide_false, c_is_between, x_gl g_MN]]
      simp (disch := first | assumption | (with_unfolding_all exact Eng.bf_of rfl) | omega | (with_unfolding_all exact of_decide_eq_true rfl) | (simp only [List.length_map, List.length_append, List.length_take, List.length_drop, List.length_cons, List.length_nil, List.length_replicate, SZ]; omega)) only [Eng.RU, Nat.reduceAdd, Nat.reduceSub, Nat.reduceLeDiff, decide_true, decide_false]
      by_cases h2 : xs.all (btw · 0 99) = true
      · simp (disch := first | assumption | (with_unfolding_all exact Eng.bf_of rfl) | omega | (with_unfolding_all exact of_decide_eq_true rfl) | (simp only [List.length_map, List.length_append, List.length_take, List.length_drop, List.length_cons, List.length_nil, List.length_replicate, SZ]; omega)) only [Eng.RU, Nat.reduceAdd, Nat.reduceSub, Nat.reduceLeDiff, decide_true, decide_false, h2]
        rw [lc_map (g := fun x => D.bl (btw x 1 99)) (hz xs rfl) fun i x acc hx ha => by
          have hx2 := List.all_eq_true.mp h2 x (List.mem_of_getElem? hx)
          cases x with
          | int i =>
            simp [btw] at hx2
            simp (disch := first | assumption | (with_unfolding_all exact Eng.bf_of rfl) | omega | (with_unfolding_all exact of_decide_eq_true rfl) | (simp only [List.length_map, List.length_append, List.length_take, List.length_drop, List.length_cons, List.length_nil, List.length_replicate, SZ]; omega)) only [Eng.RU, Nat.reduceAdd, Nat.reduceSub, Nat.reduceLeDiff, decide_true, decide_false, btw]
            have : decide (0 < i) = (decide (1 ≤ i) && decide (i ≤ 99)) := by
              rw [decide_eq_true hx2.2, Bool.and_true]
              exact decide_eq_decide.mpr (by omega)
            rw [this]
          | _ => simp [btw] at hx2]
        simp (disch := first | assumption | (with_unfolding_all exact Eng.bf_of rfl) | omega | (with_unfolding_all exact of_decide_eq_true rfl) | (simp only [List.length_map, List.length_append, List.length_take, List.length_drop, List.length_cons, List.length_nil, List.length_replicate, SZ]; omega)) only [Eng.RU, Nat.reduceAdd, Nat.reduceSub, Nat.reduceLeDiff, decide_true, decide_false]
        simp [rowOk, h1, h2]
      · simp (disch := first | assumption | (with_unfolding_all exact Eng.bf_of rfl) | omega | (with_unfolding_all exact of_decide_eq_true rfl) | (simp only [List.length_map, List.length_append, List.length_take, List.length_drop, List.length_cons, List.length_nil, List.length_replicate, SZ]; omega)) only [Eng.RU, Nat.reduceAdd, Nat.reduceSub, Nat.reduceLeDiff, decide_true, decide_false, Bool.eq_false_iff.mpr h2]
        simp [rowOk, Bool.eq_false_iff.mpr h2]
    · simp (disch := first | assumption | (with_unfolding_all exact Eng.bf_of rfl) | omega | (with_unfolding_all exact of_decide_eq_true rfl) | (simp only [List.length_map, List.length_append, List.length_take, List.length_drop, List.length_cons, List.length_nil, List.length_replicate, SZ]; omega)) only [Eng.RU, Nat.reduceAdd, Nat.reduceSub, Nat.reduceLeDiff, decide_true, decide_false, h1, decide_false]
      simp [rowOk, h1]
  | _ =>
    simp (disch := first | assumption | (with_unfolding_all exact Eng.bf_of rfl) | omega | (with_unfolding_all exact of_decide_eq_true rfl) | (simp only [List.length_map, List.length_append, List.length_take, List.length_drop, List.length_cons, List.length_nil, List.length_replicate, SZ]; omega)) only [Eng.RU, Nat.reduceAdd, Nat.reduceSub, Nat.reduceLeDiff, decide_true, decide_false, c_is_tuple_of, isTup]
    rfl
def tab (d : D) : Bool := match d with | .tup rows => decide (1 ≤ (rows.length : Int)) && decide ((rows.length : Int) ≤ 6) && rows.all (rowOk · rows.length) | _ => false
/-- every row that is a tuple is not too long to be looked through -/
def fit (d : D) : Prop := ∀ rows, d = .tup rows → ∀ r ∈ rows, ∀ xs, r = .tup xs → xs.length ≤ SZ
def Wr (d : D) (ws : List D) : Prop := (ws = [] ↔ tab d = true) ∧ ws.all (shD 59) = true
theorem c_wrong (n : Nat) (d : D) (h : nofn d = true) (hf : fit d) : ∃ ws, callN TT GG FU (n + 4) "wrong_in_table" [.dat d] = .ret (.ml ws) [some (.dat d)] ∧ Wr d ws := by
  rw [s_wrong_in_table]
  unfold fn_wrong_in_table ir_wrong_in_table
  cases d with
  | fn x => cases h
  | tup rows =>
    have hn : ∀ x ∈ rows, nofn x = true := nofns_mem (by simpa [nofn] using h)
    have wr : ∀ {b : Bool}, tab (.tup rows) = false → Wr (.tup rows) [.non] := fun e => ⟨by rw [e]; simp, rfl⟩
    simp (disch := first | assumption | (with_unfolding_all exact Eng.bf_of rfl) | omega | (with_unfolding_all exact of_decide_eq_true rfl) | (simp only [List.length_map, List.length_append, List.length_take, List.length_drop, List.length_cons, List.length_nil, List.length_replicate, SZ]; omega)) only [Eng.RU, Nat.reduceAdd, Nat.reduceSub, Nat.reduceLeDiff, decide_true, decide_false, x_gl g_MP]
    by_cases h1 : 1 ≤ (rows.length : Int)
    · simp (disch := first | assumption | (with_unfolding_all exact Eng.bf_of rfl) | omega | (with_unfolding_all exact of_decide_eq_true rfl) | (simp only [List.length_map, List.length_append, List.length_take, List.length_drop, List.length_cons, List.length_nil, List.length_replicate, SZ]; omega)) only [Eng.RU, Nat.reduceAdd, Nat.reduceSub, Nat.reduceLeDiff, decide_true, decide_false, h1, decide_true]
      simp (disch := first | assumption | (with_unfolding_all exact Eng.bf_of rfl) | omega | (with_unfolding_all exact of_decide_eq_true rfl) | (simp only [List.length_map, List.length_append, List.length_take, List.length_drop, List.length_cons, List.length_nil, List.length_replicate, SZ]; omega)) only [Eng.RU, Nat.reduceAdd, Nat.reduceSub, Nat.reduceLeDiff, decide_true, decide_false, x_gl g_MP]
      by_cases h2 : (rows.length : Int) ≤ 6
      · simp (disch := first | assumption | (with_unfolding_all exact Eng.bf_of rfl) | omega | (with_unfolding_all exact of_decide_eq_true rfl) | (simp only [List.length_map, List.length_append, List.length_take, List.length_drop, List.length_cons, List.length_nil, List.length_replicate, SZ]; omega)) only [Eng.RU, Nat.reduceAdd, Nat.reduceSub, Nat.reduceLeDiff, decide_true, decide_false, h2, decide_true]
        rw [lc_filter (p := fun x => match x with | .tup [_, r] => !rowOk r rows.length | _ => false) (g := fun x => match x with | .tup [i, _] => i | _ => .non) (by rw [enumD_len]; unfold SZ; omega) fun i x acc hx ha => by
          obtain ⟨r, hr, rfl⟩ := enumD_inv hx
          have hr2 := hn r (List.mem_of_getElem? hr)
          have hr3 := hf rows rfl r (List.mem_of_getElem? hr)
          simp (disch := first | assumption | (with_unfolding_all exact Eng.bf_of rfl) | omega | (with_unfolding_all exact of_decide_eq_true rfl) | (simp only [List.length_map, List.length_append, List.length_take, List.length_drop, List.length_cons, List.length_nil, List.length_replicate, SZ]; omega)) only [Eng.RU, Nat.reduceAdd, Nat.reduceSub, Nat.reduceLeDiff, decide_true, decide_false, c_is_row]
          by_cases hk : rowOk r rows.length = true
          · simp (disch := first | assumption | (with_unfolding_all exact Eng.bf_of rfl) | omega | (with_unfolding_all exact of_decide_eq_true rfl) | (simp only [List.length_map, List.length_append, List.length_take, List.length_drop, List.length_cons, List.length_nil, List.length_replicate, SZ]; omega)) only [Eng.RU, Nat.reduceAdd, Nat.reduceSub, Nat.reduceLeDiff, decide_true, decide_false, hk]
          · simp (disch := first | assumption | (with_unfolding_all exact Eng.bf_of rfl) | omega | (with_unfolding_all exact of_decide_eq_true rfl) | (simp only [List.length_map, List.length_append, List.length_take, List.length_drop, List.length_cons, List.length_nil, List.length_replicate, SZ]; omega)) only [Eng.RU, Nat.reduceAdd, Nat.reduceSub, Nat.reduceLeDiff, decide_true, decide_false, Bool.eq_false_iff.mpr hk]]
        simp (disch := first | assumption | (with_unfolding_all exact Eng.bf_of rfl) | omega | (with_unfolding_all exact of_decide_eq_true rfl) | (simp only [List.length_map, List.length_append, List.length_take, List.length_drop, List.length_cons, List.length_nil, List.length_replicate, SZ]; omega)) only [Eng.RU, Nat.reduceAdd, Nat.reduceSub, Nat.reduceLeDiff, decide_true, decide_false]
        refine ⟨_, rfl, ?_, ?_⟩
        · have e1 : ∀ l : List D, l.take (1 : Int).toNat = [] ↔ l = [] := fun l => by cases l <;> simp
          rw [e1, List.map_eq_nil_iff, List.filter_eq_nil_iff]
          simp only [tab, h1, h2, decide_true, Bool.true_and, List.all_eq_true]
          constructor
          · intro hh r hr
            obtain ⟨i, hi⟩ := List.getElem?_of_mem hr
            have := hh _ (List.mem_of_getElem? (enumD_get (n := 0) hi))
            simpa using this
          · intro hh x hx
            obtain ⟨i, hi⟩ := List.getElem?_of_mem hx
            obtain ⟨r, hr, rfl⟩ := enumD_inv hi
            have := hh r (List.mem_of_getElem? hr)
            simp [this]
        · refine List.all_eq_true.mpr fun y hy => ?_
          obtain ⟨x, hx, rfl⟩ := List.mem_map.mp (List.mem_of_mem_take hy)
          obtain ⟨i, hi⟩ := List.getElem?_of_mem (List.mem_filter.mp hx).1
          obtain ⟨r, hr, rfl⟩ := enumD_inv hi
          rfl
      · simp (disch := first | assumption | (with_unfolding_all exact Eng.bf_of rfl) | omega | (with_unfolding_all exact of_decide_eq_true rfl) | (simp only [List.length_map, List.length_append, List.length_take, List.length_drop, List.length_cons, List.length_nil, List.length_replicate, SZ]; omega)) only [Eng.RU, Nat.reduceAdd, Nat.reduceSub, Nat.reduceLeDiff, decide_true, decide_false, h2, decide_false]
        exact ⟨_, rfl, wr (b := true) (by simp [tab, h2])⟩
    · simp (disch := first | assumption | (with_unfolding_all exact Eng.bf_of rfl) | omega | (with_unfolding_all exact of_decide_eq_true rfl) | (simp only [List.length_map, List.length_append, List.length_take, List.length_drop, List.length_cons, List.length_nil, List.length_replicate, SZ]; omega)) only [Eng.RU, Nat.reduceAdd, Nat.reduceSub, Nat.reduceLeDiff, decide_true, decide_false, h1, decide_false]
      exact ⟨_, rfl, wr (b := true) (by simp [tab, h1])⟩
  | _ =>
    simp (disch := first | assumption | (with_unfolding_all exact Eng.bf_of rfl) | omega | (with_unfolding_all exact of_decide_eq_true rfl) | (simp only [List.length_map, List.length_append, List.length_take, List.length_drop, List.length_cons, List.length_nil, List.length_replicate, SZ]; omega)) only [Eng.RU, Nat.reduceAdd, Nat.reduceSub, Nat.reduceLeDiff, decide_true, decide_false]
    exact ⟨_, rfl, by simp [tab], rfl⟩
theorem c_check_table (n : Nat) (d : D) (h : nofn d = true) (hf : fit d) (ht : tab d = true) : callN TT GG FU (n + 5) "check_table" [.dat d] = .ret (.dat .non) [some (.dat d)] := by
  rw [s_check_table]
  unfold fn_check_table ir_check_table
  obtain ⟨ws, h1, h2, h3⟩ := c_wrong n d h hf
  have := h2.mpr ht
  subst this
  simp (disch := first | assumption | (with_unfolding_all exact Eng.bf_of rfl) | omega | (with_unfolding_all exact of_decide_eq_true rfl) | (simp only [List.length_map, List.length_append, List.length_take, List.length_drop, List.length_cons, List.length_nil, List.length_replicate, SZ]; omega)) only [Eng.RU, Nat.reduceAdd, Nat.reduceSub, Nat.reduceLeDiff, decide_true, decide_false, h1, kFor_0]
theorem sum_nonneg : ∀ {r : List Int}, (∀ x ∈ r, 0 ≤ x) → 0 ≤ r.sum
  | [], _ => by simp
  | x :: r, h => by
    have := sum_nonneg (r := r) fun y hy => h y (List.mem_cons_of_mem _ hy)
    have := h x List.mem_cons_self
    rw [List.sum_cons]; omega
/-! ### tables -/
def dT (rows : List (List Int)) : D := .tup (rows.map fun r => .tup (r.map .int))
structure tabI (rows : List (List Int)) : Prop where
  pos : 1 ≤ rows.length
  six : rows.length ≤ 6
  row : ∀ r ∈ rows, r.length = rows.length ∧ (∀ x ∈ r, 0 ≤ x ∧ x ≤ 99) ∧ ∃ x ∈ r, 1 ≤ x
theorem nofns_of : ∀ {ds : List D}, (∀ d ∈ ds, nofn d = true) → nofns ds = true
  | [], _ => rfl
  | d :: ds, h => by
    simp only [nofns, Bool.and_eq_true]
    exact ⟨h d List.mem_cons_self, nofns_of fun e he => h e (List.mem_cons_of_mem _ he)⟩
theorem nofn_tup {ds : List D} (h : ∀ d ∈ ds, nofn d = true) : nofn (.tup ds) = true := by simp only [nofn]; exact nofns_of h
theorem nofn_lst {ds : List D} (h : ∀ d ∈ ds, nofn d = true) : nofn (.lst ds) = true := by simp only [nofn]; exact nofns_of h
theorem nofn_row (r : List Int) : nofn (.tup (r.map .int)) = true := nofn_tup fun d hd => by
  obtain ⟨x, _, rfl⟩ := List.mem_map.mp hd
  rfl
theorem nofn_dT (rows : List (List Int)) : nofn (dT rows) = true := nofn_tup fun d hd => by
  obtain ⟨r, _, rfl⟩ := List.mem_map.mp hd
  exact nofn_row r
theorem fit_dT {rows : List (List Int)} (h : tabI rows) : fit (dT rows) := fun rs e r hr xs e2 => by
  injection e with e
  subst e
  obtain ⟨q, hq, rfl⟩ := List.mem_map.mp hr
  injection e2 with e2
  subst e2
  rw [List.length_map, (h.row q hq).1]
  have := h.six
  unfold SZ; omega
theorem tab_dT {rows : List (List Int)} (h : tabI rows) : tab (dT rows) = true := by
  have h1 := h.pos
  have h2 := h.six
  unfold tab dT
  simp only [List.length_map, Bool.and_eq_true, decide_eq_true_eq, List.all_eq_true]
  refine ⟨⟨by omega, by omega⟩, fun d hd => ?_⟩
  obtain ⟨r, hr, rfl⟩ := List.mem_map.mp hd
  obtain ⟨e1, e2, x, hx, hx1⟩ := h.row r hr
  unfold rowOk
  simp only [List.length_map, Bool.and_eq_true, decide_eq_true_eq, List.all_eq_true, List.any_eq_true]
  refine ⟨⟨by omega, fun d hd => ?_⟩, .int x, List.mem_map_of_mem hx, ?_⟩
  · obtain ⟨y, hy, rfl⟩ := List.mem_map.mp hd
    have := e2 y hy
    simp [btw]; omega
  · have := e2 x hx
    simp [btw]; omega
theorem sum_le : ∀ {r : List Int}, (∀ x ∈ r, x ≤ 99) → r.sum ≤ 99 * r.length
  | [], _ => by simp
  | x :: r, h => by
    have := sum_le (r := r) fun y hy => h y (List.mem_cons_of_mem _ hy)
    have := h x List.mem_cons_self
    rw [List.sum_cons, List.length_cons]; omega
theorem sum_pos : ∀ {r : List Int}, (∀ x ∈ r, 0 ≤ x) → (∃ x ∈ r, 1 ≤ x) → 0 < r.sum
  | [], _, ⟨x, h, _⟩ => nomatch h
  | y :: r, h, ⟨x, hx, h1⟩ => by
    have h0 := h y List.mem_cons_self
    have hr : ∀ x ∈ r, 0 ≤ x := fun z hz => h z (List.mem_cons_of_mem _ hz)
    rw [List.sum_cons]
    rcases List.mem_cons.mp hx with e | e
    · have := sum_nonneg hr
      omega
    · have := sum_pos hr ⟨x, e, h1⟩
      omega
theorem row_sum {rows : List (List Int)} (h : tabI rows) {r : List Int} (hr : r ∈ rows) : 0 < r.sum ∧ r.sum ≤ 594 := by
  obtain ⟨e1, e2, e3⟩ := h.row r hr
  have h1 := sum_pos (fun x hx => (e2 x hx).1) e3
  have h2 := sum_le (fun x hx => (e2 x hx).2)
  have := h.six
  exact ⟨h1, by omega⟩
end Law

set_option Elab.async false
set_option linter.all false
set_option maxRecDepth 100000
set_option maxHeartbeats 8000000
namespace Law
open PySem PySem.Spec PyProof.Rows L2 RZ Eng
/-! ### wrong_in_each -/
def wrE (p : D → Bool) (xs : List D) : List D := (((enumD 0 xs).filter fun x => match x with | .tup [_, r] => !p r | _ => false).map fun x => match x with | .tup [i, _] => i | _ => .non).take 1
theorem wrE_nil {p : D → Bool} {xs : List D} (h : ∀ x ∈ xs, p x = true) : wrE p xs = [] := by
  unfold wrE
  have : (enumD 0 xs).filter (fun x => match x with | .tup [_, r] => !p r | _ => false) = [] := by
    rw [List.filter_eq_nil_iff]
    intro x hx
    obtain ⟨i, hi⟩ := List.getElem?_of_mem hx
    obtain ⟨r, hr, rfl⟩ := enumD_inv hi
    simp [h r (List.mem_of_getElem? hr)]
  rw [this]; rfl
theorem c_wrong_in_each (n : Nat) {f : Str} {xs : List D} {p : D → Bool} {m : Int} (hm : (xs.length : Int) = m) (hl : xs.length ≤ SZ) (hn : nofn (.tup xs) = true) (hp : ∀ x ∈ xs, callN TT GG FU (n + 1) f [.dat x] = .ret (.dat (.bl (p x))) [some (.dat x)]) :
    callN TT GG FU (n + 2) "wrong_in_each" [.dat (.tup xs), .dat (.int m), .dat (.fn f)] = .ret (.ml (wrE p xs)) [some (.dat (.tup xs)), some (.dat (.int m)), some (.dat (.fn f))] := by
  rw [s_wrong_in_each]
  unfold fn_wrong_in_each ir_wrong_in_each
  have e : isTup (.tup xs) m = true := by simp [isTup, hm]
  simp (disch := first | assumption | (with_unfolding_all exact Eng.bf_of rfl) | omega | (with_unfolding_all exact of_decide_eq_true rfl) | (simp only [List.length_map, List.length_append, List.length_take, List.length_drop, List.length_cons, List.length_nil, List.length_replicate, SZ]; omega)) only [Eng.RU, Nat.reduceAdd, Nat.reduceSub, Nat.reduceLeDiff, decide_true, decide_false, c_is_tuple_of, e]
  rw [lc_filter (p := fun x => match x with | .tup [_, r] => !p r | _ => false) (g := fun x => match x with | .tup [i, _] => i | _ => .non) (by rw [enumD_len]; exact hl) fun i x acc hx ha => by
    obtain ⟨r, hr, rfl⟩ := enumD_inv hx
    have hr2 := hp r (List.mem_of_getElem? hr)
    simp (disch := first | assumption | (with_unfolding_all exact Eng.bf_of rfl) | omega | (with_unfolding_all exact of_decide_eq_true rfl) | (simp only [List.length_map, List.length_append, List.length_take, List.length_drop, List.length_cons, List.length_nil, List.length_replicate, SZ]; omega)) only [Eng.RU, Nat.reduceAdd, Nat.reduceSub, Nat.reduceLeDiff, decide_true, decide_false, hr2]
    by_cases hk : p r = true
    · simp (disch := first | assumption | (with_unfolding_all exact Eng.bf_of rfl) | omega | (with_unfolding_all exact of_decide_eq_true rfl) | (simp only [List.length_map, List.length_append, List.length_take, List.length_drop, List.length_cons, List.length_nil, List.length_replicate, SZ]; omega)) only [Eng.RU, Nat.reduceAdd, Nat.reduceSub, Nat.reduceLeDiff, decide_true, decide_false, hk]
    · simp (disch := first | assumption | (with_unfolding_all exact Eng.bf_of rfl) | omega | (with_unfolding_all exact of_decide_eq_true rfl) | (simp only [List.length_map, List.length_append, List.length_take, List.length_drop, List.length_cons, List.length_nil, List.length_replicate, SZ]; omega)) only [Eng.RU, Nat.reduceAdd, Nat.reduceSub, Nat.reduceLeDiff, decide_true, decide_false, Bool.eq_false_iff.mpr hk]]
  simp (disch := first | assumption | (with_unfolding_all exact Eng.bf_of rfl) | omega | (with_unfolding_all exact of_decide_eq_true rfl) | (simp only [List.length_map, List.length_append, List.length_take, List.length_drop, List.length_cons, List.length_nil, List.length_replicate, SZ]; omega)) only [Eng.RU, Nat.reduceAdd, Nat.reduceSub, Nat.reduceLeDiff, decide_true, decide_false]
  rfl
end Law

set_option Elab.async false
set_option linter.all false
set_option maxRecDepth 100000
set_option maxHeartbeats 8000000
namespace Law
open PySem PySem.Spec PyProof.Rows L2 RZ Eng
/-! ### places -/
theorem c_places_of (n : Nat) (xs : List D) (hl : xs.length ≤ 1000) : callN TT GG FU (n + 1) "places_of" [.dat (.tup xs)] = .ret (.ml (rgD 0 (xs.length : Nat))) [some (.dat (.tup xs))] := by
  rw [s_places_of]
  unfold fn_places_of ir_places_of
  have := kLrg2_ok (en := [some (S.dat (.tup xs))]) (i := 0) (j := (xs.length : Nat)) ⟨by unfold rgOk; simp; omega, by unfold SZ; omega⟩
  simp (disch := first | assumption | (with_unfolding_all exact Eng.bf_of rfl) | omega | (with_unfolding_all exact of_decide_eq_true rfl) | (simp only [List.length_map, List.length_append, List.length_take, List.length_drop, List.length_cons, List.length_nil, List.length_replicate, SZ]; omega)) only [Eng.RU, Nat.reduceAdd, Nat.reduceSub, Nat.reduceLeDiff, decide_true, decide_false, this]
theorem dT_row {rows : List (List Int)} {i : Nat} {r : List Int} (h : rows[i]? = some r) : atI (rows.map fun r => D.tup (r.map .int)) ((i : Nat) : Int) = some (.tup (r.map .int)) := by
  rw [at_nat, List.getElem?_map, h]; rfl
theorem row_at {r : List Int} {i : Nat} {x : Int} (h : r[i]? = some x) : atI (r.map D.int) ((i : Nat) : Int) = some (.int x) := by
  rw [at_nat, List.getElem?_map, h]; rfl
theorem tab_at {rows : List (List Int)} (h : tabI rows) {i j : Nat} (hi : i < rows.length) (hj : j < rows.length) : ∃ r x, rows[i]? = some r ∧ r[j]? = some x ∧ 0 ≤ x ∧ x ≤ 99 := by
  have e := List.getElem?_eq_getElem hi
  obtain ⟨h1, h2, _⟩ := h.row _ (List.mem_of_getElem? e)
  have e2 := List.getElem?_eq_getElem (l := rows[i]) (i := j) (by omega)
  have := h2 _ (List.mem_of_getElem? e2)
  exact ⟨_, _, e, e2, this.1, this.2⟩
end Law

set_option Elab.async false
set_option linter.all false
set_option maxRecDepth 100000
set_option maxHeartbeats 8000000
namespace Law
open PySem PySem.Spec PyProof.Rows L2 RZ Eng
/-! ### fractions of whole numbers -/
theorem c0 {b : Int} (hb : 0 < b) : (0 : Rat) < (b : Rat) := by exact_mod_cast (Rat.intCast_lt_intCast (a := 0) (b := b)).mpr hb
theorem dv_lt {a b c d : Int} (hb : 0 < b) (hd : 0 < d) : Rat.divInt a b < Rat.divInt c d ↔ a * d < c * b := by
  have h1 := c0 hb
  have h2 := c0 hd
  rw [Rat.divInt_eq_div, Rat.divInt_eq_div, Rat.div_lt_iff h1]
  have e : (c : Rat) / (d : Rat) * (b : Rat) = ((c * b : Int) : Rat) / (d : Rat) := by
    rw [Rat.intCast_mul]; grind
  rw [e, Rat.lt_div_iff h2, ← Rat.intCast_mul, Rat.intCast_lt_intCast]
theorem dv_eq {a b c d : Int} (hb : 0 < b) (hd : 0 < d) : Rat.divInt a b = Rat.divInt c d ↔ a * d = c * b := Rat.divInt_eq_divInt_iff (by omega) (by omega)
theorem dv_1 {a : Int} (ha : 0 < a) : Rat.divInt a a = 1 := by
  have h := c0 ha
  rw [Rat.divInt_eq_div]
  grind
theorem one_dv : (1 : Rat) = Rat.divInt 1 1 := rfl
theorem dv_lt1 {a b : Int} (hb : 0 < b) : Rat.divInt a b < 1 ↔ a < b := by
  rw [one_dv, dv_lt hb (by omega)]; omega
theorem dv_mul {a b c d : Int} : Rat.divInt a b * Rat.divInt c d = Rat.divInt (a * c) (b * d) := Rat.divInt_mul_divInt ..
theorem dv_0 {b : Int} : Rat.divInt 0 b = 0 := by rw [Rat.divInt_eq_div, Rat.intCast_zero]; grind
theorem dv_nn {a b : Int} (ha : 0 ≤ a) (hb : 0 ≤ b) : 0 ≤ Rat.divInt a b := Rat.divInt_nonneg ha hb
theorem dv_add {a b c : Int} (hc : 0 < c) : Rat.divInt a c + Rat.divInt b c = Rat.divInt (a + b) c := by
  rw [Rat.divInt_eq_div, Rat.divInt_eq_div, Rat.divInt_eq_div, Rat.intCast_add]; grind
theorem num_nn {q : Rat} : 0 ≤ q.num ↔ 0 ≤ q := Rat.num_nonneg
/-- sums -/
theorem sum_dv {l : List Int} {c : Int} (hc : 0 < c) : (l.map fun x => Rat.divInt x c).sum = Rat.divInt l.sum c := by
  induction l with
  | nil => simp [dv_0]
  | cons x l ih => rw [List.map_cons, List.sum_cons, List.sum_cons, ih, dv_add hc]
theorem sum_nn {l : List Rat} (h : ∀ q ∈ l, 0 ≤ q) : 0 ≤ l.sum := by
  induction l with
  | nil => simp
  | cons x l ih =>
    rw [List.sum_cons]
    have h1 := h x List.mem_cons_self
    have h2 := ih fun q hq => h q (List.mem_cons_of_mem _ hq)
    grind
theorem sum_le_sum {α : Type} {l : List α} {f g : α → Rat} (h : ∀ x ∈ l, f x ≤ g x) : (l.map f).sum ≤ (l.map g).sum := by
  induction l with
  | nil => simp
  | cons x l ih =>
    simp only [List.map_cons, List.sum_cons]
    have h1 := h x List.mem_cons_self
    have h2 := ih fun q hq => h q (List.mem_cons_of_mem _ hq)
    grind
theorem sum_mulc {α : Type} {l : List α} {f : α → Rat} {c : Rat} : (l.map fun x => c * f x).sum = c * (l.map f).sum := by
  induction l with
  | nil => simp
  | cons x l ih => simp only [List.map_cons, List.sum_cons, ih]; grind
theorem sum_addc {α : Type} {l : List α} {f g : α → Rat} : (l.map fun x => f x + g x).sum = (l.map f).sum + (l.map g).sum := by
  induction l with
  | nil => simp only [List.map_nil, List.sum_nil]; grind
  | cons x l ih => simp only [List.map_cons, List.sum_cons, ih]; grind
/-- one place otherwise -/
theorem sum_but {m i : Nat} {f : Nat → Rat} : ((List.range m).map fun j => if j = i then 0 else f j).sum = (((List.range m).filter fun j => decide (j ≠ i)).map f).sum := by
  generalize List.range m = l
  induction l with
  | nil => rfl
  | cons x l ih =>
    simp only [List.map_cons, List.sum_cons, ih, List.filter_cons]
    by_cases h : x = i
    · simp [h, Rat.zero_add]
    · simp [h]
theorem sum_split {m i : Nat} (hi : i < m) {f : Nat → Rat} : ((List.range m).map f).sum = f i + (((List.range m).filter fun j => decide (j ≠ i)).map f).sum := by
  rw [← sum_but]
  induction m with
  | zero => omega
  | succ m ih =>
    rw [List.range_succ, List.map_append, List.map_append, List.sum_append, List.sum_append]
    simp only [List.map_cons, List.map_nil, List.sum_cons, List.sum_nil]
    by_cases h : i = m
    · subst h
      have : ((List.range i).map fun j => if j = i then 0 else f j) = (List.range i).map f := List.map_congr_left fun j hj => by
        have := List.mem_range.mp hj
        rw [if_neg (by omega)]
      rw [this]
      simp
      grind
    · rw [ih (by omega), if_neg (by omega)]
      grind
end Law

set_option Elab.async false
set_option linter.all false
set_option maxRecDepth 100000
set_option maxHeartbeats 8000000
namespace Law
open PySem PySem.Spec PyProof.Rows L2 RZ Eng
/-! ### shares -/
theorem c_is_fraction (n : Nat) (q : Rat) : callN TT GG FU (n + 2) "is_fraction" [.dat (fr q)] = .ret (.dat (.bl true)) [some (.dat (fr q))] := by
  rw [s_is_fraction]
  unfold fn_is_fraction ir_is_fraction
  have hd := q.den_pos
  have hg : ((Int.gcd q.num (q.den : Int) : Nat) : Int) = 1 := congrArg Int.ofNat q.reduced
  have e4 : decide ((1 : Int) = 1) = true := rfl
  have c1 := c_is_tuple_of n (fr q) 2 rfl
  have c2 := c_is_whole n (.int q.num) rfl
  have c3 := c_is_whole n (.int (q.den : Int)) rfl
  have e1 : fr q = D.tup [.int q.num, .int (q.den : Int)] := rfl
  rw [e1] at c1 ⊢
  have h0 : (0 : Int) < q.den := by omega
  have e2 : isTup (.tup [.int q.num, .int (q.den : Int)]) 2 = true := rfl
  simp (disch := first | assumption | (with_unfolding_all exact Eng.bf_of rfl) | omega | (with_unfolding_all exact of_decide_eq_true rfl) | (simp only [List.length_map, List.length_append, List.length_take, List.length_drop, List.length_cons, List.length_nil, List.length_replicate, SZ]; omega)) only [Eng.RU, Nat.reduceAdd, Nat.reduceSub, Nat.reduceLeDiff, decide_true, decide_false, c1, c2, c3, e2, isW, h0, hg, e4]
theorem c_is_share (n : Nat) (q : Rat) : callN TT GG FU (n + 3) "is_share" [.dat (fr q)] = .ret (.dat (.bl (decide (0 ≤ q)))) [some (.dat (fr q))] := by
  rw [s_is_share]
  unfold fn_is_share ir_is_share
  have c1 := c_is_fraction n q
  have e1 : fr q = D.tup [.int q.num, .int (q.den : Int)] := rfl
  have e2 : decide (0 ≤ q) = decide (0 ≤ q.num) := decide_eq_decide.mpr Rat.num_nonneg.symm
  rw [e1] at c1 ⊢
  rw [e2]
  simp (disch := first | assumption | (with_unfolding_all exact Eng.bf_of rfl) | omega | (with_unfolding_all exact of_decide_eq_true rfl) | (simp only [List.length_map, List.length_append, List.length_take, List.length_drop, List.length_cons, List.length_nil, List.length_replicate, SZ]; omega)) only [Eng.RU, Nat.reduceAdd, Nat.reduceSub, Nat.reduceLeDiff, decide_true, decide_false, c1]
def shL (m : Nat) (f : Nat → Rat) : List Rat := (List.range m).map f
def shT (m : Nat) (f : Nat → Rat) : D := .tup ((shL m f).map fr)
structure Shr (m k : Nat) (f : Nat → Rat) : Prop where
  nn : ∀ j, j < m → 0 ≤ f j
  one : (shL m f).sum = 1
  bd : ∀ j, j < m → Bd k (f j)
theorem shL_len {m : Nat} {f : Nat → Rat} : (shL m f).length = m := by unfold shL; simp
theorem shL_mem {m : Nat} {f : Nat → Rat} {q : Rat} (h : q ∈ shL m f) : ∃ j, j < m ∧ q = f j := by
  obtain ⟨j, hj, rfl⟩ := List.mem_map.mp h
  exact ⟨j, List.mem_range.mp hj, rfl⟩
theorem shT_at {m : Nat} {f : Nat → Rat} {j : Nat} (hj : j < m) : atI ((shL m f).map fr) ((j : Nat) : Int) = some (fr (f j)) := by
  unfold shL
  rw [at_nat, List.getElem?_map, List.getElem?_map, List.getElem?_range hj]; rfl
theorem nofn_fr (q : Rat) : nofn (fr q) = true := rfl
theorem nofn_shT {m : Nat} {f : Nat → Rat} : nofn (shT m f) = true := nofn_tup fun d hd => by
  obtain ⟨q, _, rfl⟩ := List.mem_map.mp hd
  rfl
theorem c_total_t (n : Nat) {qs : List Rat} {k : Nat} (hq : ∀ q ∈ qs, Bd k q) (h : (k + 1) * (qs.length + 1) < 4000) : callN TT GG FU (n + 3) "total" [.dat (.tup (qs.map fr))] = .ret (.dat (fr qs.sum)) [some (.dat (.tup (qs.map fr)))] := by
  rw [s_total]
  unfold fn_total ir_total
  obtain ⟨f2, h1⟩ := loop_total n hq h none
  simp (disch := first | assumption | (with_unfolding_all exact Eng.bf_of rfl) | omega | (with_unfolding_all exact of_decide_eq_true rfl) | (simp only [List.length_map, List.length_append, List.length_take, List.length_drop, List.length_cons, List.length_nil, List.length_replicate, SZ]; omega)) only [Eng.RU, Nat.reduceAdd, Nat.reduceSub, Nat.reduceLeDiff, decide_true, decide_false, x_gl g_ZERO, fr_0, h1]
theorem c_wrong_in_shares (n : Nat) {m k : Nat} {f : Nat → Rat} (hs : Shr m k f) (hm : m ≤ 6) (hk : k ≤ 500) : callN TT GG FU (n + 5) "wrong_in_shares" [.dat (.int (m : Nat)), .dat (shT m f)] = .ret (.ml []) [some (.dat (.int (m : Nat))), some (.dat (shT m f))] := by
  rw [s_wrong_in_shares]
  unfold fn_wrong_in_shares ir_wrong_in_shares shT
  have c := c_wrong_in_each (n + 2) (f := "is_share") (xs := (shL m f).map fr) (p := fun d => true) (m := m) (by rw [List.length_map, shL_len]) (by rw [List.length_map, shL_len]; unfold SZ; omega) nofn_shT fun x hx => by
    obtain ⟨q, hq, rfl⟩ := List.mem_map.mp hx
    obtain ⟨j, hj, rfl⟩ := shL_mem hq
    have := c_is_share n (f j)
    rwa [decide_eq_true (hs.nn j hj)] at this
  rw [wrE_nil fun _ _ => rfl] at c
  have ct := c_total_t (n + 1) (qs := shL m f) (k := k) (fun q hq => by
    obtain ⟨j, hj, rfl⟩ := shL_mem hq
    exact hs.bd j hj) (by
      rw [shL_len]
      have : (k + 1) * (m + 1) ≤ 501 * 7 := Nat.mul_le_mul (by omega) (by omega)
      omega)
  rw [hs.one] at ct
  have e0 : cmpS .NotEq (.ml []) (.ml []) = some false := rfl
  simp (disch := first | assumption | (with_unfolding_all exact Eng.bf_of rfl) | omega | (with_unfolding_all exact of_decide_eq_true rfl) | (simp only [List.length_map, List.length_append, List.length_take, List.length_drop, List.length_cons, List.length_nil, List.length_replicate, SZ]; omega)) only [Eng.RU, Nat.reduceAdd, Nat.reduceSub, Nat.reduceLeDiff, decide_true, decide_false, x_gl g_is_share, c, e0, ct, x_gl g_ONE, fr_1, eq_fr]
theorem c_check_shares (n : Nat) {m k : Nat} {f : Nat → Rat} {rows : List (List Int)} (hr : rows.length = m) (hs : Shr m k f) (hm : m ≤ 6) (hk : k ≤ 500) : callN TT GG FU (n + 6) "check_shares" [.dat (dT rows), .dat (shT m f)] = .ret (.dat .non) [some (.dat (dT rows)), some (.dat (shT m f))] := by
  rw [s_check_shares]
  unfold fn_check_shares ir_check_shares
  have c := c_wrong_in_shares n hs hm hk
  have hlen : biS1 .len (.dat (dT rows)) = some (.dat (.int (m : Nat))) := by
    unfold dT
    rw [len_t, List.length_map, hr]
  simp (disch := first | assumption | (with_unfolding_all exact Eng.bf_of rfl) | omega | (with_unfolding_all exact of_decide_eq_true rfl) | (simp only [List.length_map, List.length_append, List.length_take, List.length_drop, List.length_cons, List.length_nil, List.length_replicate, SZ]; omega)) only [Eng.RU, Nat.reduceAdd, Nat.reduceSub, Nat.reduceLeDiff, decide_true, decide_false, hlen, c, kFor_0]
end Law

set_option Elab.async false
set_option linter.all false
set_option maxRecDepth 100000
set_option maxHeartbeats 8000000
namespace Law
open PySem PySem.Spec PyProof.Rows L2 RZ Eng
/-! ### chances -/
def chn (rows : List (List Int)) (i j : Nat) : Rat := Rat.divInt ((rows.getD i []).getD j 0) (rows.getD i []).sum
theorem row_sum_of {rows : List (List Int)} (h : tabI rows) {i : Nat} {r : List Int} (e : rows[i]? = some r) : 1 ≤ r.sum ∧ r.sum ≤ 594 := by
  have := row_sum h (List.mem_of_getElem? e)
  omega
theorem chn_eq {rows : List (List Int)} {i j : Nat} {r : List Int} {x : Int} (e1 : rows[i]? = some r) (e2 : r[j]? = some x) : chn rows i j = Rat.divInt x r.sum := by
  unfold chn
  simp only [List.getD_eq_getElem?_getD, e1, e2, Option.getD_some]
theorem chn_bd {rows : List (List Int)} (h : tabI rows) {i j : Nat} (hi : i < rows.length) (hj : j < rows.length) : Bd 10 (chn rows i j) := by
  obtain ⟨r, x, e1, e2, h1, h2⟩ := tab_at h hi hj
  obtain ⟨h3, h4⟩ := row_sum_of h e1
  rw [chn_eq e1 e2]
  exact Bd.dv (k := 10) (by omega) (by omega) (by omega) (by omega)
theorem chn_nn {rows : List (List Int)} (h : tabI rows) {i j : Nat} (hi : i < rows.length) (hj : j < rows.length) : 0 ≤ chn rows i j := by
  obtain ⟨r, x, e1, e2, h1, h2⟩ := tab_at h hi hj
  obtain ⟨h3, h4⟩ := row_sum_of h e1
  rw [chn_eq e1 e2]
  exact dv_nn h1 (by omega)
theorem chn_pos {rows : List (List Int)} (h : tabI rows) {i j : Nat} {r : List Int} {x : Int} (e1 : rows[i]? = some r) (e2 : r[j]? = some x) : 0 < chn rows i j ↔ 0 < x := by
  obtain ⟨h3, h4⟩ := row_sum_of h e1
  rw [chn_eq e1 e2, show (0 : Rat) = Rat.divInt 0 1 from rfl, dv_lt (by omega) (by omega)]
  omega
theorem chn_one {rows : List (List Int)} (h : tabI rows) {i : Nat} (hi : i < rows.length) : (shL rows.length (chn rows i)).sum = 1 := by
  have e1 := List.getElem?_eq_getElem hi
  obtain ⟨h3, h4⟩ := row_sum_of h e1
  have hl := (h.row _ (List.mem_of_getElem? e1)).1
  have : shL rows.length (chn rows i) = rows[i].map fun x => Rat.divInt x rows[i].sum := by
    unfold shL
    apply List.ext_getElem?
    intro j
    by_cases hj : j < rows.length
    · have e2 := List.getElem?_eq_getElem (l := rows[i]) (i := j) (by omega)
      rw [List.getElem?_map, List.getElem?_range hj, List.getElem?_map, e2, Option.map_some, Option.map_some, chn_eq e1 e2]
    · rw [List.getElem?_eq_none (by simp; omega), List.getElem?_eq_none (by simp; omega)]
  rw [this, sum_dv (by omega), dv_1 (by omega)]
theorem chn_shr {rows : List (List Int)} (h : tabI rows) {i : Nat} (hi : i < rows.length) : Shr rows.length 10 (chn rows i) := ⟨fun _ hj => chn_nn h hi hj, chn_one h hi, fun _ hj => chn_bd h hi hj⟩
theorem c_chance_by (n : Nat) {rows : List (List Int)} (h : tabI rows) {i j : Nat} (hi : i < rows.length) (hj : j < rows.length) : callN TT GG FU (n + 2) "chance_by" [.dat (dT rows), .dat (.int (i : Nat)), .dat (.int (j : Nat))] = .ret (.dat (fr (chn rows i j))) [some (.dat (dT rows)), some (.dat (.int (i : Nat))), some (.dat (.int (j : Nat)))] := by
  rw [s_chance_by]
  unfold fn_chance_by ir_chance_by dT
  obtain ⟨r, x, e1, e2, h1, h2⟩ := tab_at h hi hj
  obtain ⟨h3, h4⟩ := row_sum_of h e1
  have c := c_fraction n (a := x) (b := r.sum) (k := 10) (by omega) (by omega) (by omega)
  rw [← chn_eq e1 e2] at c
  simp (disch := first | assumption | (with_unfolding_all exact Eng.bf_of rfl) | omega | (with_unfolding_all exact of_decide_eq_true rfl) | (simp only [List.length_map, List.length_append, List.length_take, List.length_drop, List.length_cons, List.length_nil, List.length_replicate, SZ]; omega)) only [Eng.RU, Nat.reduceAdd, Nat.reduceSub, Nat.reduceLeDiff, decide_true, decide_false, dT_row e1, row_at e2, c]
end Law

set_option Elab.async false
set_option linter.all false
set_option maxRecDepth 100000
set_option maxHeartbeats 8000000
namespace Law
open PySem PySem.Spec PyProof.Rows L2 RZ Eng
/-! ### sums, and how far apart -/
def sm (m : Nat) (f : Nat → Rat) : Rat := ((List.range m).map f).sum
theorem sm_0 {f : Nat → Rat} : sm 0 f = 0 := rfl
theorem sm_s {m : Nat} {f : Nat → Rat} : sm (m + 1) f = sm m f + f m := by
  unfold sm
  rw [List.range_succ, List.map_append, List.sum_append, List.map_cons, List.map_nil, List.sum_cons, List.sum_nil, Rat.add_zero]
theorem sm_add {f g : Nat → Rat} : ∀ {m : Nat}, sm m (fun i => f i + g i) = sm m f + sm m g
  | 0 => by rw [sm_0, sm_0, sm_0]; grind
  | m + 1 => by rw [sm_s, sm_s, sm_s, sm_add]; grind
theorem sm_sub {f g : Nat → Rat} : ∀ {m : Nat}, sm m (fun i => f i - g i) = sm m f - sm m g
  | 0 => by rw [sm_0, sm_0, sm_0]; grind
  | m + 1 => by rw [sm_s, sm_s, sm_s, sm_sub]; grind
theorem sm_mul {c : Rat} {f : Nat → Rat} : ∀ {m : Nat}, sm m (fun i => c * f i) = c * sm m f
  | 0 => by rw [sm_0, sm_0]; grind
  | m + 1 => by rw [sm_s, sm_s, sm_mul]; grind
theorem sm_mulr {c : Rat} {f : Nat → Rat} : ∀ {m : Nat}, sm m (fun i => f i * c) = sm m f * c
  | 0 => by rw [sm_0, sm_0]; grind
  | m + 1 => by rw [sm_s, sm_s, sm_mulr]; grind
theorem sm_z : ∀ {m : Nat}, sm m (fun _ => 0) = 0
  | 0 => sm_0
  | m + 1 => by rw [sm_s, sm_z]; grind
theorem sm_swap {n : Nat} {f : Nat → Nat → Rat} : ∀ {m : Nat}, sm m (fun i => sm n (f i)) = sm n fun j => sm m fun i => f i j
  | 0 => by
    have : (fun j => sm 0 fun i => f i j) = fun _ => (0 : Rat) := rfl
    rw [sm_0, this, sm_z]
  | m + 1 => by
    have : (fun j => sm (m + 1) fun i => f i j) = fun j => (sm m fun i => f i j) + f m j := funext fun j => sm_s
    rw [sm_s, sm_swap, this, sm_add]
theorem sm_le {f g : Nat → Rat} : ∀ {m : Nat}, (∀ j, j < m → f j ≤ g j) → sm m f ≤ sm m g
  | 0, _ => by rw [sm_0, sm_0]; grind
  | m + 1, h => by
    have h1 := sm_le (m := m) fun j hj => h j (by omega)
    have h2 := h m (by omega)
    rw [sm_s, sm_s]; grind
theorem sm_eq {f g : Nat → Rat} : ∀ {m : Nat}, (∀ j, j < m → f j = g j) → sm m f = sm m g
  | 0, _ => rfl
  | m + 1, h => by rw [sm_s, sm_s, sm_eq fun j hj => h j (by omega), h m (by omega)]
theorem sm_nn {f : Nat → Rat} {m : Nat} (h : ∀ j, j < m → 0 ≤ f j) : 0 ≤ sm m f := by
  have := sm_le (m := m) (f := fun _ => 0) (g := f) h
  rwa [sm_z] at this
theorem sm_zero {f : Nat → Rat} : ∀ {m : Nat}, (∀ j, j < m → 0 ≤ f j) → sm m f = 0 → ∀ j, j < m → f j = 0
  | 0, _, _, j, hj => by omega
  | m + 1, h, e, j, hj => by
    have h1 := sm_nn (m := m) fun j hj => h j (by omega)
    have h2 := h m (by omega)
    rw [sm_s] at e
    have e1 : sm m f = 0 := by grind
    have e2 : f m = 0 := by grind
    by_cases hm : j = m
    · rw [hm]; exact e2
    · exact sm_zero (fun j hj => h j (by omega)) e1 j (by omega)
theorem shL_sm {m : Nat} {f : Nat → Rat} : (shL m f).sum = sm m f := rfl
def ab (q : Rat) : Rat := if q < 0 then -q else q
theorem ab_nn {q : Rat} : 0 ≤ ab q := by unfold ab; split <;> grind
theorem ab_sym {p q : Rat} : ab (p - q) = ab (q - p) := by unfold ab; split <;> split <;> grind
theorem ab_add {p q : Rat} : ab (p + q) ≤ ab p + ab q := by unfold ab; split <;> split <;> split <;> grind
theorem ab_0 {q : Rat} : ab q = 0 ↔ q = 0 := by unfold ab; split <;> constructor <;> intro h <;> grind
theorem ab_mul {c q : Rat} (h : 0 ≤ c) : ab (c * q) = c * ab q := by
  unfold ab
  by_cases hq : q < 0
  · rw [if_pos hq]
    have : c * q ≤ 0 := by
      have := Rat.mul_le_mul_of_nonneg_left (c := c) (show q ≤ 0 by grind) h
      grind
    split <;> grind
  · rw [if_neg hq]
    have : 0 ≤ c * q := Rat.mul_nonneg h (by grind)
    split <;> grind
theorem ab_sm {f : Nat → Rat} : ∀ {m : Nat}, ab (sm m f) ≤ sm m fun j => ab (f j)
  | 0 => by rw [sm_0, sm_0]; unfold ab; split <;> grind
  | m + 1 => by
    have h1 := ab_sm (f := f) (m := m)
    have h2 := ab_add (p := sm m f) (q := f m)
    rw [sm_s, sm_s]; grind
def ap (m : Nat) (f g : Nat → Rat) : Rat := Rat.divInt 1 2 * sm m fun j => ab (f j - g j)
theorem hf : Rat.divInt 1 2 * 2 = 1 := by
  show Rat.divInt 1 2 * Rat.divInt 2 1 = 1
  rw [dv_mul]
  exact dv_1 (a := 2) (by omega)
section
variable {m : Nat} {f g h : Nat → Rat}
theorem ap2 : 2 * ap m f g = sm m fun j => ab (f j - g j) := by
  unfold ap
  have := hf
  grind
theorem ap_sym : ap m f g = ap m g f := by
  unfold ap
  rw [sm_eq fun j _ => ab_sym]
theorem ap_nn : 0 ≤ ap m f g := by
  have h1 := ap2 (m := m) (f := f) (g := g)
  have h2 := sm_nn (m := m) (f := fun j => ab (f j - g j)) fun j _ => ab_nn
  grind
theorem ap_tri : ap m f g ≤ ap m f h + ap m h g := by
  have h1 := ap2 (m := m) (f := f) (g := g)
  have h2 := ap2 (m := m) (f := f) (g := h)
  have h3 := ap2 (m := m) (f := h) (g := g)
  have h4 := sm_le (m := m) (f := fun j => ab (f j - g j)) (g := fun j => ab (f j - h j) + ab (h j - g j)) fun j _ => by
    have := ab_add (p := f j - h j) (q := h j - g j)
    rwa [show f j - h j + (h j - g j) = f j - g j by grind] at this
  rw [sm_add] at h4
  grind
theorem ap_zero : ap m f g = 0 ↔ ∀ j, j < m → f j = g j := by
  have h1 := ap2 (m := m) (f := f) (g := g)
  constructor
  · intro e j hj
    have e2 : (sm m fun j => ab (f j - g j)) = 0 := by grind
    have := ab_0.mp (sm_zero (fun j _ => ab_nn) e2 j hj)
    grind
  · intro e
    have e2 : (sm m fun j => ab (f j - g j)) = 0 := by
      rw [sm_eq (g := fun _ => 0) fun j hj => ab_0.mpr (by rw [e j hj]; grind), sm_z]
    grind
def mn (p q : Rat) : Rat := if q < p then q else p
theorem ap_mn (e1 : sm m f = 1) (e2 : sm m g = 1) : ap m f g = 1 - sm m fun j => mn (f j) (g j) := by
  have h1 := ap2 (m := m) (f := f) (g := g)
  have h2 : (sm m fun j => ab (f j - g j)) = sm m fun j => (f j + g j) - 2 * mn (f j) (g j) := sm_eq fun j _ => by
    unfold ab mn
    split <;> split <;> grind
  rw [sm_sub (f := fun j => f j + g j) (g := fun j => 2 * mn (f j) (g j)), sm_add, sm_mul, e1, e2] at h2
  grind
theorem mn_nn {p q : Rat} (h1 : 0 ≤ p) (h2 : 0 ≤ q) : 0 ≤ mn p q := by unfold mn; split <;> grind
theorem ap_le1 (e1 : sm m f = 1) (e2 : sm m g = 1) (n1 : ∀ j, j < m → 0 ≤ f j) (n2 : ∀ j, j < m → 0 ≤ g j) : ap m f g ≤ 1 := by
  have h1 := ap_mn e1 e2
  have h2 := sm_nn (m := m) (f := fun j => mn (f j) (g j)) fun j hj => mn_nn (n1 j hj) (n2 j hj)
  grind
theorem ap_lt1 (e1 : sm m f = 1) (e2 : sm m g = 1) (n1 : ∀ j, j < m → 0 ≤ f j) (n2 : ∀ j, j < m → 0 ≤ g j) : ap m f g < 1 ↔ ∃ j, j < m ∧ 0 < f j ∧ 0 < g j := by
  have h1 := ap_mn e1 e2
  have h2 := sm_nn (m := m) (f := fun j => mn (f j) (g j)) fun j hj => mn_nn (n1 j hj) (n2 j hj)
  constructor
  · intro hlt
    refine Classical.byContradiction fun hno => ?_
    have : (sm m fun j => mn (f j) (g j)) = 0 := by
      rw [sm_eq (g := fun _ => 0) fun j hj => ?_, sm_z]
      have a1 := n1 j hj
      have a2 := n2 j hj
      have a3 : ¬ (0 < f j ∧ 0 < g j) := fun z => hno ⟨j, hj, z⟩
      unfold mn
      split <;> grind
    grind
  · rintro ⟨j, hj, a1, a2⟩
    have h3 : (sm m fun j => mn (f j) (g j)) ≠ 0 := fun e => by
      have := sm_zero (fun j hj => mn_nn (n1 j hj) (n2 j hj)) e j hj
      unfold mn at this
      split at this <;> grind
    grind
/-- what a step leaves of how far apart -/
theorem ap_step {P : Nat → Nat → Rat} {c : Rat} (e1 : sm m f = 1) (e2 : sm m g = 1) (hc : ∀ i k, i < m → k < m → ap m (P i) (P k) ≤ c) :
    ap m (fun j => sm m fun i => f i * P i j) (fun j => sm m fun i => g i * P i j) ≤ c * ap m f g := by
  obtain ⟨hp, hpd⟩ : ∃ hp : Nat → Rat, hp = fun i => if f i - g i < 0 then 0 else f i - g i := ⟨_, rfl⟩
  obtain ⟨hn, hnd⟩ : ∃ hn : Nat → Rat, hn = fun i => if f i - g i < 0 then -(f i - g i) else 0 := ⟨_, rfl⟩
  have p0 : ∀ i, 0 ≤ hp i := fun i => by rw [hpd]; dsimp only; split <;> grind
  have n0 : ∀ i, 0 ≤ hn i := fun i => by rw [hnd]; dsimp only; split <;> grind
  have d1 : ∀ i, f i - g i = hp i - hn i := fun i => by rw [hpd, hnd]; dsimp only; split <;> grind
  have d2 : ∀ i, ab (f i - g i) = hp i + hn i := fun i => by rw [hpd, hnd]; unfold ab; dsimp only; split <;> grind
  have s1 : sm m hp - sm m hn = 0 := by
    rw [← sm_sub, sm_eq fun j _ => (d1 j).symm, sm_sub, e1, e2]; grind
  have s2 : ap m f g = sm m hp := by
    have h1 := ap2 (m := m) (f := f) (g := g)
    rw [sm_eq fun j _ => d2 j, sm_add] at h1
    grind
  have H0 : 0 ≤ sm m hp := sm_nn fun j _ => p0 j
  have key : ∀ j, sm m hp * ab ((sm m fun i => f i * P i j) - sm m fun i => g i * P i j) ≤ sm m fun i => sm m fun k => hp i * (hn k * ab (P i j - P k j)) := fun j => by
    have a1 : (sm m fun i => f i * P i j) - (sm m fun i => g i * P i j) = (sm m fun i => hp i * P i j) - sm m fun k => hn k * P k j := by
      rw [← sm_sub, ← sm_sub]
      refine sm_eq fun i _ => ?_
      have := d1 i
      grind
    have a2 : (sm m fun i => sm m fun k => hp i * (hn k * (P i j - P k j))) = sm m hp * ((sm m fun i => hp i * P i j) - sm m fun k => hn k * P k j) := by
      have b1 : (sm m fun i => sm m fun k => hp i * (hn k * (P i j - P k j))) = sm m fun i => (hp i * P i j) * sm m hn - hp i * sm m fun k => hn k * P k j := sm_eq fun i _ => by
        rw [sm_mul, ← sm_mul (c := hp i * P i j), ← sm_mul (c := hp i), ← sm_mul (c := hp i), ← sm_sub]
        refine sm_eq fun k _ => ?_
        grind
      rw [b1, sm_sub (f := fun i => (hp i * P i j) * sm m hn) (g := fun i => hp i * sm m fun k => hn k * P k j), sm_mulr, sm_mulr]
      grind
    rw [a1, ← ab_mul H0, ← a2]
    refine Rat.le_trans ab_sm (sm_le fun i _ => Rat.le_trans ab_sm (sm_le fun k _ => ?_))
    rw [ab_mul (p0 i), ab_mul (n0 k)]
    grind
  have tot : sm m hp * (2 * ap m (fun j => sm m fun i => f i * P i j) (fun j => sm m fun i => g i * P i j)) ≤ sm m hp * (2 * (c * sm m hp)) := by
    rw [ap2, ← sm_mul]
    refine Rat.le_trans (sm_le fun j _ => key j) ?_
    rw [sm_swap]
    have : ∀ i, i < m → (sm m fun j => sm m fun k => hp i * (hn k * ab (P i j - P k j))) ≤ hp i * (2 * (c * sm m hp)) := fun i hi => by
      rw [sm_swap]
      have b1 : (sm m fun k => sm m fun j => hp i * (hn k * ab (P i j - P k j))) ≤ sm m fun k => hp i * (hn k * (2 * c)) := sm_le fun k hk => by
        rw [sm_mul, sm_mul, ← ap2]
        refine Rat.mul_le_mul_of_nonneg_left (Rat.mul_le_mul_of_nonneg_left ?_ (n0 k)) (p0 i)
        have := hc i k hi hk
        grind
      refine Rat.le_trans b1 ?_
      rw [sm_mul, sm_mulr]
      have : sm m hn = sm m hp := by grind
      rw [this]
      grind
    refine Rat.le_trans (sm_le this) ?_
    rw [sm_mulr]
    grind
  by_cases hz : sm m hp = 0
  · have hz2 : sm m hn = 0 := by grind
    have q1 := sm_zero (fun j _ => p0 j) hz
    have q2 := sm_zero (fun j _ => n0 j) hz2
    have : ap m (fun j => sm m fun i => f i * P i j) (fun j => sm m fun i => g i * P i j) = 0 := ap_zero.mpr fun j _ => sm_eq fun i hi => by
      have := d1 i
      have := q1 i hi
      have := q2 i hi
      grind
    rw [this, s2, hz]
    grind
  · have hpos : 0 < sm m hp := by grind
    have := Rat.le_of_mul_le_mul_left tot hpos
    rw [s2]
    grind
end
end Law

set_option Elab.async false
set_option linter.all false
set_option maxRecDepth 100000
set_option maxHeartbeats 8000000
namespace Law
open PySem PySem.Spec PyProof.Rows L2 RZ Eng
/-! ### apart -/
theorem ab_fr (q : Rat) : D.tup [.int (if q.num < 0 then -q.num else q.num), .int (q.den : Int)] = fr (ab q) := by
  unfold ab
  by_cases h : q.num < 0
  · have : q < 0 := by
      have : ¬ 0 ≤ q := fun z => by have := Rat.num_nonneg.mpr z; omega
      grind
    rw [if_pos h, if_pos this]
    rfl
  · have : ¬ q < 0 := by
      have : 0 ≤ q := Rat.num_nonneg.mp (by omega)
      grind
    rw [if_neg h, if_neg this]
    rfl
theorem ab_dv (q : Rat) : Rat.divInt (if q.num < 0 then -q.num else q.num) (q.den : Int) = ab q := by
  have h1 : (if q.num < 0 then -q.num else q.num) = (ab q).num ∧ (q.den : Int) = ((ab q).den : Int) := by
    have := ab_fr q
    unfold fr at this
    injection this with h
    injection h with h1 h
    injection h with h2 _
    injection h1 with h1
    injection h2 with h2
    exact ⟨h1, h2⟩
  rw [h1.1, h1.2, Rat.num_divInt_den]
theorem Bd_ab {k : Nat} {q : Rat} (h : Bd k q) : Bd k (ab q) := by
  unfold Law.ab
  split
  · exact h.neg
  · exact h
theorem zip_sh {m : Nat} {f g : Nat → Rat} {i : Nat} {x : D} (h : (zipD ((shL m f).map fr) ((shL m g).map fr))[i]? = some x) : i < m ∧ x = .tup [fr (f i), fr (g i)] := by
  obtain ⟨d, e, h1, h2, rfl⟩ := zipD_inv h
  have hi := (List.getElem?_eq_some_iff.mp h1).1
  rw [List.length_map, shL_len] at hi
  unfold shL at h1 h2
  rw [List.getElem?_map, List.getElem?_map, List.getElem?_range hi] at h1 h2
  cases h1
  cases h2
  exact ⟨hi, rfl⟩
theorem zip_len {m : Nat} {f g : Nat → Rat} : (zipD ((shL m f).map fr) ((shL m g).map fr)).length = m := by
  have : ∀ (a b : List D), a.length = b.length → (zipD a b).length = a.length := by
    intro a
    induction a with
    | nil => intro b h; cases b <;> simp_all [zipD]
    | cons x a ih =>
      intro b h
      cases b with
      | nil => simp at h
      | cons y b => simp only [zipD, List.length_cons] at h ⊢; rw [ih b (by omega)]
  rw [this _ _ (by simp only [List.length_map, shL_len]), List.length_map, shL_len]
theorem c_apart_by (n : Nat) {m k l : Nat} {f g : Nat → Rat} (hf : ∀ j, j < m → Bd k (f j)) (hg : ∀ j, j < m → Bd l (g j)) (hm : m ≤ 6) (hk : k + l ≤ 500) :
    callN TT GG FU (n + 4) "apart_by" [.dat (shT m f), .dat (shT m g)] = .ret (.dat (fr (ap m f g))) [some (.dat (shT m f)), some (.dat (shT m g))] := by
  rw [s_apart_by]
  unfold fn_apart_by ir_apart_by shT
  obtain ⟨en, h1, g3, g4, g5, g6, rfl⟩ := for_nx (Φ := callN TT GG FU (n + 3)) (G := GG) (fu := FU) (tg := [3, 4]) (one := false) (b := lb_apart_by_1) (xs := zipD ((shL m f).map fr) ((shL m g).map fr)) (en := [some (.dat (.tup ((shL m f).map fr))), some (.dat (.tup ((shL m g).map fr))), some (.ml []), none, none, none, none])
    (fun i en => ∃ g3 g4 g5 g6, en = [some (.dat (.tup ((shL m f).map fr))), some (.dat (.tup ((shL m g).map fr))), some (.ml ((shL i fun j => ab (f j - g j)).map fr)), g3, g4, g5, g6]) ⟨none, none, none, none, rfl⟩ (by
    rintro i x en hx ⟨g3, g4, g5, g6, rfl⟩
    obtain ⟨hi, rfl⟩ := zip_sh hx
    have b := (hf i hi).sub (hg i hi)
    have c := c_fraction_less (n + 1) (hf i hi) (hg i hi) (by omega)
    have hd : (0 : Int) < (f i - g i).den := by have := (f i - g i).den_pos; omega
    have c2 := c_fraction (n + 2) (a := if (f i - g i).num < 0 then -(f i - g i).num else (f i - g i).num) (b := (f i - g i).den) (k := k + l + 1) hd b.lt.2.2.2 (by omega)
    rw [ab_dv] at c2
    have e1 : fr (f i - g i) = D.tup [.int (f i - g i).num, .int ((f i - g i).den : Int)] := rfl
    rw [e1] at c
    have e2 : ((shL i fun j => ab (f j - g j)).map fr) ++ [fr (ab (f i - g i))] = (shL (i + 1) fun j => ab (f j - g j)).map fr := by
      unfold shL
      rw [List.range_succ, List.map_append, List.map_append]; rfl
    have hz : ((shL i fun j => ab (f j - g j)).map fr).length < SZ := by rw [List.length_map, shL_len]; unfold SZ; omega
    unfold lb_apart_by_1
    refine ⟨_, .inl ?_, some (.dat (fr (f i))), some (.dat (fr (g i))), some (.dat (.int (f i - g i).num)), some (.dat (.int ((f i - g i).den : Int))), rfl⟩
    simp (disch := first | assumption | (with_unfolding_all exact Eng.bf_of rfl) | omega | (with_unfolding_all exact of_decide_eq_true rfl) | (simp only [List.length_map, List.length_append, List.length_take, List.length_drop, List.length_cons, List.length_nil, List.length_replicate, SZ]; omega)) only [Eng.RU, Nat.reduceAdd, Nat.reduceSub, Nat.reduceLeDiff, decide_true, decide_false, c, c2, hz, e2])
  rw [zip_len] at h1
  have ct := c_total n (qs := shL m fun j => ab (f j - g j)) (k := k + l + 1) (fun q hq => by
    obtain ⟨j, hj, rfl⟩ := shL_mem hq
    exact Bd_ab ((hf j hj).sub (hg j hj))) (by
      rw [shL_len]
      have : (k + l + 1 + 1) * (m + 1) ≤ 502 * 7 := Nat.mul_le_mul (by omega) (by omega)
      omega)
  have bt := Bd.sum (k := k + l + 1) (l := shL m fun j => ab (f j - g j)) fun q hq => by
    obtain ⟨j, hj, rfl⟩ := shL_mem hq
    exact Bd_ab ((hf j hj).sub (hg j hj))
  rw [shL_len] at bt
  have : (k + l + 1 + 1) * m ≤ 502 * 6 := Nat.mul_le_mul (by omega) (by omega)
  have bh : Bd 10 (Rat.divInt 1 2) := Bd.dv (k := 10) (by omega) (by omega) (by omega) (by omega)
  have cc := c_fraction_times (n + 1) bh bt (by omega)
  have eh : D.tup [.int 1, .int 2] = fr (Rat.divInt 1 2) := rfl
  rw [eh.symm] at cc
  simp (disch := first | assumption | (with_unfolding_all exact Eng.bf_of rfl) | omega | (with_unfolding_all exact of_decide_eq_true rfl) | (simp only [List.length_map, List.length_append, List.length_take, List.length_drop, List.length_cons, List.length_nil, List.length_replicate, SZ]; omega)) only [Eng.RU, Nat.reduceAdd, Nat.reduceSub, Nat.reduceLeDiff, decide_true, decide_false, h1, x_gl g_HALF, ct, cc]
  rfl
end Law

set_option Elab.async false
set_option linter.all false
set_option maxRecDepth 100000
set_option maxHeartbeats 8000000
namespace Law
open PySem PySem.Spec PyProof.Rows L2 RZ Eng
/-! ### the greatest -/
def mxr (a b : Rat) : Rat := if b < a then a else b
def mxl (a b : Rat) : Rat := if a < b then b else a
structure Mx (s : Rat → Rat → Rat) : Prop where
  l : ∀ a b, a ≤ s a b
  r : ∀ a b, b ≤ s a b
  o : ∀ a b, s a b = a ∨ s a b = b
theorem mx_r : Mx mxr := ⟨fun a b => by unfold mxr; split <;> grind, fun a b => by unfold mxr; split <;> grind, fun a b => by unfold mxr; split <;> simp⟩
theorem mx_l : Mx mxl := ⟨fun a b => by unfold mxl; split <;> grind, fun a b => by unfold mxl; split <;> grind, fun a b => by unfold mxl; split <;> simp⟩
theorem Mx.ge {s : Rat → Rat → Rat} (h : Mx s) : ∀ (qs : List Rat) (a : Rat), a ≤ qs.foldl s a ∧ ∀ q ∈ qs, q ≤ qs.foldl s a
  | [], a => ⟨by simp only [List.foldl_nil]; grind, by simp⟩
  | q :: qs, a => by
    obtain ⟨h1, h2⟩ := h.ge qs (s a q)
    rw [List.foldl_cons]
    have := h.l a q
    have h4 := h.r a q
    refine ⟨by grind, fun p hp => ?_⟩
    rcases List.mem_cons.mp hp with rfl | hp
    · grind
    · exact h2 p hp
theorem Mx.mem {s : Rat → Rat → Rat} (h : Mx s) : ∀ (qs : List Rat) (a : Rat), qs.foldl s a = a ∨ qs.foldl s a ∈ qs
  | [], a => .inl rfl
  | q :: qs, a => by
    rw [List.foldl_cons]
    rcases h.mem qs (s a q) with e | e
    · rcases h.o a q with e2 | e2
      · exact .inl (by rw [e, e2])
      · exact .inr (by rw [e, e2]; exact List.mem_cons_self)
    · exact .inr (List.mem_cons_of_mem _ e)
theorem fold_take {s : Rat → Rat → Rat} {a : Rat} {l : List Rat} {i : Nat} {q : Rat} (h : l[i]? = some q) : (l.take (i + 1)).foldl s a = s ((l.take i).foldl s a) q := by
  rw [List.take_add_one, h]
  simp only [Option.toList_some, List.foldl_append, List.foldl_cons, List.foldl_nil]
theorem Mx.bd {s : Rat → Rat → Rat} (h : Mx s) {qs : List Rat} {a : Rat} {k : Nat} (ha : Bd k a) (hq : ∀ q ∈ qs, Bd k q) : Bd k (qs.foldl s a) := by
  rcases h.mem qs a with e | e
  · rw [e]; exact ha
  · exact hq _ e
theorem c_greater_of (n : Nat) {p q : Rat} {k l : Nat} (hp : Bd k p) (hq : Bd l q) (h : k + l < 1000000) : callN TT GG FU (n + 2) "greater_of" [.dat (fr p), .dat (fr q)] = .ret (.dat (fr (mxr p q))) [some (.dat (fr p)), some (.dat (fr q))] := by
  rw [s_greater_of]
  unfold fn_greater_of ir_greater_of mxr
  have c := c_is_above n hp hq h
  by_cases hlt : q < p
  · simp (disch := first | assumption | (with_unfolding_all exact Eng.bf_of rfl) | omega | (with_unfolding_all exact of_decide_eq_true rfl) | (simp only [List.length_map, List.length_append, List.length_take, List.length_drop, List.length_cons, List.length_nil, List.length_replicate, SZ]; omega)) only [Eng.RU, Nat.reduceAdd, Nat.reduceSub, Nat.reduceLeDiff, decide_true, decide_false, c, hlt, decide_true, if_true]
  · simp (disch := first | assumption | (with_unfolding_all exact Eng.bf_of rfl) | omega | (with_unfolding_all exact of_decide_eq_true rfl) | (simp only [List.length_map, List.length_append, List.length_take, List.length_drop, List.length_cons, List.length_nil, List.length_replicate, SZ]; omega)) only [Eng.RU, Nat.reduceAdd, Nat.reduceSub, Nat.reduceLeDiff, decide_true, decide_false, c, hlt, decide_false, if_false]
theorem c_greatest_of (n : Nat) {q0 : Rat} {qs : List Rat} {k : Nat} (hq : ∀ q ∈ q0 :: qs, Bd k q) (h : k < 100000) : callN TT GG FU (n + 3) "greatest_of" [.ml ((q0 :: qs).map fr)] = .ret (.dat (fr ((q0 :: qs).foldl mxr q0))) [some (.ml ((q0 :: qs).map fr))] := by
  rw [s_greatest_of]
  unfold fn_greatest_of ir_greatest_of
  obtain ⟨en, h1, f2, rfl⟩ := for_nx (Φ := callN TT GG FU (n + 2)) (G := GG) (fu := FU) (tg := [2]) (one := true) (b := lb_greatest_of_1) (xs := (q0 :: qs).map fr) (en := [none, some (.dat (fr q0)), none])
    (fun i en => ∃ f2, en = [none, some (.dat (fr (((q0 :: qs).take i).foldl mxr q0))), f2]) ⟨none, by simp⟩ (by
    rintro i x en hx ⟨f2, rfl⟩
    rw [List.getElem?_map] at hx
    obtain ⟨q, e1, rfl⟩ := Option.map_eq_some_iff.mp hx
    have c := c_greater_of n (mx_r.bd (hq q0 List.mem_cons_self) (fun q hq2 => hq q (List.mem_of_mem_take hq2)) : Bd k (((q0 :: qs).take i).foldl mxr q0)) (hq q (List.mem_of_getElem? e1)) (by omega)
    rw [← fold_take (s := mxr) (a := q0) e1] at c
    unfold lb_greatest_of_1
    refine ⟨_, .inl ?_, some (.dat (fr q)), rfl⟩
    simp (disch := first | assumption | (with_unfolding_all exact Eng.bf_of rfl) | omega | (with_unfolding_all exact of_decide_eq_true rfl) | (simp only [List.length_map, List.length_append, List.length_take, List.length_drop, List.length_cons, List.length_nil, List.length_replicate, SZ]; omega)) only [Eng.RU, Nat.reduceAdd, Nat.reduceSub, Nat.reduceLeDiff, decide_true, decide_false, c])
  rw [List.length_map, List.take_length] at h1
  rw [List.map_cons] at h1 ⊢
  simp (disch := first | assumption | (with_unfolding_all exact Eng.bf_of rfl) | omega | (with_unfolding_all exact of_decide_eq_true rfl) | (simp only [List.length_map, List.length_append, List.length_take, List.length_drop, List.length_cons, List.length_nil, List.length_replicate, SZ]; omega)) only [Eng.RU, Nat.reduceAdd, Nat.reduceSub, Nat.reduceLeDiff, decide_true, decide_false, h1]
/-! ### the contraction -/
def pl (m : Nat) (P : Nat → Nat → Rat) (i : Nat) : List Rat := (List.range i).flatMap fun a => (List.range m).map fun b => ap m (P a) (P b)
theorem pl_mem {m i : Nat} {P : Nat → Nat → Rat} {q : Rat} : q ∈ pl m P i ↔ ∃ a b, a < i ∧ b < m ∧ q = ap m (P a) (P b) := by
  unfold pl
  rw [List.mem_flatMap]
  constructor
  · rintro ⟨a, ha, hq⟩
    obtain ⟨b, hb, rfl⟩ := List.mem_map.mp hq
    exact ⟨a, b, List.mem_range.mp ha, List.mem_range.mp hb, rfl⟩
  · rintro ⟨a, b, ha, hb, rfl⟩
    exact ⟨a, List.mem_range.mpr ha, List.mem_map_of_mem (List.mem_range.mpr hb)⟩
theorem pl_s {m i : Nat} {P : Nat → Nat → Rat} : pl m P (i + 1) = pl m P i ++ (List.range m).map fun b => ap m (P i) (P b) := by
  unfold pl
  rw [List.range_succ, List.flatMap_append]
  simp
theorem pl_len {m : Nat} {P : Nat → Nat → Rat} : ∀ i, (pl m P i).length = i * m
  | 0 => by simp [pl]
  | i + 1 => by rw [pl_s, List.length_append, pl_len i, List.length_map, List.length_range, Nat.add_mul]; omega
def cn (m : Nat) (P : Nat → Nat → Rat) : Rat := (pl m P m).foldl mxl 0
theorem ap_self {m : Nat} {f : Nat → Rat} : ap m f f = 0 := ap_zero.mpr fun _ _ => rfl
theorem pl_cons {m : Nat} {P : Nat → Nat → Rat} (h : 1 ≤ m) : ∃ qs, pl m P m = 0 :: qs := by
  obtain ⟨m, rfl⟩ : ∃ k, m = k + 1 := ⟨m - 1, by omega⟩
  unfold pl
  rw [List.range_succ_eq_map, List.flatMap_cons, List.map_cons, ap_self]
  exact ⟨_, rfl⟩
theorem cn_ge {m : Nat} {P : Nat → Nat → Rat} {i k : Nat} (hi : i < m) (hk : k < m) : ap m (P i) (P k) ≤ cn m P := (mx_l.ge _ _).2 _ (pl_mem.mpr ⟨i, k, hi, hk, rfl⟩)
theorem cn_nn {m : Nat} {P : Nat → Nat → Rat} : 0 ≤ cn m P := (mx_l.ge _ _).1
theorem cn_mem {m : Nat} {P : Nat → Nat → Rat} (h : 1 ≤ m) : ∃ i k, i < m ∧ k < m ∧ cn m P = ap m (P i) (P k) := by
  rcases mx_l.mem (pl m P m) 0 with e | e
  · exact ⟨0, 0, by omega, by omega, by rw [ap_self]; exact e⟩
  · exact pl_mem.mp e
theorem cn_r {m : Nat} {P : Nat → Nat → Rat} : (pl m P m).foldl mxr 0 = cn m P := by
  have a1 := mx_r.ge (pl m P m) 0
  have a2 := mx_r.mem (pl m P m) 0
  have b1 := mx_l.ge (pl m P m) 0
  have b2 := mx_l.mem (pl m P m) 0
  unfold cn
  have h1 : (pl m P m).foldl mxr 0 ≤ (pl m P m).foldl mxl 0 := by
    rcases a2 with e | e
    · rw [e]; exact b1.1
    · exact b1.2 _ e
  have h2 : (pl m P m).foldl mxl 0 ≤ (pl m P m).foldl mxr 0 := by
    rcases b2 with e | e
    · rw [e]; exact a1.1
    · exact a1.2 _ e
  grind
theorem Bd_ap {m k l : Nat} {f g : Nat → Rat} (hf : ∀ j, j < m → Bd k (f j)) (hg : ∀ j, j < m → Bd l (g j)) (hm : m ≤ 6) : Bd (10 + ((k + l + 2) * 6 + 1)) (ap m f g) := by
  have bt := Bd.sum (k := k + l + 1) (l := shL m fun j => ab (f j - g j)) fun q hq => by
    obtain ⟨j, hj, rfl⟩ := shL_mem hq
    exact Bd_ab ((hf j hj).sub (hg j hj))
  rw [shL_len] at bt
  have : (k + l + 1 + 1) * m ≤ (k + l + 2) * 6 := Nat.mul_le_mul (by omega) (by omega)
  have bh : Bd 10 (Rat.divInt 1 2) := Bd.dv (k := 10) (by omega) (by omega) (by omega) (by omega)
  exact bh.mul (bt.mono (by omega))
section
variable {rows : List (List Int)}
theorem Bd_pl (ht : tabI rows) {i : Nat} (hi : i ≤ rows.length) : ∀ q ∈ pl rows.length (chn rows) i, Bd 150 q := fun q hq => by
  obtain ⟨a, b, ha, hb, rfl⟩ := pl_mem.mp hq
  exact (Bd_ap (fun j hj => chn_bd ht (by omega) hj) (fun j hj => chn_bd ht hb hj) ht.six).mono (by omega)
theorem Bd_cn (ht : tabI rows) : Bd 150 (cn rows.length (chn rows)) := mx_l.bd ⟨by decide, by decide⟩ (Bd_pl ht (Nat.le_refl _))
theorem len_dT : biS1 .len (.dat (dT rows)) = some (.dat (.int (rows.length : Nat))) := by
  unfold dT
  rw [len_t, List.length_map]
theorem c_places (n : Nat) (ht : tabI rows) : callN TT GG FU (n + 1) "places_of" [.dat (dT rows)] = .ret (.ml (rgD 0 (rows.length : Nat))) [some (.dat (dT rows))] := by
  have h6 := ht.six
  have := c_places_of n (rows.map fun r => D.tup (r.map .int)) (by rw [List.length_map]; omega)
  rw [List.length_map] at this
  exact this
theorem c_chances_from (n : Nat) (ht : tabI rows) {i : Nat} (hi : i < rows.length) : callN TT GG FU (n + 3) "chances_from" [.dat (dT rows), .dat (.int (i : Nat))] = .ret (.dat (shT rows.length (chn rows i))) [some (.dat (dT rows)), some (.dat (.int (i : Nat)))] := by
  rw [s_chances_from]
  unfold fn_chances_from ir_chances_from
  have h6 := ht.six
  have cp := c_places (n + 1) ht
  simp (disch := first | assumption | (with_unfolding_all exact Eng.bf_of rfl) | omega | (with_unfolding_all exact of_decide_eq_true rfl) | (simp only [List.length_map, List.length_append, List.length_take, List.length_drop, List.length_cons, List.length_nil, List.length_replicate, SZ]; omega)) only [Eng.RU, Nat.reduceAdd, Nat.reduceSub, Nat.reduceLeDiff, decide_true, decide_false, cp]
  rw [lc_map (g := fun d => match d with | .int k => fr (chn rows i k.toNat) | _ => .non) (by rw [rg_len]; unfold SZ; omega) fun k y acc hy hacc => by
    obtain ⟨rfl, hk⟩ := rg_mem hy
    have c := c_chance_by n ht hi hk
    simp (disch := first | assumption | (with_unfolding_all exact Eng.bf_of rfl) | omega | (with_unfolding_all exact of_decide_eq_true rfl) | (simp only [List.length_map, List.length_append, List.length_take, List.length_drop, List.length_cons, List.length_nil, List.length_replicate, SZ]; omega)) only [Eng.RU, Nat.reduceAdd, Nat.reduceSub, Nat.reduceLeDiff, decide_true, decide_false, c]
    rfl]
  rw [rg_mapN (f := fun j => fr (chn rows i j)) fun j _ => rfl]
  simp (disch := first | assumption | (with_unfolding_all exact Eng.bf_of rfl) | omega | (with_unfolding_all exact of_decide_eq_true rfl) | (simp only [List.length_map, List.length_append, List.length_take, List.length_drop, List.length_cons, List.length_nil, List.length_replicate, SZ]; omega)) only [Eng.RU, Nat.reduceAdd, Nat.reduceSub, Nat.reduceLeDiff, decide_true, decide_false]
  unfold shT shL
  rw [List.map_map]; rfl
theorem shT_map {m : Nat} {P : Nat → Nat → Rat} {i : Nat} {x : D} (h : ((List.range m).map fun i => shT m (P i))[i]? = some x) : i < m ∧ x = shT m (P i) := by
  rw [List.getElem?_map] at h
  obtain ⟨j, h1, rfl⟩ := Option.map_eq_some_iff.mp h
  have hi := (List.getElem?_eq_some_iff.mp h1).1
  rw [List.length_range] at hi
  rw [List.getElem?_range hi] at h1
  cases h1
  exact ⟨hi, rfl⟩
theorem c_contraction_by (n : Nat) (ht : tabI rows) : callN TT GG FU (n + 6) "contraction_by" [.dat (dT rows)] = .ret (.dat (fr (cn rows.length (chn rows)))) [some (.dat (dT rows))] := by
  rw [s_contraction_by]
  unfold fn_contraction_by ir_contraction_by
  have h6 := ht.six
  have h1 := ht.pos
  have cp := c_places (n + 4) ht
  simp (disch := first | assumption | (with_unfolding_all exact Eng.bf_of rfl) | omega | (with_unfolding_all exact of_decide_eq_true rfl) | (simp only [List.length_map, List.length_append, List.length_take, List.length_drop, List.length_cons, List.length_nil, List.length_replicate, SZ]; omega)) only [Eng.RU, Nat.reduceAdd, Nat.reduceSub, Nat.reduceLeDiff, decide_true, decide_false, cp]
  rw [lc_map (g := fun d => match d with | .int k => shT rows.length (chn rows k.toNat) | _ => .non) (by rw [rg_len]; unfold SZ; omega) fun k y acc hy hacc => by
    obtain ⟨rfl, hk⟩ := rg_mem hy
    have c := c_chances_from (n + 2) ht hk
    simp (disch := first | assumption | (with_unfolding_all exact Eng.bf_of rfl) | omega | (with_unfolding_all exact of_decide_eq_true rfl) | (simp only [List.length_map, List.length_append, List.length_take, List.length_drop, List.length_cons, List.length_nil, List.length_replicate, SZ]; omega)) only [Eng.RU, Nat.reduceAdd, Nat.reduceSub, Nat.reduceLeDiff, decide_true, decide_false, c]
    rfl]
  rw [rg_mapN (f := fun j => shT rows.length (chn rows j)) fun j _ => rfl]
  simp (disch := first | assumption | (with_unfolding_all exact Eng.bf_of rfl) | omega | (with_unfolding_all exact of_decide_eq_true rfl) | (simp only [List.length_map, List.length_append, List.length_take, List.length_drop, List.length_cons, List.length_nil, List.length_replicate, SZ]; omega)) only [Eng.RU, Nat.reduceAdd, Nat.reduceSub, Nat.reduceLeDiff, decide_true, decide_false]
  obtain ⟨acc, en, h2, rfl, rfl⟩ := l2_inv (Φ := callN TT GG FU (n + 5)) (G := GG) (elt := (.call "apart_by" (.cons (.var 2) (.cons (.var 3) .nil)))) (ifs := .nil) (tg := [2]) (one := true) (tg2 := [3]) (one2 := true) (k2 := .seq) (src2 := (.cons (.var 1) .nil)) (ifs2 := .nil) (own := [2, 3]) (own2 := [3]) (xs := (List.range rows.length).map fun j => shT rows.length (chn rows j)) (acc0 := []) (en := [some (.dat (dT rows)), some (.dat (.lst ((List.range rows.length).map fun j => shT rows.length (chn rows j)))), none, none])
    (fun i acc en => acc = (pl rows.length (chn rows) i).map fr ∧ en = [some (.dat (dT rows)), some (.dat (.lst ((List.range rows.length).map fun j => shT rows.length (chn rows j)))), none, none]) ⟨rfl, rfl⟩ (by
    rintro i x acc en hx ⟨rfl, rfl⟩
    obtain ⟨hi, rfl⟩ := shT_map hx
    have hi6 : i * rows.length ≤ 6 * 6 := Nat.mul_le_mul (by omega) h6
    refine ⟨(pl rows.length (chn rows) (i + 1)).map fr, _, ?_, rfl, rfl⟩
    obtain ⟨acc2, en2, h3, rfl, rfl⟩ := lc_inv (Φ := callN TT GG FU (n + 5)) (G := GG) (elt := (.call "apart_by" (.cons (.var 2) (.cons (.var 3) .nil)))) (ifs := .nil) (tg := [3]) (one := true) (own := [3]) (xs := (List.range rows.length).map fun j => shT rows.length (chn rows j)) (acc0 := (pl rows.length (chn rows) i).map fr) (en := [some (.dat (dT rows)), some (.dat (.lst ((List.range rows.length).map fun j => shT rows.length (chn rows j)))), some (.dat (shT rows.length (chn rows i))), none])
      (fun k acc en => acc = (pl rows.length (chn rows) i ++ (List.range k).map fun b => ap rows.length (chn rows i) (chn rows b)).map fr ∧ en = [some (.dat (dT rows)), some (.dat (.lst ((List.range rows.length).map fun j => shT rows.length (chn rows j)))), some (.dat (shT rows.length (chn rows i))), none]) ⟨by simp, rfl⟩ (by
      rintro k y acc2 en2 hy ⟨rfl, rfl⟩
      obtain ⟨hk, rfl⟩ := shT_map hy
      have c := c_apart_by (n + 1) (fun j hj => chn_bd ht hi hj) (fun j hj => chn_bd ht hk hj) h6 (by omega)
      have hz : ((pl rows.length (chn rows) i ++ (List.range k).map fun b => ap rows.length (chn rows i) (chn rows b)).map fr).length < SZ := by
        rw [List.length_map, List.length_append, pl_len, List.length_map, List.length_range]; unfold SZ; omega
      have e3 : (pl rows.length (chn rows) i ++ (List.range k).map fun b => ap rows.length (chn rows i) (chn rows b)).map fr ++ [fr (ap rows.length (chn rows i) (chn rows k))] = (pl rows.length (chn rows) i ++ (List.range (k + 1)).map fun b => ap rows.length (chn rows i) (chn rows b)).map fr := by
        rw [List.range_succ, List.map_append (l₁ := List.range k), ← List.append_assoc, List.map_append (l₁ := _ ++ _)]; rfl
      refine ⟨(pl rows.length (chn rows) i ++ (List.range (k + 1)).map fun b => ap rows.length (chn rows i) (chn rows b)).map fr, _, ?_, rfl, rfl⟩
      simp (disch := first | assumption | (with_unfolding_all exact Eng.bf_of rfl) | omega | (with_unfolding_all exact of_decide_eq_true rfl) | (simp only [List.length_map, List.length_append, List.length_take, List.length_drop, List.length_cons, List.length_nil, List.length_replicate, SZ]; omega)) only [Eng.RU, Nat.reduceAdd, Nat.reduceSub, Nat.reduceLeDiff, decide_true, decide_false, c, hz, e3])
    rw [List.length_map, List.length_range, ← pl_s] at h3
    simp (disch := first | assumption | (with_unfolding_all exact Eng.bf_of rfl) | omega | (with_unfolding_all exact of_decide_eq_true rfl) | (simp only [List.length_map, List.length_append, List.length_take, List.length_drop, List.length_cons, List.length_nil, List.length_replicate, SZ]; omega)) only [Eng.RU, Nat.reduceAdd, Nat.reduceSub, Nat.reduceLeDiff, decide_true, decide_false, h3])
  rw [List.length_map, List.length_range] at h2
  obtain ⟨qs, eq⟩ := pl_cons (P := chn rows) h1
  have cg := c_greatest_of (n + 2) (q0 := 0) (qs := qs) (k := 150) (by rw [← eq]; exact Bd_pl ht (Nat.le_refl _)) (by omega)
  rw [← eq, cn_r] at cg
  simp (disch := first | assumption | (with_unfolding_all exact Eng.bf_of rfl) | omega | (with_unfolding_all exact of_decide_eq_true rfl) | (simp only [List.length_map, List.length_append, List.length_take, List.length_drop, List.length_cons, List.length_nil, List.length_replicate, SZ]; omega)) only [Eng.RU, Nat.reduceAdd, Nat.reduceSub, Nat.reduceLeDiff, decide_true, decide_false, h2, cg]
theorem c_contraction (n : Nat) (ht : tabI rows) : callN TT GG FU (n + 7) "contraction" [.dat (dT rows)] = .ret (.dat (fr (cn rows.length (chn rows)))) [some (.dat (dT rows))] := by
  rw [s_contraction]
  unfold fn_contraction ir_contraction
  have c1 := c_check_table (n + 1) (dT rows) (nofn_dT rows) (fit_dT ht) (tab_dT ht)
  have c2 := c_contraction_by n ht
  simp (disch := first | assumption | (with_unfolding_all exact Eng.bf_of rfl) | omega | (with_unfolding_all exact of_decide_eq_true rfl) | (simp only [List.length_map, List.length_append, List.length_take, List.length_drop, List.length_cons, List.length_nil, List.length_replicate, SZ]; omega)) only [Eng.RU, Nat.reduceAdd, Nat.reduceSub, Nat.reduceLeDiff, decide_true, decide_false, c1, c2]
theorem c_apart (n : Nat) (ht : tabI rows) {k l : Nat} {f g : Nat → Rat} (hf : Shr rows.length k f) (hg : Shr rows.length l g) (hk : k + l ≤ 500) : callN TT GG FU (n + 7) "apart" [.dat (dT rows), .dat (shT rows.length f), .dat (shT rows.length g)] = .ret (.dat (fr (ap rows.length f g))) [some (.dat (dT rows)), some (.dat (shT rows.length f)), some (.dat (shT rows.length g))] := by
  rw [s_apart]
  unfold fn_apart ir_apart
  have c1 := c_check_table (n + 1) (dT rows) (nofn_dT rows) (fit_dT ht) (tab_dT ht)
  have c2 := c_check_shares n rfl hf ht.six (by omega)
  have c3 := c_check_shares n rfl hg ht.six (by omega)
  have c4 := c_apart_by (n + 2) hf.bd hg.bd ht.six hk
  simp (disch := first | assumption | (with_unfolding_all exact Eng.bf_of rfl) | omega | (with_unfolding_all exact of_decide_eq_true rfl) | (simp only [List.length_map, List.length_append, List.length_take, List.length_drop, List.length_cons, List.length_nil, List.length_replicate, SZ]; omega)) only [Eng.RU, Nat.reduceAdd, Nat.reduceSub, Nat.reduceLeDiff, decide_true, decide_false, c1, c2, c3, c4]
end
end Law

set_option Elab.async false
set_option linter.all false
set_option maxRecDepth 100000
set_option maxHeartbeats 8000000
namespace Law
open PySem PySem.Spec PyProof.Rows L2 RZ Eng
/-! ### led -/
def st (rows : List (List Int)) (f : Nat → Rat) (j : Nat) : Rat := sm rows.length fun i => f i * chn rows i j
section
variable {rows : List (List Int)} {k : Nat} {f : Nat → Rat}
theorem enum_sh {m : Nat} {i : Nat} {x : D} (h : (enumD 0 ((shL m f).map fr))[i]? = some x) : i < m ∧ x = .tup [.int (i : Nat), fr (f i)] := by
  obtain ⟨d, h1, rfl⟩ := enumD_inv h
  have hi := (List.getElem?_eq_some_iff.mp h1).1
  rw [List.length_map, shL_len] at hi
  unfold shL at h1
  rw [List.getElem?_map, List.getElem?_map, List.getElem?_range hi] at h1
  cases h1
  rw [Nat.zero_add]
  exact ⟨hi, rfl⟩
theorem Bd_st (ht : tabI rows) (hf : ∀ j, j < rows.length → Bd k (f j)) {j : Nat} (hj : j < rows.length) : Bd ((k + 11) * 6 + 1) (st rows f j) := by
  have bt := Bd.sum (k := k + 10) (l := shL rows.length fun i => f i * chn rows i j) fun q hq => by
    obtain ⟨i, hi, rfl⟩ := shL_mem hq
    exact (hf i hi).mul (chn_bd ht hi hj)
  rw [shL_len] at bt
  have h6 := ht.six
  have : (k + 10 + 1) * rows.length ≤ (k + 11) * 6 := Nat.mul_le_mul (by omega) (by omega)
  exact bt.mono (by omega)
theorem st_shr (ht : tabI rows) (hf : Shr rows.length k f) : Shr rows.length ((k + 11) * 6 + 1) (st rows f) := by
  refine ⟨fun j hj => sm_nn fun i hi => Rat.mul_nonneg (hf.nn i hi) (chn_nn ht hi hj), ?_, fun j hj => Bd_st ht hf.bd hj⟩
  rw [shL_sm]
  unfold st
  rw [sm_swap (f := fun j i => f i * chn rows i j)]
  have : ∀ i, i < rows.length → (sm rows.length fun j => f i * chn rows i j) = f i := fun i hi => by
    have := chn_one ht hi
    rw [shL_sm] at this
    rw [sm_mul, this]; grind
  rw [sm_eq this]
  exact hf.one
theorem c_share_behind (n : Nat) (ht : tabI rows) (hf : ∀ j, j < rows.length → Bd k (f j)) (hk : k ≤ 300) {j : Nat} (hj : j < rows.length) : callN TT GG FU (n + 4) "share_behind" [.dat (dT rows), .dat (shT rows.length f), .dat (.int (j : Nat))] = .ret (.dat (fr (st rows f j))) [some (.dat (dT rows)), some (.dat (shT rows.length f)), some (.dat (.int (j : Nat)))] := by
  rw [s_share_behind]
  unfold fn_share_behind ir_share_behind shT
  have h6 := ht.six
  have hlen : (enumD 0 ((shL rows.length f).map fr)).length = rows.length := by rw [enumD_len, List.length_map, shL_len]
  simp (disch := first | assumption | (with_unfolding_all exact Eng.bf_of rfl) | omega | (with_unfolding_all exact of_decide_eq_true rfl) | (simp only [List.length_map, List.length_append, List.length_take, List.length_drop, List.length_cons, List.length_nil, List.length_replicate, SZ]; omega)) only [Eng.RU, Nat.reduceAdd, Nat.reduceSub, Nat.reduceLeDiff, decide_true, decide_false]
  rw [lc_map (g := fun d => match d with | .tup [.int i, _] => fr (f i.toNat * chn rows i.toNat j) | _ => .non) (by rw [hlen]; unfold SZ; omega) fun i x acc hx hacc => by
    obtain ⟨hi, rfl⟩ := enum_sh hx
    have c1 := c_chance_by (n + 1) ht hi hj
    have c2 := c_fraction_times (n + 1) (hf i hi) (chn_bd ht hi hj) (by omega)
    simp (disch := first | assumption | (with_unfolding_all exact Eng.bf_of rfl) | omega | (with_unfolding_all exact of_decide_eq_true rfl) | (simp only [List.length_map, List.length_append, List.length_take, List.length_drop, List.length_cons, List.length_nil, List.length_replicate, SZ]; omega)) only [Eng.RU, Nat.reduceAdd, Nat.reduceSub, Nat.reduceLeDiff, decide_true, decide_false, c1, c2]
    rfl]
  have e : (enumD 0 ((shL rows.length f).map fr)).map (fun d => match d with | .tup [.int i, _] => fr (f i.toNat * chn rows i.toNat j) | _ => .non) = (shL rows.length fun i => f i * chn rows i j).map fr := by
    apply List.ext_getElem?
    intro i
    by_cases hi : i < rows.length
    · have h1 : (enumD 0 ((shL rows.length f).map fr))[i]? = some (.tup [.int (i : Nat), fr (f i)]) := by
        obtain ⟨x, hx⟩ : ∃ x, (enumD 0 ((shL rows.length f).map fr))[i]? = some x := ⟨_, List.getElem?_eq_getElem (by rw [hlen]; exact hi)⟩
        rw [hx, (enum_sh hx).2]
      rw [List.getElem?_map, h1]
      unfold shL
      rw [List.getElem?_map, List.getElem?_map, List.getElem?_range hi]; rfl
    · rw [List.getElem?_eq_none (by rw [List.length_map, hlen]; omega), List.getElem?_eq_none (by rw [List.length_map, shL_len]; omega)]
  rw [e]
  have ct := c_total n (qs := shL rows.length fun i => f i * chn rows i j) (k := k + 10) (fun q hq => by
    obtain ⟨i, hi, rfl⟩ := shL_mem hq
    exact (hf i hi).mul (chn_bd ht hi hj)) (by
      rw [shL_len]
      have : (k + 10 + 1) * (rows.length + 1) ≤ 311 * 7 := Nat.mul_le_mul (by omega) (by omega)
      omega)
  simp (disch := first | assumption | (with_unfolding_all exact Eng.bf_of rfl) | omega | (with_unfolding_all exact of_decide_eq_true rfl) | (simp only [List.length_map, List.length_append, List.length_take, List.length_drop, List.length_cons, List.length_nil, List.length_replicate, SZ]; omega)) only [Eng.RU, Nat.reduceAdd, Nat.reduceSub, Nat.reduceLeDiff, decide_true, decide_false, ct]
  rfl
theorem c_led_once (n : Nat) (ht : tabI rows) (hf : ∀ j, j < rows.length → Bd k (f j)) (hk : k ≤ 300) : callN TT GG FU (n + 5) "led_once" [.dat (dT rows), .dat (shT rows.length f)] = .ret (.dat (shT rows.length (st rows f))) [some (.dat (dT rows)), some (.dat (shT rows.length f))] := by
  rw [s_led_once]
  unfold fn_led_once ir_led_once
  have h6 := ht.six
  have cp := c_places (n + 3) ht
  simp (disch := first | assumption | (with_unfolding_all exact Eng.bf_of rfl) | omega | (with_unfolding_all exact of_decide_eq_true rfl) | (simp only [List.length_map, List.length_append, List.length_take, List.length_drop, List.length_cons, List.length_nil, List.length_replicate, SZ]; omega)) only [Eng.RU, Nat.reduceAdd, Nat.reduceSub, Nat.reduceLeDiff, decide_true, decide_false, cp]
  rw [lc_map (g := fun d => match d with | .int k => fr (st rows f k.toNat) | _ => .non) (by rw [rg_len]; unfold SZ; omega) fun i y acc hy hacc => by
    obtain ⟨rfl, hi⟩ := rg_mem hy
    have c := c_share_behind n ht hf hk hi
    simp (disch := first | assumption | (with_unfolding_all exact Eng.bf_of rfl) | omega | (with_unfolding_all exact of_decide_eq_true rfl) | (simp only [List.length_map, List.length_append, List.length_take, List.length_drop, List.length_cons, List.length_nil, List.length_replicate, SZ]; omega)) only [Eng.RU, Nat.reduceAdd, Nat.reduceSub, Nat.reduceLeDiff, decide_true, decide_false, c]
    rfl]
  rw [rg_mapN (f := fun j => fr (st rows f j)) fun j _ => rfl]
  have e5 : D.tup ((List.range rows.length).map fun j => fr (st rows f j)) = shT rows.length (st rows f) := by
    unfold shT shL
    rw [List.map_map]; rfl
  simp (disch := first | assumption | (with_unfolding_all exact Eng.bf_of rfl) | omega | (with_unfolding_all exact of_decide_eq_true rfl) | (simp only [List.length_map, List.length_append, List.length_take, List.length_drop, List.length_cons, List.length_nil, List.length_replicate, SZ]; omega)) only [Eng.RU, Nat.reduceAdd, Nat.reduceSub, Nat.reduceLeDiff, decide_true, decide_false, e5]
theorem c_led_by (n : Nat) (ht : tabI rows) (hf : ∀ j, j < rows.length → Bd k (f j)) (hk : k ≤ 300) : callN TT GG FU (n + 6) "led_by" [.dat (dT rows), .dat (shT rows.length f), .dat (.int 1)] = .ret (.dat (shT rows.length (st rows f))) [some (.dat (dT rows)), none, some (.dat (.int 1))] := by
  rw [s_led_by]
  unfold fn_led_by ir_led_by
  obtain ⟨en, h1, g3, rfl⟩ := for_nx (Φ := callN TT GG FU (n + 5)) (G := GG) (fu := FU) (tg := [3]) (one := true) (b := lb_led_by_1) (xs := rgD 0 1) (en := [some (.dat (dT rows)), some (.dat (shT rows.length f)), some (.dat (.int 1)), none])
    (fun i en => ∃ g3, en = [some (.dat (dT rows)), some (.dat (shT rows.length (if i = 0 then f else st rows f))), some (.dat (.int 1)), g3]) ⟨none, rfl⟩ (by
    rintro i x en hx ⟨g3, rfl⟩
    obtain ⟨rfl, hi⟩ := rgD_get hx
    obtain rfl : i = 0 := by omega
    have c := c_led_once n ht hf hk
    unfold lb_led_by_1
    refine ⟨_, .inl ?_, some (.dat (.int (0 + ((0 : Nat) : Int)))), rfl⟩
    rw [if_pos rfl, if_neg (by omega)]
    simp (disch := first | assumption | (with_unfolding_all exact Eng.bf_of rfl) | omega | (with_unfolding_all exact of_decide_eq_true rfl) | (simp only [List.length_map, List.length_append, List.length_take, List.length_drop, List.length_cons, List.length_nil, List.length_replicate, SZ]; omega)) only [Eng.RU, Nat.reduceAdd, Nat.reduceSub, Nat.reduceLeDiff, decide_true, decide_false, c])
  have h1' : kFor (callN TT GG FU (n + 5)) GG FU [3] true lb_led_by_1 (rgD 0 1) [some (.dat (dT rows)), some (.dat (shT rows.length f)), some (.dat (.int 1)), none] = .nx [some (.dat (dT rows)), some (.dat (shT rows.length (st rows f))), some (.dat (.int 1)), g3] := h1
  simp (disch := first | assumption | (with_unfolding_all exact Eng.bf_of rfl) | omega | (with_unfolding_all exact of_decide_eq_true rfl) | (simp only [List.length_map, List.length_append, List.length_take, List.length_drop, List.length_cons, List.length_nil, List.length_replicate, SZ]; omega)) only [Eng.RU, Nat.reduceAdd, Nat.reduceSub, Nat.reduceLeDiff, decide_true, decide_false, h1']
theorem c_check_times (n : Nat) {v lo hi : Int} (h1 : lo ≤ v) (h2 : v ≤ hi) : callN TT GG FU (n + 3) "check_times" [.dat (.int v), .dat (.int lo), .dat (.int hi)] = .ret (.dat .non) [some (.dat (.int v)), some (.dat (.int lo)), some (.dat (.int hi))] := by
  rw [s_check_times]
  unfold fn_check_times ir_check_times
  have c := c_is_between n (.int v) lo hi rfl
  have e : btw (.int v) lo hi = true := by simp [btw, h1, h2]
  simp (disch := first | assumption | (with_unfolding_all exact Eng.bf_of rfl) | omega | (with_unfolding_all exact of_decide_eq_true rfl) | (simp only [List.length_map, List.length_append, List.length_take, List.length_drop, List.length_cons, List.length_nil, List.length_replicate, SZ]; omega)) only [Eng.RU, Nat.reduceAdd, Nat.reduceSub, Nat.reduceLeDiff, decide_true, decide_false, c, e]
theorem c_led (n : Nat) (ht : tabI rows) (hf : Shr rows.length k f) (hk : k ≤ 300) : callN TT GG FU (n + 7) "led" [.dat (dT rows), .dat (shT rows.length f), .dat (.int 1)] = .ret (.dat (shT rows.length (st rows f))) [some (.dat (dT rows)), some (.dat (shT rows.length f)), some (.dat (.int 1))] := by
  rw [s_led]
  unfold fn_led ir_led
  have c1 := c_check_table (n + 1) (dT rows) (nofn_dT rows) (fit_dT ht) (tab_dT ht)
  have c2 := c_check_shares n rfl hf ht.six (by omega)
  have c3 := c_check_times (n + 3) (v := 1) (lo := 0) (hi := 60) (by omega) (by omega)
  have c4 := c_led_by n ht hf.bd hk
  simp (disch := first | assumption | (with_unfolding_all exact Eng.bf_of rfl) | omega | (with_unfolding_all exact of_decide_eq_true rfl) | (simp only [List.length_map, List.length_append, List.length_take, List.length_drop, List.length_cons, List.length_nil, List.length_replicate, SZ]; omega)) only [Eng.RU, Nat.reduceAdd, Nat.reduceSub, Nat.reduceLeDiff, decide_true, decide_false, c1, c2, x_gl g_MOST_STEPS, c3, c4]
end
end Law

set_option Elab.async false
set_option linter.all false
set_option maxRecDepth 100000
set_option maxHeartbeats 8000000
namespace Law
open PySem PySem.Spec PyProof.Rows L2 RZ Eng
/-! ### _law_same of a thing and itself -/
def Sm (n : Nat) (d : D) : Prop := callN TT GG FU n "_law_same" [.dat d, .dat d] = .ret (.dat (.bl true)) [some (.dat d), some (.dat d)]
theorem same_i (n : Nat) (i : Int) : Sm (n + 1) (.int i) := by
  unfold Sm
  rw [s__law_same]
  unfold fn__law_same ir__law_same
  simp (disch := first | assumption | (with_unfolding_all exact Eng.bf_of rfl) | omega | (with_unfolding_all exact of_decide_eq_true rfl) | (simp only [List.length_map, List.length_append, List.length_take, List.length_drop, List.length_cons, List.length_nil, List.length_replicate, SZ]; omega)) only [Eng.RU, Nat.reduceAdd, Nat.reduceSub, Nat.reduceLeDiff, decide_true, decide_false, decide_true]
theorem same_b (n : Nat) (i : Bool) : Sm (n + 1) (.bl i) := by
  unfold Sm
  rw [s__law_same]
  unfold fn__law_same ir__law_same
  have e : cmpS .Eq (.dat (.bl i)) (.dat (.bl i)) = some true := by cases i <;> rfl
  simp (disch := first | assumption | (with_unfolding_all exact Eng.bf_of rfl) | omega | (with_unfolding_all exact of_decide_eq_true rfl) | (simp only [List.length_map, List.length_append, List.length_take, List.length_drop, List.length_cons, List.length_nil, List.length_replicate, SZ]; omega)) only [Eng.RU, Nat.reduceAdd, Nat.reduceSub, Nat.reduceLeDiff, decide_true, decide_false, e]
theorem same_t {n : Nat} {xs : List D} (hl : xs.length ≤ 1000) (h : ∀ x ∈ xs, Sm n x) : Sm (n + 1) (.tup xs) := by
  unfold Sm
  rw [s__law_same]
  unfold fn__law_same ir__law_same
  simp (disch := first | assumption | (with_unfolding_all exact Eng.bf_of rfl) | omega | (with_unfolding_all exact of_decide_eq_true rfl) | (simp only [List.length_map, List.length_append, List.length_take, List.length_drop, List.length_cons, List.length_nil, List.length_replicate, SZ]; omega)) only [Eng.RU, Nat.reduceAdd, Nat.reduceSub, Nat.reduceLeDiff, decide_true, decide_false, decide_true]
  rw [lc_map (g := fun x => .bl true) (by rw [rg_len]; unfold SZ; omega) fun k y acc hy hacc => by
    obtain ⟨rfl, hk⟩ := rg_mem hy
    have e : atI xs ((k : Nat) : Int) = some xs[k] := by rw [at_nat, List.getElem?_eq_getElem hk]
    have hs : callN TT GG FU n "_law_same" [.dat xs[k], .dat xs[k]] = _ := h xs[k] (List.getElem_mem hk)
    simp (disch := first | assumption | (with_unfolding_all exact Eng.bf_of rfl) | omega | (with_unfolding_all exact of_decide_eq_true rfl) | (simp only [List.length_map, List.length_append, List.length_take, List.length_drop, List.length_cons, List.length_nil, List.length_replicate, SZ]; omega)) only [Eng.RU, Nat.reduceAdd, Nat.reduceSub, Nat.reduceLeDiff, decide_true, decide_false, e, hs]]
  have e0 : ((rgD 0 (xs.length : Nat)).all fun _ => true) = true := by simp
  simp (disch := first | assumption | (with_unfolding_all exact Eng.bf_of rfl) | omega | (with_unfolding_all exact of_decide_eq_true rfl) | (simp only [List.length_map, List.length_append, List.length_take, List.length_drop, List.length_cons, List.length_nil, List.length_replicate, SZ]; omega)) only [Eng.RU, Nat.reduceAdd, Nat.reduceSub, Nat.reduceLeDiff, decide_true, decide_false, e0]
theorem same_m {n : Nat} {xs : List D} (hl : xs.length ≤ 1000) (h : ∀ x ∈ xs, Sm n x) : callN TT GG FU (n + 1) "_law_same" [.ml xs, .ml xs] = .ret (.dat (.bl true)) [some (.ml xs), some (.ml xs)] := by
  rw [s__law_same]
  unfold fn__law_same ir__law_same
  simp (disch := first | assumption | (with_unfolding_all exact Eng.bf_of rfl) | omega | (with_unfolding_all exact of_decide_eq_true rfl) | (simp only [List.length_map, List.length_append, List.length_take, List.length_drop, List.length_cons, List.length_nil, List.length_replicate, SZ]; omega)) only [Eng.RU, Nat.reduceAdd, Nat.reduceSub, Nat.reduceLeDiff, decide_true, decide_false, decide_true]
  rw [lc_map (g := fun x => .bl true) (by rw [rg_len]; unfold SZ; omega) fun k y acc hy hacc => by
    obtain ⟨rfl, hk⟩ := rg_mem hy
    have e : atI xs ((k : Nat) : Int) = some xs[k] := by rw [at_nat, List.getElem?_eq_getElem hk]
    have hs : callN TT GG FU n "_law_same" [.dat xs[k], .dat xs[k]] = _ := h xs[k] (List.getElem_mem hk)
    simp (disch := first | assumption | (with_unfolding_all exact Eng.bf_of rfl) | omega | (with_unfolding_all exact of_decide_eq_true rfl) | (simp only [List.length_map, List.length_append, List.length_take, List.length_drop, List.length_cons, List.length_nil, List.length_replicate, SZ]; omega)) only [Eng.RU, Nat.reduceAdd, Nat.reduceSub, Nat.reduceLeDiff, decide_true, decide_false, e, hs]]
  have e0 : ((rgD 0 (xs.length : Nat)).all fun _ => true) = true := by simp
  simp (disch := first | assumption | (with_unfolding_all exact Eng.bf_of rfl) | omega | (with_unfolding_all exact of_decide_eq_true rfl) | (simp only [List.length_map, List.length_append, List.length_take, List.length_drop, List.length_cons, List.length_nil, List.length_replicate, SZ]; omega)) only [Eng.RU, Nat.reduceAdd, Nat.reduceSub, Nat.reduceLeDiff, decide_true, decide_false, e0]
theorem same_fr (n : Nat) (q : Rat) : Sm (n + 2) (fr q) := same_t (by simp) fun x hx => by
  simp at hx
  rcases hx with rfl | rfl <;> exact same_i n _
end Law

set_option Elab.async false
set_option linter.all false
set_option maxRecDepth 100000
set_option maxHeartbeats 8000000
namespace Law
open PySem PySem.Spec PyProof.Rows L2 RZ Eng
/-! ### the law's own fractions: _law_part by Euclid's rounds -/
theorem gcd_step (a b : Int) (ha : 0 ≤ a) (hb : 0 < b) : Int.gcd b (a % b) = Int.gcd a b := by
  obtain ⟨m, rfl⟩ := Int.eq_ofNat_of_zero_le ha
  obtain ⟨k, rfl⟩ := Int.eq_ofNat_of_zero_le (Int.le_of_lt hb)
  show Nat.gcd _ _ = Nat.gcd _ _
  simp only [Int.natAbs_natCast]
  rw [show ((m : Int) % (k : Int)).natAbs = m % k from by rw [← Int.natCast_emod]; rfl]
  rw [Nat.gcd_comm k, ← Nat.gcd_rec, Nat.gcd_comm]
theorem half_step {a b : Int} (ha : 0 ≤ a) (hb : 0 < b) (hr : 0 < a % b) : 2 * (b % (a % b)) < b := by
  have h1 := Int.emod_lt_of_pos a hb
  have h2 := Int.emod_lt_of_pos b hr
  have h3 := Int.emod_nonneg b (show a % b ≠ 0 by omega)
  have h4 := Int.emod_add_mul_ediv b (a % b)
  have h5 : 1 ≤ b / (a % b) := by
    exact (Int.le_ediv_iff_mul_le hr).mpr (by omega)
  have h6 := Int.mul_le_mul_of_nonneg_left h5 (Int.le_of_lt hr)
  rw [Int.mul_one] at h6
  omega
theorem euclid (n : Nat) (o p : Option S) : ∀ (k m : Nat) (a b : Int), b < 2 ^ k → 2 * k < m → 0 ≤ a → 0 ≤ b → kWhl (callN TT GG FU n) GG FU lc__law_part_2 lb__law_part_1 m [o, p, some (.dat (.int a)), some (.dat (.int b))] = .nx [o, p, some (.dat (.int (Int.gcd a b : Int))), some (.dat (.int 0))] := by
  have stop : ∀ (m : Nat) (a : Int), 0 < m → 0 ≤ a → kWhl (callN TT GG FU n) GG FU lc__law_part_2 lb__law_part_1 m [o, p, some (.dat (.int a)), some (.dat (.int 0))] = .nx [o, p, some (.dat (.int (Int.gcd a 0 : Int))), some (.dat (.int 0))] := by
    intro m a h1 ha
    obtain ⟨m, rfl⟩ : ∃ m', m = m' + 1 := ⟨m - 1, by omega⟩
    rw [kWhl_s]
    unfold lc__law_part_2
    simp (disch := first | assumption | (with_unfolding_all exact Eng.bf_of rfl) | omega | (with_unfolding_all exact of_decide_eq_true rfl) | (simp only [List.length_map, List.length_append, List.length_take, List.length_drop, List.length_cons, List.length_nil, List.length_replicate, SZ]; omega)) only [Eng.RU, Nat.reduceAdd, Nat.reduceSub, Nat.reduceLeDiff, decide_true, decide_false, Int.lt_irrefl, decide_false]
    have : (Int.gcd a 0 : Int) = a := by simp [Int.gcd_zero_right]; omega
    rw [this]
  have step : ∀ (m : Nat) (a b : Int), 0 < b → kWhl (callN TT GG FU n) GG FU lc__law_part_2 lb__law_part_1 (m + 1) [o, p, some (.dat (.int a)), some (.dat (.int b))] = kWhl (callN TT GG FU n) GG FU lc__law_part_2 lb__law_part_1 m [o, p, some (.dat (.int b)), some (.dat (.int (a % b)))] := by
    intro m a b hp
    rw [kWhl_s]
    unfold lc__law_part_2 lb__law_part_1
    simp (disch := first | assumption | (with_unfolding_all exact Eng.bf_of rfl) | omega | (with_unfolding_all exact of_decide_eq_true rfl) | (simp only [List.length_map, List.length_append, List.length_take, List.length_drop, List.length_cons, List.length_nil, List.length_replicate, SZ]; omega)) only [Eng.RU, Nat.reduceAdd, Nat.reduceSub, Nat.reduceLeDiff, decide_true, decide_false, hp, decide_true]
  intro k
  induction k with
  | zero =>
    intro m a b h1 h2 ha hb
    have : b = 0 := by have : (2 : Int) ^ 0 = 1 := rfl; omega
    subst this
    exact stop m a (by omega) ha
  | succ k ih =>
    intro m a b h1 h2 ha hb
    by_cases h0 : b = 0
    · subst h0
      exact stop m a (by omega) ha
    · have hp : 0 < b := by omega
      have hr := Int.emod_nonneg a (show b ≠ 0 by omega)
      obtain ⟨m, rfl⟩ : ∃ m', m = m' + 2 := ⟨m - 2, by omega⟩
      rw [step (m + 1) a b hp, ← gcd_step a b ha hp]
      by_cases h9 : a % b = 0
      · rw [h9]
        exact stop (m + 1) b (by omega) hb
      · have hq : 0 < a % b := by omega
        have hh := half_step ha hp hq
        rw [step m b (a % b) hq, ← gcd_step b (a % b) hb hq]
        refine ih m (a % b) (b % (a % b)) ?_ (by omega) hr (Int.emod_nonneg b (by omega))
        have e : (2 : Int) ^ (k + 1) = 2 ^ k + 2 ^ k := by rw [Int.pow_succ]; omega
        omega
end Law

set_option Elab.async false
set_option linter.all false
set_option maxRecDepth 100000
set_option maxHeartbeats 8000000
namespace Law
open PySem PySem.Spec PyProof.Rows L2 RZ Eng
theorem c__law_part (n : Nat) {a b : Int} {k : Nat} (hb : 0 < b) (hk : b < 2 ^ k) (h : k < 9000) : callN TT GG FU (n + 1) "_law_part" [.dat (.int a), .dat (.int b)] = .ret (.dat (fr (Rat.divInt a b))) [none, none] := by
  rw [s__law_part]
  unfold fn__law_part ir__law_part
  have hg := gcd_pos (a := a) hb
  have hl := gcd_log (a := a) hb hk
  have e2 : ¬ b < 0 := by omega
  have f1 : ∀ i : Int, binS .FloorDiv (.dat (.int i)) (.dat (.int ((Int.gcd a b : Nat) : Int))) = some (.dat (.int (i / ((Int.gcd a b : Nat) : Int)))) := fun i => fdv_i ⟨hg, by omega⟩
  have ea : 0 ≤ (if a < 0 then -a else a) := by split <;> omega
  have eg : Int.gcd (if a < 0 then -a else a) b = Int.gcd a b := by
    split
    · exact Int.neg_gcd
    · rfl
  have eu := euclid n (some (.dat (.int a))) (some (.dat (.int b))) k FU (if a < 0 then -a else a) b hk (by unfold FU; omega) ea (by omega)
  rw [eg] at eu
  simp (disch := first | assumption | (with_unfolding_all exact Eng.bf_of rfl) | omega | (with_unfolding_all exact of_decide_eq_true rfl) | (simp only [List.length_map, List.length_append, List.length_take, List.length_drop, List.length_cons, List.length_nil, List.length_replicate, SZ]; omega)) only [Eng.RU, Nat.reduceAdd, Nat.reduceSub, Nat.reduceLeDiff, decide_true, decide_false, e2, eu, f1]
  unfold fr
  rw [dv_num hb, dv_den hb]
end Law

set_option Elab.async false
set_option linter.all false
set_option maxRecDepth 100000
set_option maxHeartbeats 8000000
namespace Law
open PySem PySem.Spec PyProof.Rows L2 RZ Eng
theorem c__law_plus (n : Nat) {p q : Rat} {k l : Nat} (hp : Bd k p) (hq : Bd l q) (h : k + l < 9000) : callN TT GG FU (n + 2) "_law_plus" [.dat (fr p), .dat (fr q)] = .ret (.dat (fr (p + q))) [some (.dat (fr p)), some (.dat (fr q))] := by
  rw [s__law_plus]
  unfold fn__law_plus ir__law_plus
  have m1 := two_mul_lt hp.num hq.den (by omega)
  have m2 := two_mul_lt hq.num hp.den (by omega)
  have m3 := two_mul_lt hp.den hq.den (by omega)
  have hd := p.den_pos
  have hd2 := q.den_pos
  have c := c__law_part n (a := p.num * q.den + q.num * p.den) (b := (p.den : Int) * q.den) (k := k + l) (Int.mul_pos (by omega) (by omega)) (lt_natAbs (natAbs_mul_lt (nat_int hp.2) (nat_int hq.2))).2 h
  rw [← sum_eq] at c
  have e1 : fr p = D.tup [.int p.num, .int (p.den : Int)] := rfl
  have e2 : fr q = D.tup [.int q.num, .int (q.den : Int)] := rfl
  rw [e1, e2]
  simp (disch := first | assumption | (with_unfolding_all exact Eng.bf_of rfl) | omega | (with_unfolding_all exact of_decide_eq_true rfl) | (simp only [List.length_map, List.length_append, List.length_take, List.length_drop, List.length_cons, List.length_nil, List.length_replicate, SZ]; omega)) only [Eng.RU, Nat.reduceAdd, Nat.reduceSub, Nat.reduceLeDiff, decide_true, decide_false, m1, m2, m3, c]
theorem c__law_by (n : Nat) {p q : Rat} {k l : Nat} (hp : Bd k p) (hq : Bd l q) (h : k + l < 9000) : callN TT GG FU (n + 2) "_law_by" [.dat (fr p), .dat (fr q)] = .ret (.dat (fr (p * q))) [some (.dat (fr p)), some (.dat (fr q))] := by
  rw [s__law_by]
  unfold fn__law_by ir__law_by
  have m1 := two_mul_lt hp.num hq.num (by omega)
  have m3 := two_mul_lt hp.den hq.den (by omega)
  have hd := p.den_pos
  have hd2 := q.den_pos
  have c := c__law_part n (a := p.num * q.num) (b := (p.den : Int) * q.den) (k := k + l) (Int.mul_pos (by omega) (by omega)) (lt_natAbs (natAbs_mul_lt (nat_int hp.2) (nat_int hq.2))).2 h
  rw [← mul_eq] at c
  have e1 : fr p = D.tup [.int p.num, .int (p.den : Int)] := rfl
  have e2 : fr q = D.tup [.int q.num, .int (q.den : Int)] := rfl
  rw [e1, e2]
  simp (disch := first | assumption | (with_unfolding_all exact Eng.bf_of rfl) | omega | (with_unfolding_all exact of_decide_eq_true rfl) | (simp only [List.length_map, List.length_append, List.length_take, List.length_drop, List.length_cons, List.length_nil, List.length_replicate, SZ]; omega)) only [Eng.RU, Nat.reduceAdd, Nat.reduceSub, Nat.reduceLeDiff, decide_true, decide_false, m1, m3, c]
end Law

set_option Elab.async false
set_option linter.all false
set_option maxRecDepth 100000
set_option maxHeartbeats 8000000
namespace Law
open PySem PySem.Spec PyProof.Rows L2 RZ Eng
theorem c__law_less (n : Nat) {p q : Rat} {k l : Nat} (hp : Bd k p) (hq : Bd l q) (h : k + l < 9000) : callN TT GG FU (n + 2) "_law_less" [.dat (fr p), .dat (fr q)] = .ret (.dat (fr (p - q))) [some (.dat (fr p)), some (.dat (fr q))] := by
  rw [s__law_less]
  unfold fn__law_less ir__law_less
  have m1 := two_mul_lt hp.num hq.den (by omega)
  have m2 := two_mul_lt hq.num hp.den (by omega)
  have m3 := two_mul_lt hp.den hq.den (by omega)
  have hd := p.den_pos
  have hd2 := q.den_pos
  have c := c__law_part n (a := p.num * q.den - q.num * p.den) (b := (p.den : Int) * q.den) (k := k + l) (Int.mul_pos (by omega) (by omega)) (lt_natAbs (natAbs_mul_lt (nat_int hp.2) (nat_int hq.2))).2 h
  rw [← sub_eq] at c
  have e1 : fr p = D.tup [.int p.num, .int (p.den : Int)] := rfl
  have e2 : fr q = D.tup [.int q.num, .int (q.den : Int)] := rfl
  rw [e1, e2]
  simp (disch := first | assumption | (with_unfolding_all exact Eng.bf_of rfl) | omega | (with_unfolding_all exact of_decide_eq_true rfl) | (simp only [List.length_map, List.length_append, List.length_take, List.length_drop, List.length_cons, List.length_nil, List.length_replicate, SZ]; omega)) only [Eng.RU, Nat.reduceAdd, Nat.reduceSub, Nat.reduceLeDiff, decide_true, decide_false, m1, m2, m3, c]
end Law

set_option Elab.async false
set_option linter.all false
set_option maxRecDepth 100000
set_option maxHeartbeats 8000000
namespace Law
open PySem PySem.Spec PyProof.Rows L2 RZ Eng
theorem c__law_is_below (n : Nat) {p q : Rat} {k l : Nat} (hp : Bd k p) (hq : Bd l q) (h : k + l < 1000000) : callN TT GG FU (n + 1) "_law_is_below" [.dat (fr p), .dat (fr q)] = .ret (.dat (.bl (decide (p < q)))) [some (.dat (fr p)), some (.dat (fr q))] := by
  rw [s__law_is_below]
  unfold fn__law_is_below ir__law_is_below
  have m1 := two_mul_lt hp.num hq.den (by omega)
  have m2 := two_mul_lt hq.num hp.den (by omega)
  have e1 : fr p = D.tup [.int p.num, .int (p.den : Int)] := rfl
  have e2 : fr q = D.tup [.int q.num, .int (q.den : Int)] := rfl
  have e3 : decide (p < q) = decide (p.num * (q.den : Int) < q.num * p.den) := decide_eq_decide.mpr (Rat.lt_iff p q)
  rw [e3, e1, e2]
  simp (disch := first | assumption | (with_unfolding_all exact Eng.bf_of rfl) | omega | (with_unfolding_all exact of_decide_eq_true rfl) | (simp only [List.length_map, List.length_append, List.length_take, List.length_drop, List.length_cons, List.length_nil, List.length_replicate, SZ]; omega)) only [Eng.RU, Nat.reduceAdd, Nat.reduceSub, Nat.reduceLeDiff, decide_true, decide_false, m1, m2]
end Law

set_option Elab.async false
set_option linter.all false
set_option maxRecDepth 100000
set_option maxHeartbeats 8000000
namespace Law
open PySem PySem.Spec PyProof.Rows L2 RZ Eng
/-! ### the law's own chances, how far apart, contraction -/
section
variable {rows : List (List Int)}
theorem c_law_chance (n : Nat) (ht : tabI rows) {i j : Nat} (hi : i < rows.length) (hj : j < rows.length) : callN TT GG FU (n + 2) "_law_chance" [.dat (dT rows), .dat (.int (i : Nat)), .dat (.int (j : Nat))] = .ret (.dat (fr (chn rows i j))) [some (.dat (dT rows)), some (.dat (.int (i : Nat))), some (.dat (.int (j : Nat)))] := by
  rw [s__law_chance]
  unfold fn__law_chance ir__law_chance dT
  obtain ⟨r, x, e1, e2, h1, h2⟩ := tab_at ht hi hj
  obtain ⟨h3, h4⟩ := row_sum_of ht e1
  have c := c__law_part n (a := x) (b := r.sum) (k := 10) (by omega) (by omega) (by omega)
  rw [← chn_eq e1 e2] at c
  simp (disch := first | assumption | (with_unfolding_all exact Eng.bf_of rfl) | omega | (with_unfolding_all exact of_decide_eq_true rfl) | (simp only [List.length_map, List.length_append, List.length_take, List.length_drop, List.length_cons, List.length_nil, List.length_replicate, SZ]; omega)) only [Eng.RU, Nat.reduceAdd, Nat.reduceSub, Nat.reduceLeDiff, decide_true, decide_false, dT_row e1, row_at e2, c]
theorem c_law_apart (n : Nat) {m k l : Nat} {f g : Nat → Rat} {a b : D} (hf : ∀ j, j < m → Bd k (f j)) (hg : ∀ j, j < m → Bd l (g j)) (hm : m ≤ 6) (hk : k + l ≤ 500) (hz : itD .zip [.dat a, .dat b] = some (zipD ((shL m f).map fr) ((shL m g).map fr))) :
    callN TT GG FU (n + 4) "_law_apart" [.dat a, .dat b] = .ret (.dat (fr (ap m f g))) [some (.dat a), some (.dat b)] := by
  rw [s__law_apart]
  unfold fn__law_apart ir__law_apart
  have hb : ∀ i, i ≤ m → Bd ((k + l + 2) * 6 + 1) (sm i fun j => ab (f j - g j)) := fun i hi => by
    have bt := Bd.sum (k := k + l + 1) (l := shL i fun j => ab (f j - g j)) fun q hq => by
      obtain ⟨j, hj, rfl⟩ := shL_mem hq
      exact Bd_ab ((hf j (by omega)).sub (hg j (by omega)))
    rw [shL_len] at bt
    have : (k + l + 1 + 1) * i ≤ (k + l + 2) * 6 := Nat.mul_le_mul (by omega) (by omega)
    exact bt.mono (by omega)
  obtain ⟨en, h1, g3, g4, g5, rfl⟩ := for_nx (Φ := callN TT GG FU (n + 3)) (G := GG) (fu := FU) (tg := [3, 4]) (one := false) (b := lb__law_apart_1) (xs := zipD ((shL m f).map fr) ((shL m g).map fr)) (en := [some (.dat a), some (.dat b), some (.dat (fr 0)), none, none, none])
    (fun i en => ∃ g3 g4 g5, en = [some (.dat a), some (.dat b), some (.dat (fr (sm i fun j => ab (f j - g j)))), g3, g4, g5]) ⟨none, none, none, rfl⟩ (by
    rintro i x en hx ⟨g3, g4, g5, rfl⟩
    obtain ⟨hi, rfl⟩ := zip_sh hx
    have b := (hf i hi).sub (hg i hi)
    have c := c__law_less (n + 1) (hf i hi) (hg i hi) (by omega)
    have c2 := c__law_plus (n + 1) (hb i (by omega)) (Bd_ab b) (by omega)
    rw [← sm_s (f := fun j => ab (f j - g j)), ← ab_fr] at c2
    have e1 : fr (f i - g i) = D.tup [.int (f i - g i).num, .int ((f i - g i).den : Int)] := rfl
    rw [e1] at c
    unfold lb__law_apart_1
    refine ⟨_, .inl ?_, some (.dat (fr (f i))), some (.dat (fr (g i))), some (.dat (.tup [.int (f i - g i).num, .int ((f i - g i).den : Int)])), rfl⟩
    simp (disch := first | assumption | (with_unfolding_all exact Eng.bf_of rfl) | omega | (with_unfolding_all exact of_decide_eq_true rfl) | (simp only [List.length_map, List.length_append, List.length_take, List.length_drop, List.length_cons, List.length_nil, List.length_replicate, SZ]; omega)) only [Eng.RU, Nat.reduceAdd, Nat.reduceSub, Nat.reduceLeDiff, decide_true, decide_false, c, c2])
  rw [zip_len] at h1
  have bh : Bd 10 (Rat.divInt 1 2) := Bd.dv (k := 10) (by omega) (by omega) (by omega) (by omega)
  have cc := c__law_by (n + 1) (hb m (Nat.le_refl _)) bh (by omega)
  have eh : D.tup [.int 1, .int 2] = fr (Rat.divInt 1 2) := rfl
  rw [eh.symm, Rat.mul_comm] at cc
  simp (disch := first | assumption | (with_unfolding_all exact Eng.bf_of rfl) | omega | (with_unfolding_all exact of_decide_eq_true rfl) | (simp only [List.length_map, List.length_append, List.length_take, List.length_drop, List.length_cons, List.length_nil, List.length_replicate, SZ]; omega)) only [Eng.RU, Nat.reduceAdd, Nat.reduceSub, Nat.reduceLeDiff, decide_true, decide_false, fr_0, hz, h1, cc]
  rfl
theorem shT_nth {rows : List (List Int)} {m : Nat} {g : Nat → D} {i : Nat} {x : D} (h : ((List.range m).map g)[i]? = some x) : i < m ∧ x = g i := by
  rw [List.getElem?_map] at h
  obtain ⟨j, h1, rfl⟩ := Option.map_eq_some_iff.mp h
  have hi := (List.getElem?_eq_some_iff.mp h1).1
  rw [List.length_range] at hi
  rw [List.getElem?_range hi] at h1
  cases h1
  exact ⟨hi, rfl⟩
def shM (m : Nat) (f : Nat → Rat) : D := .lst ((shL m f).map fr)
def rowsM (rows : List (List Int)) : List D := (List.range rows.length).map fun i => shM rows.length (chn rows i)
/-- a list of lists of chances -/
theorem cl_1 (n : Nat) (ht : tabI rows) {i k : Nat} (hi : i < rows.length) (hk : k < rows.length) (e2 e5 : Option S) : kForS (callN TT GG FU (n + 5)) GG FU lb__law_contraction_1 (setD [some (.dat (dT rows)), some (.dat (shM rows.length (chn rows i))), e2, none, some (.dat (fr ((pl rows.length (chn rows) i ++ (List.range k).map fun b => ap rows.length (chn rows i) (chn rows b)).foldl mxl 0))), e5] [2] true (shM rows.length (chn rows k))) =
    .nx [some (.dat (dT rows)), some (.dat (shM rows.length (chn rows i))), some (.dat (shM rows.length (chn rows k))), none, some (.dat (fr ((pl rows.length (chn rows) i ++ (List.range (k + 1)).map fun b => ap rows.length (chn rows i) (chn rows b)).foldl mxl 0))), some (.dat (fr (ap rows.length (chn rows i) (chn rows k))))] := by
  unfold lb__law_contraction_1
  have c := c_law_apart (n + 1) (a := shM rows.length (chn rows i)) (b := shM rows.length (chn rows k)) (fun j hj => chn_bd ht hi hj) (fun j hj => chn_bd ht hk hj) ht.six (by omega) rfl
  have b0 : Bd 150 ((pl rows.length (chn rows) i ++ (List.range k).map fun b => ap rows.length (chn rows i) (chn rows b)).foldl mxl 0) := mx_l.bd ⟨by decide, by decide⟩ fun q hq => by
    rcases List.mem_append.mp hq with z | z
    · exact Bd_pl ht (by omega) q z
    · obtain ⟨b, hb, rfl⟩ := List.mem_map.mp z
      have hb := List.mem_range.mp hb
      exact (Bd_ap (fun j hj => chn_bd ht hi hj) (fun j hj => chn_bd ht (by omega) hj) ht.six).mono (by omega)
  have b1 : Bd 150 (ap rows.length (chn rows i) (chn rows k)) := (Bd_ap (fun j hj => chn_bd ht hi hj) (fun j hj => chn_bd ht hk hj) ht.six).mono (by omega)
  have c2 := c__law_is_below (n + 4) b0 b1 (by omega)
  have e3 : (pl rows.length (chn rows) i ++ (List.range (k + 1)).map fun b => ap rows.length (chn rows i) (chn rows b)).foldl mxl 0 = mxl ((pl rows.length (chn rows) i ++ (List.range k).map fun b => ap rows.length (chn rows i) (chn rows b)).foldl mxl 0) (ap rows.length (chn rows i) (chn rows k)) := by
    rw [List.range_succ, List.map_append, ← List.append_assoc, List.foldl_append (l := _ ++ _)]; rfl
  rw [e3]
  unfold mxl at c2 ⊢
  by_cases hlt : (pl rows.length (chn rows) i ++ (List.range k).map fun b => ap rows.length (chn rows i) (chn rows b)).foldl (fun a b => if a < b then b else a) 0 < ap rows.length (chn rows i) (chn rows k)
  · rw [decide_eq_true hlt] at c2
    rw [if_pos hlt]
    simp (disch := first | assumption | (with_unfolding_all exact Eng.bf_of rfl) | omega | (with_unfolding_all exact of_decide_eq_true rfl) | (simp only [List.length_map, List.length_append, List.length_take, List.length_drop, List.length_cons, List.length_nil, List.length_replicate, SZ]; omega)) only [Eng.RU, Nat.reduceAdd, Nat.reduceSub, Nat.reduceLeDiff, decide_true, decide_false, c, c2]
  · rw [decide_eq_false hlt] at c2
    rw [if_neg hlt]
    simp (disch := first | assumption | (with_unfolding_all exact Eng.bf_of rfl) | omega | (with_unfolding_all exact of_decide_eq_true rfl) | (simp only [List.length_map, List.length_append, List.length_take, List.length_drop, List.length_cons, List.length_nil, List.length_replicate, SZ]; omega)) only [Eng.RU, Nat.reduceAdd, Nat.reduceSub, Nat.reduceLeDiff, decide_true, decide_false, c, c2]
theorem rowsM_at {i : Nat} {x : D} (h : (rowsM rows)[i]? = some x) : i < rows.length ∧ x = shM rows.length (chn rows i) := shT_nth (rows := rows) h
theorem rowsM_len : (rowsM rows).length = rows.length := by unfold rowsM; simp
theorem cl_2 (n : Nat) (ht : tabI rows) {i : Nat} (hi : i < rows.length) (e1 e2 e5 : Option S) : ∃ g2 g5, kForS (callN TT GG FU (n + 5)) GG FU lb__law_contraction_2 (setD [some (.dat (dT rows)), e1, e2, some (.dat (.lst (rowsM rows))), some (.dat (fr ((pl rows.length (chn rows) i).foldl mxl 0))), e5] [1] true (shM rows.length (chn rows i))) =
    .nx [some (.dat (dT rows)), some (.dat (shM rows.length (chn rows i))), g2, some (.dat (.lst (rowsM rows))), some (.dat (fr ((pl rows.length (chn rows) (i + 1)).foldl mxl 0))), g5] := by
  unfold lb__law_contraction_2
  obtain ⟨en, h1, g2, g5, rfl⟩ := for_nx (Φ := callN TT GG FU (n + 5)) (G := GG) (fu := FU) (tg := [2]) (one := true) (b := lb__law_contraction_1) (xs := rowsM rows) (en := [some (.dat (dT rows)), some (.dat (shM rows.length (chn rows i))), e2, none, some (.dat (fr ((pl rows.length (chn rows) i).foldl mxl 0))), e5])
    (fun k en => ∃ g2 g5, en = [some (.dat (dT rows)), some (.dat (shM rows.length (chn rows i))), g2, none, some (.dat (fr ((pl rows.length (chn rows) i ++ (List.range k).map fun b => ap rows.length (chn rows i) (chn rows b)).foldl mxl 0))), g5]) ⟨e2, e5, by simp⟩ (by
    rintro k x en hx ⟨g2, g5, rfl⟩
    obtain ⟨hk, rfl⟩ := rowsM_at hx
    exact ⟨_, .inl (cl_1 n ht hi hk g2 g5), _, _, rfl⟩)
  rw [rowsM_len, ← pl_s] at h1
  refine ⟨g2, g5, ?_⟩
  simp (disch := first | assumption | (with_unfolding_all exact Eng.bf_of rfl) | omega | (with_unfolding_all exact of_decide_eq_true rfl) | (simp only [List.length_map, List.length_append, List.length_take, List.length_drop, List.length_cons, List.length_nil, List.length_replicate, SZ]; omega)) only [Eng.RU, Nat.reduceAdd, Nat.reduceSub, Nat.reduceLeDiff, decide_true, decide_false, h1]
theorem c_law_contraction (n : Nat) (ht : tabI rows) : callN TT GG FU (n + 6) "_law_contraction" [.dat (dT rows)] = .ret (.dat (fr (cn rows.length (chn rows)))) [some (.dat (dT rows))] := by
  rw [s__law_contraction]
  unfold fn__law_contraction ir__law_contraction
  have h6 := ht.six
  simp (disch := first | assumption | (with_unfolding_all exact Eng.bf_of rfl) | omega | (with_unfolding_all exact of_decide_eq_true rfl) | (simp only [List.length_map, List.length_append, List.length_take, List.length_drop, List.length_cons, List.length_nil, List.length_replicate, SZ]; omega)) only [Eng.RU, Nat.reduceAdd, Nat.reduceSub, Nat.reduceLeDiff, decide_true, decide_false, len_dT]
  rw [lc_map (g := fun d => match d with | .int k => shM rows.length (chn rows k.toNat) | _ => .non) (by rw [rg_len]; unfold SZ; omega) fun k y acc hy hacc => by
    obtain ⟨rfl, hk⟩ := rg_mem hy
    simp (disch := first | assumption | (with_unfolding_all exact Eng.bf_of rfl) | omega | (with_unfolding_all exact of_decide_eq_true rfl) | (simp only [List.length_map, List.length_append, List.length_take, List.length_drop, List.length_cons, List.length_nil, List.length_replicate, SZ]; omega)) only [Eng.RU, Nat.reduceAdd, Nat.reduceSub, Nat.reduceLeDiff, decide_true, decide_false, len_dT]
    rw [lc_map (g := fun d => match d with | .int j => fr (chn rows k j.toNat) | _ => .non) (by rw [rg_len]; unfold SZ; omega) fun j y acc hy hacc => by
      obtain ⟨rfl, hj⟩ := rg_mem hy
      have c := c_law_chance (n + 3) ht hk hj
      simp (disch := first | assumption | (with_unfolding_all exact Eng.bf_of rfl) | omega | (with_unfolding_all exact of_decide_eq_true rfl) | (simp only [List.length_map, List.length_append, List.length_take, List.length_drop, List.length_cons, List.length_nil, List.length_replicate, SZ]; omega)) only [Eng.RU, Nat.reduceAdd, Nat.reduceSub, Nat.reduceLeDiff, decide_true, decide_false, c]
      rfl]
    rw [rg_mapN (f := fun j => fr (chn rows k j)) fun j _ => rfl]
    have e5 : D.lst ((List.range rows.length).map fun j => fr (chn rows k j)) = shM rows.length (chn rows k) := by
      unfold shM shL
      rw [List.map_map]; rfl
    simp (disch := first | assumption | (with_unfolding_all exact Eng.bf_of rfl) | omega | (with_unfolding_all exact of_decide_eq_true rfl) | (simp only [List.length_map, List.length_append, List.length_take, List.length_drop, List.length_cons, List.length_nil, List.length_replicate, SZ]; omega)) only [Eng.RU, Nat.reduceAdd, Nat.reduceSub, Nat.reduceLeDiff, decide_true, decide_false, e5]
    rfl]
  rw [rg_mapN (f := fun j => shM rows.length (chn rows j)) fun j _ => rfl]
  have e6 : ((List.range rows.length).map fun j => shM rows.length (chn rows j)) = rowsM rows := rfl
  obtain ⟨en, h1, g1, g2, g5, rfl⟩ := for_nx (Φ := callN TT GG FU (n + 5)) (G := GG) (fu := FU) (tg := [1]) (one := true) (b := lb__law_contraction_2) (xs := rowsM rows) (en := [some (.dat (dT rows)), none, none, some (.dat (.lst (rowsM rows))), some (.dat (fr 0)), none])
    (fun i en => ∃ g1 g2 g5, en = [some (.dat (dT rows)), g1, g2, some (.dat (.lst (rowsM rows))), some (.dat (fr ((pl rows.length (chn rows) i).foldl mxl 0))), g5]) ⟨none, none, none, rfl⟩ (by
    rintro i x en hx ⟨g1, g2, g5, rfl⟩
    obtain ⟨hi, rfl⟩ := rowsM_at hx
    obtain ⟨q2, q5, h⟩ := cl_2 n ht hi g1 g2 g5
    exact ⟨_, .inl h, _, _, _, rfl⟩)
  rw [rowsM_len] at h1
  rw [e6]
  simp (disch := first | assumption | (with_unfolding_all exact Eng.bf_of rfl) | omega | (with_unfolding_all exact of_decide_eq_true rfl) | (simp only [List.length_map, List.length_append, List.length_take, List.length_drop, List.length_cons, List.length_nil, List.length_replicate, SZ]; omega)) only [Eng.RU, Nat.reduceAdd, Nat.reduceSub, Nat.reduceLeDiff, decide_true, decide_false, fr_0, h1]
  rfl
end
end Law

set_option Elab.async false
set_option linter.all false
set_option maxRecDepth 100000
set_option maxHeartbeats 8000000
namespace Law
open PySem PySem.Spec PyProof.Rows L2 RZ Eng
/-! ### draws -/
def Pool (B : Int) (s : List D) : Prop := ∃ a b c, s = [.int a, .int b, .int c] ∧ 0 ≤ a ∧ 0 ≤ b ∧ b < 2147483648 ∧ 0 ≤ c ∧ c ≤ B
theorem Pool.mono {B B' : Int} {p : List D} (h : Pool B p) (hb : B ≤ B') : Pool B' p := by
  obtain ⟨a, b, c, rfl, h1, h2, h3, h4, h5⟩ := h
  exact ⟨a, b, c, rfl, h1, h2, h3, h4, by omega⟩
theorem c_take (n : Nat) {p : List D} {B m : Int} (hp : Pool B p) (hB : B < 1000000000000) (h : 0 < m) (h2 : m < 1000000) : ∃ r p', callN TT GG FU (n + 1) "_law_take" [.ml p, .dat (.int m)] = .ret (.dat (.int r)) [some (.ml p'), some (.dat (.int m))] ∧ Pool (B + 1) p' ∧ 0 ≤ r ∧ r < m := by
  obtain ⟨a, b, c, rfl, ha, hb, hb2, hc, hc2⟩ := hp
  rw [s__law_take]
  unfold fn__law_take ir__law_take
  by_cases h0 : 0 < a
  · simp (disch := first | assumption | (with_unfolding_all exact Eng.bf_of rfl) | omega | (with_unfolding_all exact of_decide_eq_true rfl) | (simp only [List.length_map, List.length_append, List.length_take, List.length_drop, List.length_cons, List.length_nil, List.length_replicate, SZ]; omega)) only [Eng.RU, Nat.reduceAdd, Nat.reduceSub, Nat.reduceLeDiff, decide_true, decide_false, h0, decide_true]
    exact ⟨_, _, rfl, ⟨_, _, _, rfl, Int.ediv_nonneg ha (by omega), hb, hb2, hc, by omega⟩, Int.emod_nonneg _ (by omega), Int.emod_lt_of_pos _ h⟩
  · simp (disch := first | assumption | (with_unfolding_all exact Eng.bf_of rfl) | omega | (with_unfolding_all exact of_decide_eq_true rfl) | (simp only [List.length_map, List.length_append, List.length_take, List.length_drop, List.length_cons, List.length_nil, List.length_replicate, SZ]; omega)) only [Eng.RU, Nat.reduceAdd, Nat.reduceSub, Nat.reduceLeDiff, decide_true, decide_false, h0, decide_false]
    exact ⟨_, _, rfl, ⟨_, _, _, rfl, ha, Int.emod_nonneg _ (by decide), Int.lt_of_lt_of_le (Int.emod_lt_of_pos _ (by decide)) (by decide), by omega, by omega⟩, Int.emod_nonneg _ (by omega), Int.emod_lt_of_pos _ h⟩
theorem c_of_t (n : Nat) {p : List D} {B : Int} {xs : List D} (hp : Pool B p) (hB : B < 1000000000000) (h : xs ≠ []) (h2 : xs.length < 1000000) : ∃ x p', x ∈ xs ∧ callN TT GG FU (n + 2) "_law_of" [.ml p, .dat (.tup xs)] = .ret (.dat x) [some (.ml p'), some (.dat (.tup xs))] ∧ Pool (B + 1) p' := by
  rw [s__law_of]
  unfold fn__law_of ir__law_of
  have hl : 0 < xs.length := List.length_pos_iff.mpr h
  obtain ⟨r, p', h3, h4, h5, h6⟩ := c_take n (m := xs.length) hp hB (by omega) (by omega)
  obtain ⟨k, rfl⟩ := Int.eq_ofNat_of_zero_le h5
  have hk : k < xs.length := by omega
  have e : atI xs ((k : Nat) : Int) = some xs[k] := by rw [at_nat, List.getElem?_eq_getElem hk]
  simp (disch := first | assumption | (with_unfolding_all exact Eng.bf_of rfl) | omega | (with_unfolding_all exact of_decide_eq_true rfl) | (simp only [List.length_map, List.length_append, List.length_take, List.length_drop, List.length_cons, List.length_nil, List.length_replicate, SZ]; omega)) only [Eng.RU, Nat.reduceAdd, Nat.reduceSub, Nat.reduceLeDiff, decide_true, decide_false, h3, e]
  exact ⟨_, p', List.getElem_mem hk, rfl, h4⟩
end Law

set_option Elab.async false
set_option linter.all false
set_option maxRecDepth 100000
set_option maxHeartbeats 8000000
namespace Law
open PySem PySem.Spec PyProof.Rows L2 RZ Eng
/-! ### drawn shares -/
theorem sum_li {ns : List Int} : biS1 .sum (.dat (.lst (ns.map .int))) = some (.dat (.int ns.sum)) := sum_ti (ns := ns)
section
variable {p : List D} {B : Int} {m : Nat}
theorem dv_shr {ws : List Int} (hl : ws.length = m) (h0 : ∀ w ∈ ws, 0 ≤ w ∧ w ≤ 99) (h1 : ∃ w ∈ ws, 1 ≤ w) (hm : m ≤ 6) : Shr m 10 (fun j => Rat.divInt (ws.getD j 0) ws.sum) ∧ 0 < ws.sum ∧ ws.sum < 1024 := by
  have hp : 0 < ws.sum := sum_pos (fun x hx => (h0 x hx).1) h1
  have hle : ws.sum ≤ 99 * ws.length := sum_le fun x hx => (h0 x hx).2
  have hlt : ws.sum < 1024 := by omega
  have hg : ∀ j, j < m → ws.getD j 0 ∈ ws := fun j hj => by
    rw [List.getD_eq_getElem?_getD, List.getElem?_eq_getElem (by omega), Option.getD_some]
    exact List.getElem_mem _
  refine ⟨⟨fun j hj => dv_nn (h0 _ (hg j hj)).1 (by omega), ?_, fun j hj => ?_⟩, hp, hlt⟩
  · have : (shL m fun j => Rat.divInt (ws.getD j 0) ws.sum) = ws.map fun x => Rat.divInt x ws.sum := by
      unfold shL
      apply List.ext_getElem?
      intro j
      by_cases hj : j < m
      · rw [List.getElem?_map, List.getElem?_range hj, List.getElem?_map, List.getElem?_eq_getElem (by omega : j < ws.length), Option.map_some, Option.map_some, List.getD_eq_getElem?_getD, List.getElem?_eq_getElem (by omega : j < ws.length), Option.getD_some]
      · rw [List.getElem?_eq_none (by simp; omega), List.getElem?_eq_none (by simp; omega)]
    rw [this, sum_dv hp, dv_1 hp]
  · have := h0 _ (hg j hj)
    exact Bd.dv (k := 10) (by omega) (by omega) hp (by omega)
theorem c_shares (n : Nat) (hp : Pool B p) (hB : B < 100000000000) (h1 : 1 ≤ m) (h6 : m ≤ 6) : ∃ f p', callN TT GG FU (n + 2) "_law_shares" [.ml p, .dat (.int (m : Nat))] = .ret (.dat (shT m f)) [some (.ml p'), some (.dat (.int (m : Nat)))] ∧ Pool (B + 10) p' ∧ Shr m 10 f := by
  rw [s__law_shares]
  unfold fn__law_shares ir__law_shares
  obtain ⟨acc, en, h2, ws, p1, rfl, rfl, h3, h4, h5⟩ := lc_inv (Φ := callN TT GG FU (n + 1)) (G := GG) (elt := (.call "_law_take" (.cons (.var 0) (.cons (.int 5) .nil)))) (ifs := .nil) (tg := [3]) (one := true) (own := [3]) (xs := rgD 0 (m : Nat)) (acc0 := []) (en := [some (.ml p), some (.dat (.int (m : Nat))), none, none, none])
    (fun i acc en => ∃ ws p', acc = ws.map D.int ∧ en = [some (.ml p'), some (.dat (.int (m : Nat))), none, none, none] ∧ Pool (B + i) p' ∧ ws.length = i ∧ ∀ w ∈ ws, 0 ≤ w ∧ w ≤ 4) ⟨[], p, rfl, rfl, hp.mono (by omega), rfl, by simp⟩ (by
    rintro i x acc en hx ⟨ws, p', rfl, rfl, h3, h4, h5⟩
    obtain ⟨rfl, hi⟩ := rg_mem hx
    obtain ⟨r, p2, h7, h8, h9, h10⟩ := c_take n (m := 5) h3 (by omega) (by omega) (by omega)
    refine ⟨(ws ++ [r]).map .int, _, ?_, ws ++ [r], p2, rfl, rfl, h8.mono (by omega), by simp [h4], fun w hw => ?_⟩
    · have hz : (ws.map D.int).length < SZ := by rw [List.length_map, h4]; unfold SZ; omega
      simp (disch := first | assumption | (with_unfolding_all exact Eng.bf_of rfl) | omega | (with_unfolding_all exact of_decide_eq_true rfl) | (simp only [List.length_map, List.length_append, List.length_take, List.length_drop, List.length_cons, List.length_nil, List.length_replicate, SZ]; omega)) only [Eng.RU, Nat.reduceAdd, Nat.reduceSub, Nat.reduceLeDiff, decide_true, decide_false, h7, List.map_append]
    · rcases List.mem_append.mp hw with z | z
      · exact h5 w z
      · simp at z; omega)
  rw [rg_len] at h3 h4
  obtain ⟨v, p2, h7, h8, h9, h10⟩ := c_take n (m := 4) h3 (by omega) (by omega) (by omega)
  obtain ⟨t, p3, h11, h12, h13, h14⟩ := c_take n (m := (m : Nat)) h8 (by omega) (by omega) (by omega)
  obtain ⟨k, rfl⟩ := Int.eq_ofNat_of_zero_le h13
  have hk : k < m := by omega
  have hix : ixN (ws.map D.int).length ((k : Nat) : Int) = some k := ixN_nat (by rw [List.length_map]; omega)
  have hset : (ws.map D.int).set k (.int (1 + v)) = (ws.set k (1 + v)).map D.int := (List.map_set).symm
  obtain ⟨hs, hs1, hs2⟩ := dv_shr (m := m) (ws := ws.set k (1 + v)) (by rw [List.length_set]; omega) (fun w hw => by
    rcases List.mem_or_eq_of_mem_set hw with z | rfl
    · have := h5 w z; omega
    · omega) ⟨1 + v, List.mem_set (by omega : k < ws.length) _, by omega⟩ h6
  refine ⟨_, p3, ?_, h12.mono (by omega), hs⟩
  simp (disch := first | assumption | (with_unfolding_all exact Eng.bf_of rfl) | omega | (with_unfolding_all exact of_decide_eq_true rfl) | (simp only [List.length_map, List.length_append, List.length_take, List.length_drop, List.length_cons, List.length_nil, List.length_replicate, SZ]; omega)) only [Eng.RU, Nat.reduceAdd, Nat.reduceSub, Nat.reduceLeDiff, decide_true, decide_false, h2, h7, h11, hix, hset]
  rw [lc_map (g := fun d => match d with | .int x => fr (Rat.divInt x (ws.set k (1 + v)).sum) | _ => .non) (by rw [List.length_map, List.length_set]; unfold SZ; omega) fun j y acc hy hacc => by
    obtain ⟨x, hx, rfl⟩ := List.mem_map.mp (List.mem_of_getElem? hy)
    have c := c__law_part n (a := x) (b := (ws.set k (1 + v)).sum) (k := 10) hs1 (by omega) (by omega)
    simp (disch := first | assumption | (with_unfolding_all exact Eng.bf_of rfl) | omega | (with_unfolding_all exact of_decide_eq_true rfl) | (simp only [List.length_map, List.length_append, List.length_take, List.length_drop, List.length_cons, List.length_nil, List.length_replicate, SZ]; omega)) only [Eng.RU, Nat.reduceAdd, Nat.reduceSub, Nat.reduceLeDiff, decide_true, decide_false, sum_li, c]]
  have e : D.tup (((ws.set k (1 + v)).map D.int).map fun d => match d with | .int x => fr (Rat.divInt x (ws.set k (1 + v)).sum) | _ => .non) = shT m fun j => Rat.divInt ((ws.set k (1 + v)).getD j 0) (ws.set k (1 + v)).sum := by
    unfold shT shL
    congr 1
    apply List.ext_getElem?
    intro j
    have hl : (ws.set k (1 + v)).length = m := by rw [List.length_set]; omega
    by_cases hj : j < m
    · rw [List.getElem?_map, List.getElem?_map, List.getElem?_map, List.getElem?_map, List.getElem?_range hj, List.getElem?_eq_getElem (by omega : j < (ws.set k (1 + v)).length)]
      simp only [Option.map_some, List.getD_eq_getElem?_getD, List.getElem?_eq_getElem (by omega : j < (ws.set k (1 + v)).length), Option.getD_some]
    · rw [List.getElem?_eq_none (by simp; omega), List.getElem?_eq_none (by simp; omega)]
  simp (disch := first | assumption | (with_unfolding_all exact Eng.bf_of rfl) | omega | (with_unfolding_all exact of_decide_eq_true rfl) | (simp only [List.length_map, List.length_append, List.length_take, List.length_drop, List.length_cons, List.length_nil, List.length_replicate, SZ]; omega)) only [Eng.RU, Nat.reduceAdd, Nat.reduceSub, Nat.reduceLeDiff, decide_true, decide_false, e]
end
end Law

set_option Elab.async false
set_option linter.all false
set_option maxRecDepth 100000
set_option maxHeartbeats 8000000
namespace Law
open PySem PySem.Spec PyProof.Rows L2 RZ Eng
/-! ### drawn tables -/
def rok (m : Nat) (ws : List Int) : Prop := ws.length = m ∧ ∀ w ∈ ws, 0 ≤ w ∧ w ≤ 99
theorem rok_map {m : Nat} {h : Nat → Int} (hh : ∀ j, j < m → 0 ≤ h j ∧ h j ≤ 99) : rok m ((List.range m).map h) := ⟨by simp, fun w hw => by
  obtain ⟨j, hj, rfl⟩ := List.mem_map.mp hw
  exact hh j (List.mem_range.mp hj)⟩
theorem rok_at {m : Nat} {ws : List Int} (h : rok m ws) {j : Nat} (hj : j < m) : atI (ws.map D.int) ((j : Nat) : Int) = some (.int (ws.getD j 0)) ∧ 0 ≤ ws.getD j 0 ∧ ws.getD j 0 ≤ 99 := by
  have e := List.getElem?_eq_getElem (l := ws) (i := j) (by rw [h.1]; exact hj)
  have e2 : ws.getD j 0 = ws[j]'(by rw [h.1]; exact hj) := by rw [List.getD_eq_getElem?_getD, e, Option.getD_some]
  rw [e2]
  exact ⟨row_at e, h.2 _ (List.getElem_mem _)⟩
theorem sum_z : ∀ {ws : List Int}, (∀ w ∈ ws, w = 0) → ws.sum = 0
  | [], _ => rfl
  | w :: ws, h => by
    rw [List.sum_cons, h w List.mem_cons_self, sum_z fun x hx => h x (List.mem_cons_of_mem _ hx)]; rfl
theorem rok_pos {m : Nat} {ws : List Int} (h : rok m ws) (h0 : ws.sum ≠ 0) : ∃ w ∈ ws, 1 ≤ w := by
  refine Classical.byContradiction fun hno => h0 (sum_z fun w hw => ?_)
  have h1 := h.2 w hw
  have h2 : ¬ 1 ≤ w := fun z => hno ⟨w, hw, z⟩
  omega
theorem rg_ints {m : Nat} {h : Nat → Int} {g : D → D} (hg : ∀ j, j < m → g (.int (j : Nat)) = .int (h j)) : (rgD 0 (m : Nat)).map g = ((List.range m).map h).map D.int := by
  rw [rg_mapN hg, List.map_map]; rfl
section
variable {n m i : Nat} {p : List D} {B way sh gr cut : Int} {ws : List Int} {e1 fd : Option S}
theorem tb_1 (hw : rok m ws) (h1 : 1 ≤ m) (h6 : m ≤ 6) : ∃ ws', evS (callN TT GG FU (n + 2)) GG FU ib__law_table_1 [some (.ml p), e1, some (.dat (.int (m : Nat))), some (.dat (.int way)), some (.dat (.int sh)), some (.dat (.int gr)), fd, some (.dat (.int cut)), some (.dat (.int (i : Nat))), some (.ml (ws.map .int)), none] = .nx [some (.ml p), e1, some (.dat (.int (m : Nat))), some (.dat (.int way)), some (.dat (.int sh)), some (.dat (.int gr)), fd, some (.dat (.int cut)), some (.dat (.int (i : Nat))), some (.ml (ws'.map .int)), none] ∧ rok m ws' := by
  unfold ib__law_table_1
  by_cases hw1 : way = 1
  · by_cases hi : ((i : Nat) : Int) < cut
    · refine ⟨(List.range m).map fun (j : Nat) => if (j : Int) < cut then ws.getD j 0 else 0, ?_, rok_map fun j hj => ?_⟩
      rotate_left
      · have := (rok_at hw hj).2
        split <;> omega
      simp (disch := first | assumption | (with_unfolding_all exact Eng.bf_of rfl) | omega | (with_unfolding_all exact of_decide_eq_true rfl) | (simp only [List.length_map, List.length_append, List.length_take, List.length_drop, List.length_cons, List.length_nil, List.length_replicate, SZ]; omega)) only [Eng.RU, Nat.reduceAdd, Nat.reduceSub, Nat.reduceLeDiff, decide_true, decide_false, hw1, decide_true, hi]
      rw [lc_map (g := fun d => match d with | .int x => if x < cut then .int (ws.getD x.toNat 0) else .int 0 | _ => .non) (by rw [rg_len]; unfold SZ; omega) fun j y acc hy hacc => by
        obtain ⟨rfl, hj⟩ := rg_mem hy
        have ha := (rok_at hw hj).1
        by_cases hc : (j : Int) < cut
        · simp (disch := first | assumption | (with_unfolding_all exact Eng.bf_of rfl) | omega | (with_unfolding_all exact of_decide_eq_true rfl) | (simp only [List.length_map, List.length_append, List.length_take, List.length_drop, List.length_cons, List.length_nil, List.length_replicate, SZ]; omega)) only [Eng.RU, Nat.reduceAdd, Nat.reduceSub, Nat.reduceLeDiff, decide_true, decide_false, hc, decide_true, ha, if_true]
          try rfl
        · simp (disch := first | assumption | (with_unfolding_all exact Eng.bf_of rfl) | omega | (with_unfolding_all exact of_decide_eq_true rfl) | (simp only [List.length_map, List.length_append, List.length_take, List.length_drop, List.length_cons, List.length_nil, List.length_replicate, SZ]; omega)) only [Eng.RU, Nat.reduceAdd, Nat.reduceSub, Nat.reduceLeDiff, decide_true, decide_false, hc, decide_false, ha, if_false]]
      rw [rg_ints (h := fun (j : Nat) => if (j : Int) < cut then ws.getD j 0 else 0) fun j hj => by
        dsimp only
        split <;> rfl]
      simp (disch := first | assumption | (with_unfolding_all exact Eng.bf_of rfl) | omega | (with_unfolding_all exact of_decide_eq_true rfl) | (simp only [List.length_map, List.length_append, List.length_take, List.length_drop, List.length_cons, List.length_nil, List.length_replicate, SZ]; omega)) only [Eng.RU, Nat.reduceAdd, Nat.reduceSub, Nat.reduceLeDiff, decide_true, decide_false]
    · refine ⟨ws, ?_, hw⟩
      simp (disch := first | assumption | (with_unfolding_all exact Eng.bf_of rfl) | omega | (with_unfolding_all exact of_decide_eq_true rfl) | (simp only [List.length_map, List.length_append, List.length_take, List.length_drop, List.length_cons, List.length_nil, List.length_replicate, SZ]; omega)) only [Eng.RU, Nat.reduceAdd, Nat.reduceSub, Nat.reduceLeDiff, decide_true, decide_false, hw1, decide_true, hi, decide_false]
  · refine ⟨ws, ?_, hw⟩
    simp (disch := first | assumption | (with_unfolding_all exact Eng.bf_of rfl) | omega | (with_unfolding_all exact of_decide_eq_true rfl) | (simp only [List.length_map, List.length_append, List.length_take, List.length_drop, List.length_cons, List.length_nil, List.length_replicate, SZ]; omega)) only [Eng.RU, Nat.reduceAdd, Nat.reduceSub, Nat.reduceLeDiff, decide_true, decide_false, hw1, decide_false]
theorem tb_2 (hw : rok m ws) (h1 : 1 ≤ m) (h6 : m ≤ 6) : ∃ ws', evS (callN TT GG FU (n + 2)) GG FU ib__law_table_2 [some (.ml p), e1, some (.dat (.int (m : Nat))), some (.dat (.int way)), some (.dat (.int sh)), some (.dat (.int gr)), fd, some (.dat (.int cut)), some (.dat (.int (i : Nat))), some (.ml (ws.map .int)), none] = .nx [some (.ml p), e1, some (.dat (.int (m : Nat))), some (.dat (.int way)), some (.dat (.int sh)), some (.dat (.int gr)), fd, some (.dat (.int cut)), some (.dat (.int (i : Nat))), some (.ml (ws'.map .int)), none] ∧ rok m ws' := by
  unfold ib__law_table_2
  by_cases hw1 : way = 2
  · refine ⟨(List.range m).map fun (j : Nat) => if ((i : Nat) + (j : Int)) % 2 = 1 then ws.getD j 0 else 0, ?_, rok_map fun j hj => ?_⟩
    rotate_left
    · have := (rok_at hw hj).2
      split <;> omega
    simp (disch := first | assumption | (with_unfolding_all exact Eng.bf_of rfl) | omega | (with_unfolding_all exact of_decide_eq_true rfl) | (simp only [List.length_map, List.length_append, List.length_take, List.length_drop, List.length_cons, List.length_nil, List.length_replicate, SZ]; omega)) only [Eng.RU, Nat.reduceAdd, Nat.reduceSub, Nat.reduceLeDiff, decide_true, decide_false, hw1, decide_true]
    rw [lc_map (g := fun d => match d with | .int x => if ((i : Nat) + x) % 2 = 1 then .int (ws.getD x.toNat 0) else .int 0 | _ => .non) (by rw [rg_len]; unfold SZ; omega) fun j y acc hy hacc => by
      obtain ⟨rfl, hj⟩ := rg_mem hy
      have ha := (rok_at hw hj).1
      by_cases hc : ((i : Nat) + (j : Int)) % 2 = 1
      · simp (disch := first | assumption | (with_unfolding_all exact Eng.bf_of rfl) | omega | (with_unfolding_all exact of_decide_eq_true rfl) | (simp only [List.length_map, List.length_append, List.length_take, List.length_drop, List.length_cons, List.length_nil, List.length_replicate, SZ]; omega)) only [Eng.RU, Nat.reduceAdd, Nat.reduceSub, Nat.reduceLeDiff, decide_true, decide_false, hc, decide_true, ha, if_true]
        try rfl
      · simp (disch := first | assumption | (with_unfolding_all exact Eng.bf_of rfl) | omega | (with_unfolding_all exact of_decide_eq_true rfl) | (simp only [List.length_map, List.length_append, List.length_take, List.length_drop, List.length_cons, List.length_nil, List.length_replicate, SZ]; omega)) only [Eng.RU, Nat.reduceAdd, Nat.reduceSub, Nat.reduceLeDiff, decide_true, decide_false, hc, decide_false, ha, if_false]]
    rw [rg_ints (h := fun (j : Nat) => if ((i : Nat) + (j : Int)) % 2 = 1 then ws.getD j 0 else 0) fun j hj => by
      dsimp only
      split <;> rfl]
    simp (disch := first | assumption | (with_unfolding_all exact Eng.bf_of rfl) | omega | (with_unfolding_all exact of_decide_eq_true rfl) | (simp only [List.length_map, List.length_append, List.length_take, List.length_drop, List.length_cons, List.length_nil, List.length_replicate, SZ]; omega)) only [Eng.RU, Nat.reduceAdd, Nat.reduceSub, Nat.reduceLeDiff, decide_true, decide_false]
  · refine ⟨ws, ?_, hw⟩
    simp (disch := first | assumption | (with_unfolding_all exact Eng.bf_of rfl) | omega | (with_unfolding_all exact of_decide_eq_true rfl) | (simp only [List.length_map, List.length_append, List.length_take, List.length_drop, List.length_cons, List.length_nil, List.length_replicate, SZ]; omega)) only [Eng.RU, Nat.reduceAdd, Nat.reduceSub, Nat.reduceLeDiff, decide_true, decide_false, hw1, decide_false]
theorem tb_3 (hw : rok m ws) (h1 : 1 ≤ m) (h6 : m ≤ 6) : ∃ ws', evS (callN TT GG FU (n + 2)) GG FU ib__law_table_3 [some (.ml p), e1, some (.dat (.int (m : Nat))), some (.dat (.int way)), some (.dat (.int sh)), some (.dat (.int gr)), fd, some (.dat (.int cut)), some (.dat (.int (i : Nat))), some (.ml (ws.map .int)), none] = .nx [some (.ml p), e1, some (.dat (.int (m : Nat))), some (.dat (.int way)), some (.dat (.int sh)), some (.dat (.int gr)), fd, some (.dat (.int cut)), some (.dat (.int (i : Nat))), some (.ml (ws'.map .int)), none] ∧ rok m ws' := by
  unfold ib__law_table_3
  by_cases hw1 : way = 3
  · refine ⟨(List.range m).map fun (j : Nat) => if (j : Int) = ((i : Nat) + 1) % (m : Int) then 1 else 0, ?_, rok_map fun j hj => ?_⟩
    rotate_left
    · have := (rok_at hw hj).2
      split <;> omega
    simp (disch := first | assumption | (with_unfolding_all exact Eng.bf_of rfl) | omega | (with_unfolding_all exact of_decide_eq_true rfl) | (simp only [List.length_map, List.length_append, List.length_take, List.length_drop, List.length_cons, List.length_nil, List.length_replicate, SZ]; omega)) only [Eng.RU, Nat.reduceAdd, Nat.reduceSub, Nat.reduceLeDiff, decide_true, decide_false, hw1, decide_true]
    rw [lc_map (g := fun d => match d with | .int x => if x = ((i : Nat) + 1) % (m : Int) then .int 1 else .int 0 | _ => .non) (by rw [rg_len]; unfold SZ; omega) fun j y acc hy hacc => by
      obtain ⟨rfl, hj⟩ := rg_mem hy
      have ha := (rok_at hw hj).1
      by_cases hc : (j : Int) = ((i : Nat) + 1) % (m : Int)
      · simp (disch := first | assumption | (with_unfolding_all exact Eng.bf_of rfl) | omega | (with_unfolding_all exact of_decide_eq_true rfl) | (simp only [List.length_map, List.length_append, List.length_take, List.length_drop, List.length_cons, List.length_nil, List.length_replicate, SZ]; omega)) only [Eng.RU, Nat.reduceAdd, Nat.reduceSub, Nat.reduceLeDiff, decide_true, decide_false, hc, decide_true, ha, if_true]
        try rfl
      · simp (disch := first | assumption | (with_unfolding_all exact Eng.bf_of rfl) | omega | (with_unfolding_all exact of_decide_eq_true rfl) | (simp only [List.length_map, List.length_append, List.length_take, List.length_drop, List.length_cons, List.length_nil, List.length_replicate, SZ]; omega)) only [Eng.RU, Nat.reduceAdd, Nat.reduceSub, Nat.reduceLeDiff, decide_true, decide_false, hc, decide_false, ha, if_false]]
    rw [rg_ints (h := fun (j : Nat) => if (j : Int) = ((i : Nat) + 1) % (m : Int) then 1 else 0) fun j hj => by
      dsimp only
      split <;> rfl]
    simp (disch := first | assumption | (with_unfolding_all exact Eng.bf_of rfl) | omega | (with_unfolding_all exact of_decide_eq_true rfl) | (simp only [List.length_map, List.length_append, List.length_take, List.length_drop, List.length_cons, List.length_nil, List.length_replicate, SZ]; omega)) only [Eng.RU, Nat.reduceAdd, Nat.reduceSub, Nat.reduceLeDiff, decide_true, decide_false]
  · refine ⟨ws, ?_, hw⟩
    simp (disch := first | assumption | (with_unfolding_all exact Eng.bf_of rfl) | omega | (with_unfolding_all exact of_decide_eq_true rfl) | (simp only [List.length_map, List.length_append, List.length_take, List.length_drop, List.length_cons, List.length_nil, List.length_replicate, SZ]; omega)) only [Eng.RU, Nat.reduceAdd, Nat.reduceSub, Nat.reduceLeDiff, decide_true, decide_false, hw1, decide_false]
theorem tb_4 (hw : rok m ws) (hp : Pool B p) (hB : B < 100000000000) (h1 : 1 ≤ m) (h6 : m ≤ 6) (hc : 1 ≤ cut) (hc2 : cut ≤ m) : ∃ ws' p', evS (callN TT GG FU (n + 2)) GG FU ib__law_table_4 [some (.ml p), e1, some (.dat (.int (m : Nat))), some (.dat (.int way)), some (.dat (.int sh)), some (.dat (.int gr)), fd, some (.dat (.int cut)), some (.dat (.int (i : Nat))), some (.ml (ws.map .int)), none] = .nx [some (.ml p'), e1, some (.dat (.int (m : Nat))), some (.dat (.int way)), some (.dat (.int sh)), some (.dat (.int gr)), fd, some (.dat (.int cut)), some (.dat (.int (i : Nat))), some (.ml (ws'.map .int)), none] ∧ rok m ws' ∧ (∃ w ∈ ws', 1 ≤ w) ∧ Pool (B + 1) p' := by
  unfold ib__law_table_4
  by_cases h0 : ws.sum = 0
  · have fin : ∀ (k : Nat), k < m → rok m (ws.set k 1) ∧ (∃ w ∈ ws.set k 1, 1 ≤ w) ∧ ixN (ws.map D.int).length ((k : Nat) : Int) = some k ∧ (ws.map D.int).set k (.int 1) = (ws.set k 1).map D.int := fun k hk =>
      ⟨⟨by rw [List.length_set, hw.1], fun w h => by
        rcases List.mem_or_eq_of_mem_set h with z | rfl
        · exact hw.2 w z
        · omega⟩, ⟨1, List.mem_set (by rw [hw.1]; exact hk) _, by omega⟩, ixN_nat (by rw [List.length_map, hw.1]; exact hk), List.map_set.symm⟩
    by_cases hw1 : way = 1
    · by_cases hi : cut ≤ ((i : Nat) : Int)
      · obtain ⟨r, p', h2, h3, h4, h5⟩ := c_take (n + 1) (m := (m : Nat)) hp (by omega) (by omega) (by omega)
        obtain ⟨k, rfl⟩ := Int.eq_ofNat_of_zero_le h4
        obtain ⟨f1, f2, f3, f4⟩ := fin k (by omega)
        refine ⟨ws.set k 1, p', ?_, f1, f2, h3⟩
        simp (disch := first | assumption | (with_unfolding_all exact Eng.bf_of rfl) | omega | (with_unfolding_all exact of_decide_eq_true rfl) | (simp only [List.length_map, List.length_append, List.length_take, List.length_drop, List.length_cons, List.length_nil, List.length_replicate, SZ]; omega)) only [Eng.RU, Nat.reduceAdd, Nat.reduceSub, Nat.reduceLeDiff, decide_true, decide_false, sum_mi, h0, decide_true, hw1, hi, h2, f3, f4]
      · obtain ⟨r, p', h2, h3, h4, h5⟩ := c_take (n + 1) (m := cut) hp (by omega) (by omega) (by omega)
        obtain ⟨k, rfl⟩ := Int.eq_ofNat_of_zero_le h4
        obtain ⟨f1, f2, f3, f4⟩ := fin k (by omega)
        refine ⟨ws.set k 1, p', ?_, f1, f2, h3⟩
        simp (disch := first | assumption | (with_unfolding_all exact Eng.bf_of rfl) | omega | (with_unfolding_all exact of_decide_eq_true rfl) | (simp only [List.length_map, List.length_append, List.length_take, List.length_drop, List.length_cons, List.length_nil, List.length_replicate, SZ]; omega)) only [Eng.RU, Nat.reduceAdd, Nat.reduceSub, Nat.reduceLeDiff, decide_true, decide_false, sum_mi, h0, decide_true, hw1, hi, decide_false, h2, f3, f4]
    · obtain ⟨r, p', h2, h3, h4, h5⟩ := c_take (n + 1) (m := (m : Nat)) hp (by omega) (by omega) (by omega)
      obtain ⟨k, rfl⟩ := Int.eq_ofNat_of_zero_le h4
      obtain ⟨f1, f2, f3, f4⟩ := fin k (by omega)
      refine ⟨ws.set k 1, p', ?_, f1, f2, h3⟩
      simp (disch := first | assumption | (with_unfolding_all exact Eng.bf_of rfl) | omega | (with_unfolding_all exact of_decide_eq_true rfl) | (simp only [List.length_map, List.length_append, List.length_take, List.length_drop, List.length_cons, List.length_nil, List.length_replicate, SZ]; omega)) only [Eng.RU, Nat.reduceAdd, Nat.reduceSub, Nat.reduceLeDiff, decide_true, decide_false, sum_mi, h0, decide_true, hw1, decide_false, h2, f3, f4]
  · refine ⟨ws, p, ?_, hw, rok_pos hw h0, hp.mono (by omega)⟩
    simp (disch := first | assumption | (with_unfolding_all exact Eng.bf_of rfl) | omega | (with_unfolding_all exact of_decide_eq_true rfl) | (simp only [List.length_map, List.length_append, List.length_take, List.length_drop, List.length_cons, List.length_nil, List.length_replicate, SZ]; omega)) only [Eng.RU, Nat.reduceAdd, Nat.reduceSub, Nat.reduceLeDiff, decide_true, decide_false, sum_mi, h0, decide_false]
theorem tb_0 (hp : Pool B p) (hB : B < 100000000000) (h6 : m ≤ 6) (hg : 1 ≤ gr) (hg2 : gr ≤ 99) (one e9 : Option S) : ∃ ws p', kLcL (callN TT GG FU (n + 2)) GG (.ife (.cmp .Lt (.call "_law_take" (.cons (.var 0) (.cons (.int 8) .nil))) (.var 4)) (.bin .Add (.int 1) (.call "_law_take" (.cons (.var 0) (.cons (.var 5) .nil)))) (.int 0)) [10] true .nil [10] (rgD 0 (m : Nat)) [] [some (.ml p), e1, some (.dat (.int (m : Nat))), some (.dat (.int way)), some (.dat (.int sh)), some (.dat (.int gr)), fd, some (.dat (.int cut)), one, e9, none] = .ok (ws.map .int) [some (.ml p'), e1, some (.dat (.int (m : Nat))), some (.dat (.int way)), some (.dat (.int sh)), some (.dat (.int gr)), fd, some (.dat (.int cut)), one, e9, none] ∧ Pool (B + 20) p' ∧ rok m ws := by
  obtain ⟨acc, en, h2, ws, p1, rfl, rfl, h3, h4, h5⟩ := lc_inv (Φ := callN TT GG FU (n + 2)) (G := GG) (elt := (.ife (.cmp .Lt (.call "_law_take" (.cons (.var 0) (.cons (.int 8) .nil))) (.var 4)) (.bin .Add (.int 1) (.call "_law_take" (.cons (.var 0) (.cons (.var 5) .nil)))) (.int 0))) (ifs := .nil) (tg := [10]) (one := true) (own := [10]) (xs := rgD 0 (m : Nat)) (acc0 := []) (en := [some (.ml p), e1, some (.dat (.int (m : Nat))), some (.dat (.int way)), some (.dat (.int sh)), some (.dat (.int gr)), fd, some (.dat (.int cut)), one, e9, none])
    (fun i acc en => ∃ ws p', acc = ws.map D.int ∧ en = [some (.ml p'), e1, some (.dat (.int (m : Nat))), some (.dat (.int way)), some (.dat (.int sh)), some (.dat (.int gr)), fd, some (.dat (.int cut)), one, e9, none] ∧ Pool (B + 2 * i) p' ∧ ws.length = i ∧ ∀ w ∈ ws, 0 ≤ w ∧ w ≤ 99) ⟨[], p, rfl, rfl, hp.mono (by omega), rfl, by simp⟩ (by
    rintro i x acc en hx ⟨ws, p', rfl, rfl, h3, h4, h5⟩
    obtain ⟨rfl, hi⟩ := rg_mem hx
    obtain ⟨r, p2, h7, h8, h9, h10⟩ := c_take (n + 1) (m := 8) h3 (by omega) (by omega) (by omega)
    have hz : (ws.map D.int).length < SZ := by rw [List.length_map, h4]; unfold SZ; omega
    by_cases hlt : r < sh
    · obtain ⟨q, p3, h11, h12, h13, h14⟩ := c_take (n + 1) (m := gr) h8 (by omega) (by omega) (by omega)
      refine ⟨(ws ++ [1 + q]).map .int, _, ?_, ws ++ [1 + q], p3, rfl, rfl, h12.mono (by omega), by simp [h4], fun w hw => ?_⟩
      · simp (disch := first | assumption | (with_unfolding_all exact Eng.bf_of rfl) | omega | (with_unfolding_all exact of_decide_eq_true rfl) | (simp only [List.length_map, List.length_append, List.length_take, List.length_drop, List.length_cons, List.length_nil, List.length_replicate, SZ]; omega)) only [Eng.RU, Nat.reduceAdd, Nat.reduceSub, Nat.reduceLeDiff, decide_true, decide_false, h7, hlt, decide_true, h11, List.map_append]
      · rcases List.mem_append.mp hw with z | z
        · exact h5 w z
        · simp at z; omega
    · refine ⟨(ws ++ [0]).map .int, _, ?_, ws ++ [0], p2, rfl, rfl, h8.mono (by omega), by simp [h4], fun w hw => ?_⟩
      · simp (disch := first | assumption | (with_unfolding_all exact Eng.bf_of rfl) | omega | (with_unfolding_all exact of_decide_eq_true rfl) | (simp only [List.length_map, List.length_append, List.length_take, List.length_drop, List.length_cons, List.length_nil, List.length_replicate, SZ]; omega)) only [Eng.RU, Nat.reduceAdd, Nat.reduceSub, Nat.reduceLeDiff, decide_true, decide_false, h7, hlt, decide_false, List.map_append]
      · rcases List.mem_append.mp hw with z | z
        · exact h5 w z
        · simp at z; omega)
  rw [rg_len] at h3 h4
  exact ⟨ws, p1, h2, h3.mono (by omega), h4, h5⟩
theorem tb_5 {rows : List (List Int)} (hp : Pool B p) (hB : B < 10000000000) (h1 : 1 ≤ m) (h6 : m ≤ 6) (hg : 1 ≤ gr) (hg2 : gr ≤ 99) (hc : 1 ≤ cut) (hc2 : cut ≤ m) (hr : rows.length ≤ 6) (e8 e9 : Option S) : ∃ ws p', kForS (callN TT GG FU (n + 2)) GG FU lb__law_table_5 (setD [some (.ml p), e1, some (.dat (.int (m : Nat))), some (.dat (.int way)), some (.dat (.int sh)), some (.dat (.int gr)), some (.ml (rows.map fun r => D.tup (r.map .int))), some (.dat (.int cut)), e8, e9, none] [8] true (.int (i : Nat))) = .nx [some (.ml p'), e1, some (.dat (.int (m : Nat))), some (.dat (.int way)), some (.dat (.int sh)), some (.dat (.int gr)), some (.ml ((rows ++ [ws]).map fun r => D.tup (r.map .int))), some (.dat (.int cut)), some (.dat (.int (i : Nat))), some (.ml (ws.map .int)), none] ∧ Pool (B + 30) p' ∧ rok m ws ∧ ∃ w ∈ ws, 1 ≤ w := by
  unfold lb__law_table_5
  obtain ⟨ws0, p1, h2, hp1, hw0⟩ := tb_0 (n := n) (m := m) (way := way) (sh := sh) (gr := gr) (cut := cut) (e1 := e1) (fd := some (.ml (rows.map fun r => D.tup (r.map .int)))) hp (by omega) h6 hg hg2 (some (.dat (.int (i : Nat)))) e9
  obtain ⟨ws1, h3, hw1⟩ := tb_1 (n := n) (i := i) (p := p1) (way := way) (sh := sh) (gr := gr) (cut := cut) (e1 := e1) (fd := some (.ml (rows.map fun r => D.tup (r.map .int)))) hw0 h1 h6
  obtain ⟨ws2, h4, hw2⟩ := tb_2 (n := n) (i := i) (p := p1) (way := way) (sh := sh) (gr := gr) (cut := cut) (e1 := e1) (fd := some (.ml (rows.map fun r => D.tup (r.map .int)))) hw1 h1 h6
  obtain ⟨ws3, h5, hw3⟩ := tb_3 (n := n) (i := i) (p := p1) (way := way) (sh := sh) (gr := gr) (cut := cut) (e1 := e1) (fd := some (.ml (rows.map fun r => D.tup (r.map .int)))) hw2 h1 h6
  obtain ⟨ws4, p2, h7, hw4, hpos, hp2⟩ := tb_4 (n := n) (i := i) (way := way) (sh := sh) (gr := gr) (cut := cut) (e1 := e1) (fd := some (.ml (rows.map fun r => D.tup (r.map .int)))) hw3 hp1 (by omega) h1 h6 hc hc2
  have hz : (rows.map fun r => D.tup (r.map .int)).length < SZ := by rw [List.length_map]; unfold SZ; omega
  refine ⟨ws4, p2, ?_, hp2.mono (by omega), hw4, hpos⟩
  simp (disch := first | assumption | (with_unfolding_all exact Eng.bf_of rfl) | omega | (with_unfolding_all exact of_decide_eq_true rfl) | (simp only [List.length_map, List.length_append, List.length_take, List.length_drop, List.length_cons, List.length_nil, List.length_replicate, SZ]; omega)) only [Eng.RU, Nat.reduceAdd, Nat.reduceSub, Nat.reduceLeDiff, decide_true, decide_false, h2, h3, h4, h5, h7, hz, List.map_append, List.map_cons, List.map_nil]
theorem tabI_of {rows : List (List Int)} (h1 : 1 ≤ rows.length) (h6 : rows.length ≤ 6) (h : ∀ r ∈ rows, rok rows.length r ∧ ∃ w ∈ r, 1 ≤ w) : tabI rows := ⟨h1, h6, fun r hr => ⟨(h r hr).1.1, (h r hr).1.2, (h r hr).2⟩⟩
theorem c_table (n : Nat) (hp : Pool B p) (hB : B < 1000000000) : ∃ rows p', callN TT GG FU (n + 3) "_law_table" [.ml p, .dat (.int 6)] = .ret (.dat (dT rows)) [some (.ml p'), some (.dat (.int 6))] ∧ Pool (B + 1000) p' ∧ tabI rows := by
  rw [s__law_table]
  unfold fn__law_table ir__law_table
  obtain ⟨r, p1, h1, hp1, hr1, hr2⟩ := c_take (n + 1) (m := 6) hp (by omega) (by omega) (by omega)
  obtain ⟨way, p2, h2, hp2, _, _⟩ := c_take (n + 1) (m := 5) hp1 (by omega) (by omega) (by omega)
  obtain ⟨x, p3, hx, h3, hp3⟩ := c_of_t n (xs := [.int 2, .int 4, .int 7]) hp2 (by omega) (by simp) (by simp)
  obtain ⟨sh, rfl⟩ : ∃ s : Int, x = .int s := by
    simp at hx
    rcases hx with rfl | rfl | rfl <;> exact ⟨_, rfl⟩
  obtain ⟨y, p4, hy, h4, hp4⟩ := c_of_t n (xs := [.int 2, .int 5, .int 99]) hp3 (by omega) (by simp) (by simp)
  obtain ⟨gr, rfl, hg1, hg2⟩ : ∃ s : Int, y = .int s ∧ 1 ≤ s ∧ s ≤ 99 := by
    simp at hy
    rcases hy with rfl | rfl | rfl <;> exact ⟨_, rfl, by omega, by omega⟩
  obtain ⟨m, hm⟩ := Int.eq_ofNat_of_zero_le (show 0 ≤ 1 + r by omega)
  obtain ⟨c, p5, h5, hp5, hc1, hc2⟩ := c_take (n + 1) (m := (m : Nat)) hp4 (by omega) (by omega) (by omega)
  obtain ⟨en, h7, rows, q, e8, e9, rfl, hq, hl, hrow⟩ := for_nx (Φ := callN TT GG FU (n + 2)) (G := GG) (fu := FU) (tg := [8]) (one := true) (b := lb__law_table_5) (xs := rgD 0 (m : Nat)) (en := [some (.ml p5), some (.dat (.int 6)), some (.dat (.int (m : Nat))), some (.dat (.int way)), some (.dat (.int sh)), some (.dat (.int gr)), some (.ml []), some (.dat (.int (1 + c))), none, none, none])
    (fun i en => ∃ rows p' e8 e9, en = [some (.ml p'), some (.dat (.int 6)), some (.dat (.int (m : Nat))), some (.dat (.int way)), some (.dat (.int sh)), some (.dat (.int gr)), some (.ml (rows.map fun r => D.tup (r.map .int))), some (.dat (.int (1 + c))), e8, e9, none] ∧ Pool (B + 5 + 30 * i) p' ∧ rows.length = i ∧ ∀ r ∈ rows, rok m r ∧ ∃ w ∈ r, 1 ≤ w) ⟨[], p5, none, none, rfl, hp5.mono (by omega), rfl, by simp⟩ (by
    rintro i x en hx ⟨rows, p', e8, e9, rfl, h3, h4, h5⟩
    obtain ⟨rfl, hi⟩ := rg_mem hx
    obtain ⟨ws, p2, h7, h8, h9, h10⟩ := tb_5 (n := n) (m := m) (i := i) (way := way) (sh := sh) (gr := gr) (cut := 1 + c) (e1 := some (.dat (.int 6))) h3 (by omega) (by omega) (by omega) hg1 hg2 (by omega) (by omega) (by omega : rows.length ≤ 6) e8 e9
    refine ⟨_, .inl h7, rows ++ [ws], p2, _, _, rfl, h8.mono (by omega), by simp [h4], fun r hr => ?_⟩
    rcases List.mem_append.mp hr with z | z
    · exact h5 r z
    · simp at z; subst z; exact ⟨h9, h10⟩)
  rw [rg_len] at hq hl
  refine ⟨rows, q, ?_, hq.mono (by omega), tabI_of (by omega) (by omega) (by rw [hl]; exact hrow)⟩
  simp (disch := first | assumption | (with_unfolding_all exact Eng.bf_of rfl) | omega | (with_unfolding_all exact of_decide_eq_true rfl) | (simp only [List.length_map, List.length_append, List.length_take, List.length_drop, List.length_cons, List.length_nil, List.length_replicate, SZ]; omega)) only [Eng.RU, Nat.reduceAdd, Nat.reduceSub, Nat.reduceLeDiff, decide_true, decide_false, h1, hm, h2, h3, h4, h5, h7]
  rfl
end
end Law

set_option Elab.async false
set_option linter.all false
set_option maxRecDepth 100000
set_option maxHeartbeats 8000000
namespace Law
open PySem PySem.Spec PyProof.Rows L2 RZ Eng
/-! ### equal rows of fractions -/
theorem eqD_fr {p q : Rat} : eqD (fr p) (fr q) = decide (p = q) := by
  have h := eq_fr (p := p) (q := q)
  have e : cmpS .Eq (.dat (fr p)) (.dat (fr q)) = some (eqD (fr p) (fr q)) := by
    show eqS _ _ = _
    unfold eqS
    rw [if_pos (by rfl)]
    simp only [fz]
  rw [e] at h
  exact Option.some.inj h
theorem eqDs_fr : ∀ {l1 l2 : List Rat}, eqDs (l1.map fr) (l2.map fr) = decide (l1 = l2)
  | [], [] => by simp [eqDs]
  | [], _ :: _ => by simp [eqDs]
  | _ :: _, [] => by simp [eqDs]
  | p :: l1, q :: l2 => by
    simp only [List.map_cons, eqDs, eqD_fr, eqDs_fr (l1 := l1) (l2 := l2), List.cons.injEq, Bool.decide_and]
theorem sh_frs {l : List Rat} {n : Nat} : (l.map fr).all (shD (n + 1)) = true := by
  rw [List.all_map, List.all_eq_true]
  intro q _
  show shD (n + 1) (fr q) = true
  unfold fr
  simp [shD]
theorem eq_tfr {l1 l2 : List Rat} : cmpS .Eq (.dat (.tup (l1.map fr))) (.dat (.tup (l2.map fr))) = some (decide (l1 = l2)) := by
  show eqS _ _ = _
  unfold eqS
  simp only [fz, shD]
  rw [sh_frs, sh_frs]
  show some _ = some _
  simp only [eqD, eqDs_fr]
theorem eq_lfr {l1 l2 : List Rat} : cmpS .Eq (.dat (.lst (l1.map fr))) (.dat (.lst (l2.map fr))) = some (decide (l1 = l2)) := by
  show eqS _ _ = _
  unfold eqS
  simp only [fz, shD]
  rw [sh_frs, sh_frs]
  show some _ = some _
  simp only [eqD, eqDs_fr]
theorem shL_eq {m : Nat} {f g : Nat → Rat} : shL m f = shL m g ↔ ∀ j, j < m → f j = g j := by
  unfold shL
  constructor
  · intro h j hj
    have := congrArg (fun l => l[j]?) h
    simpa [List.getElem?_map, List.getElem?_range hj] using this
  · intro h
    exact List.map_congr_left fun j hj => h j (List.mem_range.mp hj)
end Law

set_option Elab.async false
set_option linter.all false
set_option maxRecDepth 100000
set_option maxHeartbeats 8000000
namespace Law
open PySem PySem.Spec PyProof.Rows L2 RZ Eng
/-! ### what is asked of a table -/
section
variable {rows : List (List Int)} {n : Nat} {p : List D} {B : Int}
def ent (rows : List (List Int)) (i j : Nat) : Int := (rows.getD i []).getD j 0
theorem ent_eq {i j : Nat} {r : List Int} {x : Int} (e1 : rows[i]? = some r) (e2 : r[j]? = some x) : ent rows i j = x := by
  unfold ent
  simp only [List.getD_eq_getElem?_getD, e1, e2, Option.getD_some]
theorem ent_pos (ht : tabI rows) {i j : Nat} (hi : i < rows.length) (hj : j < rows.length) : 0 < chn rows i j ↔ 0 < ent rows i j := by
  obtain ⟨r, x, e1, e2, _⟩ := tab_at ht hi hj
  rw [ent_eq e1 e2]
  exact chn_pos ht e1 e2
def meetB (rows : List (List Int)) (i k : Nat) : Bool := (List.range rows.length).any fun j => decide (0 < ent rows i j) && decide (0 < ent rows k j)
theorem meet_iff (ht : tabI rows) {i k : Nat} (hi : i < rows.length) (hk : k < rows.length) : meetB rows i k = true ↔ ap rows.length (chn rows i) (chn rows k) < 1 := by
  rw [ap_lt1 (chn_one ht hi) (chn_one ht hk) (fun j hj => chn_nn ht hi hj) (fun j hj => chn_nn ht hk hj)]
  unfold meetB
  rw [List.any_eq_true]
  constructor
  · rintro ⟨j, hj, h⟩
    have hj := List.mem_range.mp hj
    simp only [Bool.and_eq_true, decide_eq_true_eq] at h
    exact ⟨j, hj, (ent_pos ht hi hj).mpr h.1, (ent_pos ht hk hj).mpr h.2⟩
  · rintro ⟨j, hj, h1, h2⟩
    refine ⟨j, List.mem_range.mpr hj, ?_⟩
    simp only [Bool.and_eq_true, decide_eq_true_eq]
    exact ⟨(ent_pos ht hi hj).mp h1, (ent_pos ht hk hj).mp h2⟩
theorem cn_lt1 (ht : tabI rows) : cn rows.length (chn rows) < 1 ↔ ∀ i k, i < rows.length → k < rows.length → meetB rows i k = true := by
  constructor
  · intro h i k hi hk
    have := cn_ge (P := chn rows) hi hk
    exact (meet_iff ht hi hk).mpr (by grind)
  · intro h
    obtain ⟨i, k, hi, hk, e⟩ := cn_mem (P := chn rows) ht.pos
    rw [e]
    exact (meet_iff ht hi hk).mp (h i k hi hk)
theorem cn_zero (ht : tabI rows) : cn rows.length (chn rows) = 0 ↔ ∀ i, i < rows.length → shL rows.length (chn rows i) = shL rows.length (chn rows 0) := by
  have h1 := ht.pos
  constructor
  · intro h i hi
    have a := cn_ge (P := chn rows) hi (show 0 < rows.length by omega)
    have b := ap_nn (m := rows.length) (f := chn rows i) (g := chn rows 0)
    exact shL_eq.mpr (ap_zero.mp (by grind))
  · intro h
    obtain ⟨i, k, hi, hk, e⟩ := cn_mem (P := chn rows) h1
    rw [e]
    refine ap_zero.mpr fun j hj => ?_
    rw [shL_eq.mp (h i hi) j hj, shL_eq.mp (h k hk) j hj]
/-- the rounds over all pairs -/
theorem told_1 (ht : tabI rows) {i k : Nat} (hi : i < rows.length) (hk : k < rows.length) {c : Bool} {e0 e3 e4 e5 e6 e7 e8 e9 e10 e13 e14 e16 : Option S} : kForS (callN TT GG FU n) GG FU lb__law_is_told_1 (setD [e0, some (.dat (dT rows)), some (.dat (.int (rows.length : Nat))), e3, e4, e5, e6, e7, e8, e9, e10, some (.dat (.bl c)), some (.dat (.int (i : Nat))), e13, e14, none, e16] [13] true (.int (k : Nat))) =
    .nx [e0, some (.dat (dT rows)), some (.dat (.int (rows.length : Nat))), e3, e4, e5, e6, e7, e8, e9, e10, some (.dat (.bl (c && meetB rows i k))), some (.dat (.int (i : Nat))), some (.dat (.int (k : Nat))), e14, none, e16] := by
  unfold lb__law_is_told_1
  have h6 := ht.six
  cases c with
  | false =>
    simp (disch := first | assumption | (with_unfolding_all exact Eng.bf_of rfl) | omega | (with_unfolding_all exact of_decide_eq_true rfl) | (simp only [List.length_map, List.length_append, List.length_take, List.length_drop, List.length_cons, List.length_nil, List.length_replicate, SZ]; omega)) only [Eng.RU, Nat.reduceAdd, Nat.reduceSub, Nat.reduceLeDiff, decide_true, decide_false, Bool.false_and]
  | true =>
    unfold dT
    simp (disch := first | assumption | (with_unfolding_all exact Eng.bf_of rfl) | omega | (with_unfolding_all exact of_decide_eq_true rfl) | (simp only [List.length_map, List.length_append, List.length_take, List.length_drop, List.length_cons, List.length_nil, List.length_replicate, SZ]; omega)) only [Eng.RU, Nat.reduceAdd, Nat.reduceSub, Nat.reduceLeDiff, decide_true, decide_false, Bool.true_and]
    rw [lc_map (g := fun d => match d with | .int j => .bl (decide (0 < ent rows i j.toNat) && decide (0 < ent rows k j.toNat)) | _ => .non) (by rw [rg_len]; unfold SZ; omega) fun j y acc hy hacc => by
      obtain ⟨rfl, hj⟩ := rg_mem hy
      obtain ⟨r, x, e1, e2, _⟩ := tab_at ht hi hj
      obtain ⟨q, z, e3, e4, _⟩ := tab_at ht hk hj
      have f1 := ent_eq e1 e2
      have f2 := ent_eq e3 e4
      by_cases hx : 0 < x
      · simp (disch := first | assumption | (with_unfolding_all exact Eng.bf_of rfl) | omega | (with_unfolding_all exact of_decide_eq_true rfl) | (simp only [List.length_map, List.length_append, List.length_take, List.length_drop, List.length_cons, List.length_nil, List.length_replicate, SZ]; omega)) only [Eng.RU, Nat.reduceAdd, Nat.reduceSub, Nat.reduceLeDiff, decide_true, decide_false, dT_row e1, row_at e2, hx, decide_true, dT_row e3, row_at e4]
        simp [f1, f2, hx]
      · simp (disch := first | assumption | (with_unfolding_all exact Eng.bf_of rfl) | omega | (with_unfolding_all exact of_decide_eq_true rfl) | (simp only [List.length_map, List.length_append, List.length_take, List.length_drop, List.length_cons, List.length_nil, List.length_replicate, SZ]; omega)) only [Eng.RU, Nat.reduceAdd, Nat.reduceSub, Nat.reduceLeDiff, decide_true, decide_false, dT_row e1, row_at e2, hx, decide_false]
        simp [f1, f2, hx]]
    rw [rg_mapN (f := fun j => D.bl (decide (0 < ent rows i j) && decide (0 < ent rows k j))) fun j _ => rfl]
    simp (disch := first | assumption | (with_unfolding_all exact Eng.bf_of rfl) | omega | (with_unfolding_all exact of_decide_eq_true rfl) | (simp only [List.length_map, List.length_append, List.length_take, List.length_drop, List.length_cons, List.length_nil, List.length_replicate, SZ]; omega)) only [Eng.RU, Nat.reduceAdd, Nat.reduceSub, Nat.reduceLeDiff, decide_true, decide_false]
    rfl
theorem told_2 (ht : tabI rows) {i : Nat} (hi : i < rows.length) {c : Bool} {e0 e3 e4 e5 e6 e7 e8 e9 e10 e12 e13 e14 e16 : Option S} : ∃ g13 c', kForS (callN TT GG FU n) GG FU lb__law_is_told_2 (setD [e0, some (.dat (dT rows)), some (.dat (.int (rows.length : Nat))), e3, e4, e5, e6, e7, e8, e9, e10, some (.dat (.bl c)), e12, e13, e14, none, e16] [12] true (.int (i : Nat))) =
    .nx [e0, some (.dat (dT rows)), some (.dat (.int (rows.length : Nat))), e3, e4, e5, e6, e7, e8, e9, e10, some (.dat (.bl c')), some (.dat (.int (i : Nat))), g13, e14, none, e16] ∧ (c' = true ↔ c = true ∧ ∀ k, k < rows.length → meetB rows i k = true) := by
  unfold lb__law_is_told_2
  have h6 := ht.six
  obtain ⟨en, h1, c', g13, rfl, hc⟩ := for_nx (Φ := callN TT GG FU n) (G := GG) (fu := FU) (tg := [13]) (one := true) (b := lb__law_is_told_1) (xs := rgD 0 (rows.length : Nat)) (en := [e0, some (.dat (dT rows)), some (.dat (.int (rows.length : Nat))), e3, e4, e5, e6, e7, e8, e9, e10, some (.dat (.bl c)), some (.dat (.int (i : Nat))), e13, e14, none, e16])
    (fun k en => ∃ c' g13, en = [e0, some (.dat (dT rows)), some (.dat (.int (rows.length : Nat))), e3, e4, e5, e6, e7, e8, e9, e10, some (.dat (.bl c')), some (.dat (.int (i : Nat))), g13, e14, none, e16] ∧ (c' = true ↔ c = true ∧ ∀ l, l < k → meetB rows i l = true)) ⟨c, e13, rfl, by simp⟩ (by
    rintro k x en hx ⟨c', g13, rfl, hc⟩
    obtain ⟨rfl, hk⟩ := rg_mem hx
    refine ⟨_, .inl (told_1 ht hi hk), _, _, rfl, ?_⟩
    rw [Bool.and_eq_true, hc]
    constructor
    · rintro ⟨⟨h1, h2⟩, h3⟩
      exact ⟨h1, fun l hl => by
        by_cases e : l = k
        · rw [e]; exact h3
        · exact h2 l (by omega)⟩
    · rintro ⟨h1, h2⟩
      exact ⟨⟨h1, fun l hl => h2 l (by omega)⟩, h2 k (by omega)⟩)
  rw [rg_len] at hc
  refine ⟨g13, c', ?_, hc⟩
  simp (disch := first | assumption | (with_unfolding_all exact Eng.bf_of rfl) | omega | (with_unfolding_all exact of_decide_eq_true rfl) | (simp only [List.length_map, List.length_append, List.length_take, List.length_drop, List.length_cons, List.length_nil, List.length_replicate, SZ]; omega)) only [Eng.RU, Nat.reduceAdd, Nat.reduceSub, Nat.reduceLeDiff, decide_true, decide_false, h1]
theorem told_3 (ht : tabI rows) {e0 e3 e4 e5 e6 e7 e8 e9 e10 e14 e16 : Option S} : ∃ g12 g13, kFor (callN TT GG FU n) GG FU [12] true lb__law_is_told_2 (rgD 0 (rows.length : Nat)) [e0, some (.dat (dT rows)), some (.dat (.int (rows.length : Nat))), e3, e4, e5, e6, e7, e8, e9, e10, some (.dat (.bl true)), none, none, e14, none, e16] =
    .nx [e0, some (.dat (dT rows)), some (.dat (.int (rows.length : Nat))), e3, e4, e5, e6, e7, e8, e9, e10, some (.dat (.bl (decide (cn rows.length (chn rows) < 1)))), g12, g13, e14, none, e16] := by
  obtain ⟨en, h1, c', g12, g13, rfl, hc⟩ := for_nx (Φ := callN TT GG FU n) (G := GG) (fu := FU) (tg := [12]) (one := true) (b := lb__law_is_told_2) (xs := rgD 0 (rows.length : Nat)) (en := [e0, some (.dat (dT rows)), some (.dat (.int (rows.length : Nat))), e3, e4, e5, e6, e7, e8, e9, e10, some (.dat (.bl true)), none, none, e14, none, e16])
    (fun k en => ∃ c' g12 g13, en = [e0, some (.dat (dT rows)), some (.dat (.int (rows.length : Nat))), e3, e4, e5, e6, e7, e8, e9, e10, some (.dat (.bl c')), g12, g13, e14, none, e16] ∧ (c' = true ↔ ∀ i l, i < k → l < rows.length → meetB rows i l = true)) ⟨true, none, none, rfl, by simp⟩ (by
    rintro k x en hx ⟨c', g12, g13, rfl, hc⟩
    obtain ⟨rfl, hk⟩ := rg_mem hx
    obtain ⟨q13, c2, h2, h3⟩ := told_2 (n := n) ht hk (c := c') (e0 := e0) (e3 := e3) (e4 := e4) (e5 := e5) (e6 := e6) (e7 := e7) (e8 := e8) (e9 := e9) (e10 := e10) (e12 := g12) (e13 := g13) (e14 := e14) (e16 := e16)
    refine ⟨_, .inl h2, c2, _, _, rfl, ?_⟩
    rw [h3, hc]
    constructor
    · rintro ⟨h4, h5⟩ i l hi hl
      by_cases e : i = k
      · rw [e]; exact h5 l hl
      · exact h4 i l (by omega) hl
    · intro h4
      exact ⟨fun i l hi hl => h4 i l (by omega) hl, fun l hl => h4 k l (by omega) hl⟩)
  rw [rg_len, ← cn_lt1 ht] at hc
  refine ⟨g12, g13, ?_⟩
  have : decide (cn rows.length (chn rows) < 1) = c' := by
    cases c' with
    | true => exact decide_eq_true (hc.mp rfl)
    | false => exact decide_eq_false fun z => by have := hc.mpr z; cases this
  rw [this]
  exact h1
end
end Law

set_option Elab.async false
set_option linter.all false
set_option maxRecDepth 100000
set_option maxHeartbeats 8000000
namespace Law
open PySem PySem.Spec PyProof.Rows L2 RZ Eng
/-! ### a table asked -/
section
variable {rows : List (List Int)} {p : List D} {B : Int}
theorem eq_shT {m : Nat} {f g : Nat → Rat} : cmpS .Eq (.dat (shT m f)) (.dat (shT m g)) = some (decide (ap m f g = 0)) := by
  unfold shT
  rw [eq_tfr]
  congr 1
  rw [decide_eq_decide, shL_eq, ap_zero]
theorem rowsM_0 (ht : tabI rows) : atI (rowsM rows) 0 = some (shM rows.length (chn rows 0)) := by
  have h1 := ht.pos
  unfold rowsM
  rw [show (0 : Int) = ((0 : Nat) : Int) from rfl, at_nat, List.getElem?_map, List.getElem?_range (by omega)]; rfl
theorem alike_c (ht : tabI rows) : ((List.range rows.length).all fun i => decide (shL rows.length (chn rows i) = shL rows.length (chn rows 0))) = decide (cn rows.length (chn rows) = 0) := by
  by_cases h : cn rows.length (chn rows) = 0
  · rw [decide_eq_true h, List.all_eq_true]
    intro i hi
    exact decide_eq_true ((cn_zero ht).mp h i (List.mem_range.mp hi))
  · rw [decide_eq_false h]
    refine Bool.eq_false_iff.mpr fun z => h ((cn_zero ht).mpr fun i hi => ?_)
    have := List.all_eq_true.mp z i (List.mem_range.mpr hi)
    exact of_decide_eq_true this
def told_T : P := (.cons (.asg (.nm 9) (.lc (.lc (.call "_law_chance" (.cons (.var 1) (.cons (.var 14) (.cons (.var 15) .nil)))) [15] true .r1 (.cons (.var 2) .nil) .nil [15]) [14] true .r1 (.cons (.var 2) .nil) .nil [14]))
      (.cons (.asgT (.tcons (.nm 10) (.tcons (.nm 11) .tnil)) (.cons (.bi .all (.lc (.cmp .Eq (.var 16) (.ix (.var 9) (.int 0))) [16] true .seq (.cons (.var 9) .nil) .nil [16])) (.cons (.bl true) .nil)))
      (.cons (.for_ [12] true .r1 (.cons (.var 2) .nil) lb__law_is_told_2)
      (.cons (.ret (.and_ (.cmp .Eq (.cmp .Eq (.var 8) (.tup (.cons (.int 0) (.cons (.int 1) .nil)))) (.var 10)) (.cmp .Eq (.call "_law_is_below" (.cons (.var 8) (.cons (.tup (.cons (.int 1) (.cons (.int 1) .nil))) .nil))) (.var 11))))
      .nil))))
theorem told_fin (n : Nat) (ht : tabI rows) (e3 e4 e5 : Option S) (d : Rat) : endF [true, true] (evS (callN TT GG FU (n + 7)) GG FU told_T [some (.ml p), some (.dat (dT rows)), some (.dat (.int (rows.length : Nat))), e3, e4, e5, some (.dat (fr d)), some (.dat (fr (cn rows.length (chn rows)))), some (.dat (fr (cn rows.length (chn rows)))), none, none, none, none, none, none, none, none]) = .ret (.dat (.bl true)) [some (.ml p), some (.dat (dT rows))] := by
  unfold told_T
  have h1 := ht.pos
  have h6 := ht.six
  have b16 := c__law_is_below (n + 6) (Bd_cn ht) (q := 1) (l := 10) ⟨by decide, by decide⟩ (by omega)
  have nb2 : (decide (cn rows.length (chn rows) = 0) == decide (cn rows.length (chn rows) = 0)) = true := by simp
  have nb3 : (decide (cn rows.length (chn rows) < 1) == decide (cn rows.length (chn rows) < 1)) = true := by simp
  simp (disch := first | assumption | (with_unfolding_all exact Eng.bf_of rfl) | omega | (with_unfolding_all exact of_decide_eq_true rfl) | (simp only [List.length_map, List.length_append, List.length_take, List.length_drop, List.length_cons, List.length_nil, List.length_replicate, SZ]; omega)) only [Eng.RU, Nat.reduceAdd, Nat.reduceSub, Nat.reduceLeDiff, decide_true, decide_false]
  rw [lc_map (g := fun d => match d with | .int k => shM rows.length (chn rows k.toNat) | _ => .non) (by rw [rg_len]; unfold SZ; omega) fun k y acc hy hacc => by
    obtain ⟨rfl, hk⟩ := rg_mem hy
    simp (disch := first | assumption | (with_unfolding_all exact Eng.bf_of rfl) | omega | (with_unfolding_all exact of_decide_eq_true rfl) | (simp only [List.length_map, List.length_append, List.length_take, List.length_drop, List.length_cons, List.length_nil, List.length_replicate, SZ]; omega)) only [Eng.RU, Nat.reduceAdd, Nat.reduceSub, Nat.reduceLeDiff, decide_true, decide_false]
    rw [lc_map (g := fun d => match d with | .int j => fr (chn rows k j.toNat) | _ => .non) (by rw [rg_len]; unfold SZ; omega) fun j y acc hy hacc => by
      obtain ⟨rfl, hj⟩ := rg_mem hy
      have c := c_law_chance (n + 5) ht hk hj
      simp (disch := first | assumption | (with_unfolding_all exact Eng.bf_of rfl) | omega | (with_unfolding_all exact of_decide_eq_true rfl) | (simp only [List.length_map, List.length_append, List.length_take, List.length_drop, List.length_cons, List.length_nil, List.length_replicate, SZ]; omega)) only [Eng.RU, Nat.reduceAdd, Nat.reduceSub, Nat.reduceLeDiff, decide_true, decide_false, c]
      rfl]
    rw [rg_mapN (f := fun j => fr (chn rows k j)) fun j _ => rfl]
    have e5 : D.lst ((List.range rows.length).map fun j => fr (chn rows k j)) = shM rows.length (chn rows k) := by
      unfold shM shL
      rw [List.map_map]; rfl
    simp (disch := first | assumption | (with_unfolding_all exact Eng.bf_of rfl) | omega | (with_unfolding_all exact of_decide_eq_true rfl) | (simp only [List.length_map, List.length_append, List.length_take, List.length_drop, List.length_cons, List.length_nil, List.length_replicate, SZ]; omega)) only [Eng.RU, Nat.reduceAdd, Nat.reduceSub, Nat.reduceLeDiff, decide_true, decide_false, e5]
    rfl]
  rw [rg_mapN (f := fun j => shM rows.length (chn rows j)) fun j _ => rfl]
  have e6 : ((List.range rows.length).map fun j => shM rows.length (chn rows j)) = rowsM rows := rfl
  rw [e6]
  simp (disch := first | assumption | (with_unfolding_all exact Eng.bf_of rfl) | omega | (with_unfolding_all exact of_decide_eq_true rfl) | (simp only [List.length_map, List.length_append, List.length_take, List.length_drop, List.length_cons, List.length_nil, List.length_replicate, SZ]; omega)) only [Eng.RU, Nat.reduceAdd, Nat.reduceSub, Nat.reduceLeDiff, decide_true, decide_false]
  rw [lc_map (g := fun d => .bl (eqD d (shM rows.length (chn rows 0)))) (by rw [rowsM_len]; unfold SZ; omega) fun k y acc hy hacc => by
    obtain ⟨hk, rfl⟩ := rowsM_at hy
    have r0 := rowsM_0 ht
    have e7 : cmpS .Eq (.dat (shM rows.length (chn rows k))) (.dat (shM rows.length (chn rows 0))) = some (eqD (shM rows.length (chn rows k)) (shM rows.length (chn rows 0))) := by
      unfold shM
      rw [eq_lfr, show eqD (D.lst ((shL rows.length (chn rows k)).map fr)) (D.lst ((shL rows.length (chn rows 0)).map fr)) = decide (shL rows.length (chn rows k) = shL rows.length (chn rows 0)) from by simp only [eqD, eqDs_fr]]
    simp (disch := first | assumption | (with_unfolding_all exact Eng.bf_of rfl) | omega | (with_unfolding_all exact of_decide_eq_true rfl) | (simp only [List.length_map, List.length_append, List.length_take, List.length_drop, List.length_cons, List.length_nil, List.length_replicate, SZ]; omega)) only [Eng.RU, Nat.reduceAdd, Nat.reduceSub, Nat.reduceLeDiff, decide_true, decide_false, r0, e7]]
  have e8 : (rowsM rows).map (fun d => D.bl (eqD d (shM rows.length (chn rows 0)))) = (List.range rows.length).map fun i => D.bl (decide (shL rows.length (chn rows i) = shL rows.length (chn rows 0))) := by
    unfold rowsM
    rw [List.map_map]
    refine List.map_congr_left fun i _ => ?_
    show D.bl (eqD (D.lst _) (D.lst _)) = _
    simp only [eqD, eqDs_fr]
  rw [e8]
  obtain ⟨g12, g13, h7⟩ := told_3 (n := n + 7) ht (e0 := some (.ml p)) (e3 := e3) (e4 := e4) (e5 := e5) (e6 := some (.dat (fr d))) (e7 := some (.dat (fr (cn rows.length (chn rows))))) (e8 := some (.dat (fr (cn rows.length (chn rows))))) (e9 := some (.dat (.lst (rowsM rows)))) (e10 := some (.dat (.bl (decide (cn rows.length (chn rows) = 0))))) (e14 := none) (e16 := none)
  simp (disch := first | assumption | (with_unfolding_all exact Eng.bf_of rfl) | omega | (with_unfolding_all exact of_decide_eq_true rfl) | (simp only [List.length_map, List.length_append, List.length_take, List.length_drop, List.length_cons, List.length_nil, List.length_replicate, SZ]; omega)) only [Eng.RU, Nat.reduceAdd, Nat.reduceSub, Nat.reduceLeDiff, decide_true, decide_false, alike_c ht, h7, fr_0, fr_1, eq_fr, nb2, b16, nb3]
theorem c_is_told (n : Nat) (ht : tabI rows) (hp : Pool B p) (hB : B < 10000000000) : ∃ p', callN TT GG FU (n + 8) "_law_is_told" [.ml p, .dat (dT rows)] = .ret (.dat (.bl true)) [some (.ml p'), some (.dat (dT rows))] ∧ Pool (B + 100) p' := by
  rw [s__law_is_told]
  unfold fn__law_is_told ir__law_is_told
  rw [← told_T.eq_1]
  have h1 := ht.pos
  have h6 := ht.six
  obtain ⟨f, p1, a1, hp1, hf⟩ := c_shares (n + 5) hp (by omega) h1 h6
  obtain ⟨g, p2, a2, hp2, hg⟩ := c_shares (n + 5) hp1 (by omega) h1 h6
  obtain ⟨h, p3, a3, hp3, hh⟩ := c_shares (n + 5) hp2 (by omega) h1 h6
  obtain ⟨r, p4, a4, hp4, hr1, hr2⟩ := c_take (n + 6) (m := 2) hp3 (by omega) (by omega) (by omega)
  obtain ⟨s, p5, a5, hp5, hs1, hs2⟩ := c_take (n + 6) (m := 2) hp4 (by omega) (by omega) (by omega)
  have b1 := c_apart n ht hf hg (by omega)
  have b2 := c_apart n ht hg hf (by omega)
  rw [ap_sym] at b2
  have b3 := c_law_apart (n + 3) hf.bd hg.bd h6 (by omega) (a := shT rows.length f) (b := shT rows.length g) rfl
  have b4 := c_apart n ht hf hh (by omega)
  have b5 := c_apart n ht hh hg (by omega)
  have d1 : Bd 143 (ap rows.length f g) := Bd_ap hf.bd hg.bd h6
  have d2 : Bd 143 (ap rows.length f h) := Bd_ap hf.bd hh.bd h6
  have d3 : Bd 143 (ap rows.length h g) := Bd_ap hh.bd hg.bd h6
  have b6 := c__law_plus (n + 5) d2 d3 (by omega)
  have b7 := c__law_is_below (n + 6) (d2.add d3) d1 (by omega)
  have t1 : ¬ ap rows.length f h + ap rows.length h g < ap rows.length f g := by
    have := ap_tri (m := rows.length) (f := f) (g := g) (h := h)
    grind
  rw [decide_eq_false t1] at b7
  have b8 := c__law_is_below (n + 6) (p := 1) (k := 10) ⟨by decide, by decide⟩ d1 (by omega)
  have t2 : ¬ 1 < ap rows.length f g := by
    have := ap_le1 (shL_sm ▸ hf.one) (shL_sm ▸ hg.one) hf.nn hg.nn
    grind
  rw [decide_eq_false t2] at b8
  have b9 := c_law_contraction (n + 1) ht
  have b10 := c_contraction n ht
  have b11 := c__law_by (n + 5) (Bd_cn ht) d1 (by omega)
  have b12 := c_led n ht hf (by omega)
  have b13 := c_led n ht hg (by omega)
  have hf2 := st_shr ht hf
  have hg2 := st_shr ht hg
  have b14 := c_apart n ht hf2 hg2 (by omega)
  have d4 := Bd_ap hf2.bd hg2.bd h6
  have b15 := c__law_is_below (n + 6) ((Bd_cn ht).mul d1) d4 (by omega)
  have t3 : ¬ cn rows.length (chn rows) * ap rows.length f g < ap rows.length (st rows f) (st rows g) := by
    have : ap rows.length (st rows f) (st rows g) ≤ cn rows.length (chn rows) * ap rows.length f g := ap_step (shL_sm ▸ hf.one) (shL_sm ▸ hg.one) fun i k hi hk => cn_ge hi hk
    grind
  rw [decide_eq_false t3] at b15
  have s1 := same_m (n := n + 6) (xs := [fr (ap rows.length f g), fr (ap rows.length f g)]) (by simp) fun x hx => by
    simp at hx
    rw [hx]
    exact same_fr (n + 4) _
  have s2 : callN TT GG FU (n + 7) "_law_same" [.dat (fr (cn rows.length (chn rows))), .dat (fr (cn rows.length (chn rows)))] = _ := same_fr (n + 5) _
  have m2 := mul_ml (xs := [fr (ap rows.length f g)]) (k := 2) (by omega) (by omega) (by unfold SZ; simp)
  have e2 : (List.replicate (2 : Int).toNat [fr (ap rows.length f g)]).flatten = [fr (ap rows.length f g), fr (ap rows.length f g)] := rfl
  rw [e2] at m2
  have nb : (decide (ap rows.length f g = 0) != decide (ap rows.length f g = 0)) = false := by simp
  refine ⟨p5, ?_, hp5.mono (by omega)⟩
  have fin := fun a b c => told_fin (p := p5) n ht a b c (ap rows.length f g)
  by_cases hr : r = 0
  · by_cases hs : s = 0
    · subst hr hs
      simp (disch := first | assumption | (with_unfolding_all exact Eng.bf_of rfl) | omega | (with_unfolding_all exact of_decide_eq_true rfl) | (simp only [List.length_map, List.length_append, List.length_take, List.length_drop, List.length_cons, List.length_nil, List.length_replicate, SZ]; omega)) only [Eng.RU, Nat.reduceAdd, Nat.reduceSub, Nat.reduceLeDiff, decide_true, decide_false, len_dT, a1, a2, a3, a4, decide_true, b1, b2, b3, m2, s1, fr_0, eq_fr, eq_shT, nb, b4, b5, b6, b7, fr_1, b8, b9, a5, b10, s2, b11, b12, b13, b14, b15, fin]
    · subst hr
      simp (disch := first | assumption | (with_unfolding_all exact Eng.bf_of rfl) | omega | (with_unfolding_all exact of_decide_eq_true rfl) | (simp only [List.length_map, List.length_append, List.length_take, List.length_drop, List.length_cons, List.length_nil, List.length_replicate, SZ]; omega)) only [Eng.RU, Nat.reduceAdd, Nat.reduceSub, Nat.reduceLeDiff, decide_true, decide_false, len_dT, a1, a2, a3, a4, decide_true, b1, b2, b3, m2, s1, fr_0, eq_fr, eq_shT, nb, b4, b5, b6, b7, fr_1, b8, b9, a5, hs, b10, s2, b11, b12, b13, b14, b15, fin]
  · by_cases hs : s = 0
    · subst hs
      simp (disch := first | assumption | (with_unfolding_all exact Eng.bf_of rfl) | omega | (with_unfolding_all exact of_decide_eq_true rfl) | (simp only [List.length_map, List.length_append, List.length_take, List.length_drop, List.length_cons, List.length_nil, List.length_replicate, SZ]; omega)) only [Eng.RU, Nat.reduceAdd, Nat.reduceSub, Nat.reduceLeDiff, decide_true, decide_false, len_dT, a1, a2, a3, a4, hr, b1, b2, b3, m2, s1, fr_0, eq_fr, eq_shT, nb, b4, b5, b6, b7, fr_1, b8, b9, a5, decide_true, b10, s2, b11, b12, b13, b14, b15, fin]
    · simp (disch := first | assumption | (with_unfolding_all exact Eng.bf_of rfl) | omega | (with_unfolding_all exact of_decide_eq_true rfl) | (simp only [List.length_map, List.length_append, List.length_take, List.length_drop, List.length_cons, List.length_nil, List.length_replicate, SZ]; omega)) only [Eng.RU, Nat.reduceAdd, Nat.reduceSub, Nat.reduceLeDiff, decide_true, decide_false, len_dT, a1, a2, a3, a4, hr, b1, b2, b3, m2, s1, fr_0, eq_fr, eq_shT, nb, b4, b5, b6, b7, fr_1, b8, b9, a5, hs, b10, s2, b11, b12, b13, b14, b15, fin]
end
end Law

set_option Elab.async false
set_option linter.all false
set_option maxRecDepth 100000
set_option maxHeartbeats 8000000
namespace Law
open PySem PySem.Spec PyProof.Rows L2 RZ Eng
/-! ### the law -/
section
variable {p : List D} {B : Int}
theorem right_2 (n : Nat) (hp : Pool B p) (hB : B < 100000000) {e1 e2 e3 e4 e5 : Option S} {x : Int} : ∃ p', kForS (callN TT GG FU (n + 8)) GG FU lb__law_right_2 (setD [some (.ml p), e1, e2, e3, e4, e5] [1] true (.int x)) = .nx [some (.ml p'), some (.dat (.int x)), e2, e3, e4, e5] ∧ Pool (B + 2000) p' := by
  unfold lb__law_right_2 ib__law_right_1
  obtain ⟨rows, p1, h1, hp1, ht⟩ := c_table (n + 5) hp (by omega)
  obtain ⟨p2, h2, hp2⟩ := c_is_told n ht hp1 (by omega)
  refine ⟨p2, ?_, hp2.mono (by omega)⟩
  simp (disch := first | assumption | (with_unfolding_all exact Eng.bf_of rfl) | omega | (with_unfolding_all exact of_decide_eq_true rfl) | (simp only [List.length_map, List.length_append, List.length_take, List.length_drop, List.length_cons, List.length_nil, List.length_replicate, SZ]; omega)) only [Eng.RU, Nat.reduceAdd, Nat.reduceSub, Nat.reduceLeDiff, decide_true, decide_false, h1, h2]
theorem tI_A : tabI [[0, 1], [1, 0]] := ⟨by simp, by simp, fun r hr => by
  simp at hr
  rcases hr with rfl | rfl
  · exact ⟨rfl, by intro x hx; simp at hx; omega, 1, by simp, by omega⟩
  · exact ⟨rfl, by intro x hx; simp at hx; omega, 1, by simp, by omega⟩⟩
theorem tI_B : tabI [[4]] := ⟨by simp, by simp, fun r hr => by
  simp at hr
  subst hr
  exact ⟨rfl, by intro x hx; simp at hx; omega, 4, by simp, by omega⟩⟩
theorem tI_C {a b c : Int} (ha : 1 ≤ a ∧ a ≤ 9) (hb : 1 ≤ b ∧ b ≤ 9) (hc : 1 ≤ c ∧ c ≤ 9) : tabI [[a, b, c], [2 * a, 2 * b, 2 * c], [a, b, c]] := ⟨by simp, by simp, fun r hr => by
  simp at hr
  rcases hr with rfl | rfl | rfl
  · exact ⟨rfl, by intro x hx; simp at hx; omega, a, by simp, by omega⟩
  · exact ⟨rfl, by intro x hx; simp at hx; omega, 2 * a, by simp, by omega⟩
  · exact ⟨rfl, by intro x hx; simp at hx; omega, a, by simp, by omega⟩⟩
theorem draw_1 {n : Nat} {p p' : List D} {a x : Int} {acc : List D} {g1 : Option S} (hz : acc.length < SZ) (h : callN TT GG FU (n + 8) "_law_take" [.ml p, .dat (.int 9)] = .ret (.dat (.int a)) [some (.ml p'), some (.dat (.int 9))]) :
    kT1 (callN TT GG FU (n + 8)) GG (.bin .Add (.int 1) (.call "_law_take" (.cons (.var 0) (.cons (.int 9) .nil)))) .nil [4] acc (setD [some (.ml p), g1, none, none, none, none] [4] true (.int x)) = .ok (acc ++ [.int (1 + a)]) [some (.ml p'), g1, none, none, none, none] := by
  simp (disch := first | assumption | (with_unfolding_all exact Eng.bf_of rfl) | omega | (with_unfolding_all exact of_decide_eq_true rfl) | (simp only [List.length_map, List.length_append, List.length_take, List.length_drop, List.length_cons, List.length_nil, List.length_replicate, SZ]; omega)) only [Eng.RU, Nat.reduceAdd, Nat.reduceSub, Nat.reduceLeDiff, decide_true, decide_false, h]
theorem cn_A : cn 2 (chn [[0, 1], [1, 0]]) = 1 := by
  have h1 : ¬ cn 2 (chn [[0, 1], [1, 0]]) < 1 := fun z => by
    have := (cn_lt1 tI_A).mp z 0 1 (by decide) (by decide)
    exact absurd this (by decide)
  obtain ⟨i, k, hi, hk, e⟩ := cn_mem (P := chn [[0, 1], [1, 0]]) (m := 2) (by omega)
  have h2 := ap_le1 (chn_one tI_A (i := i) hi) (chn_one tI_A (i := k) hk) (fun j hj => chn_nn tI_A hi hj) (fun j hj => chn_nn tI_A hk hj)
  have h3 : ap 2 (chn [[0, 1], [1, 0]] i) (chn [[0, 1], [1, 0]] k) ≤ 1 := h2
  grind
theorem cn_B : cn 1 (chn [[4]]) = 0 := (cn_zero tI_B).mpr fun i hi => by
  have hi2 : i < 1 := hi
  obtain rfl : i = 0 := by omega
  rfl
theorem cn_C {a b c : Int} (ha : 1 ≤ a ∧ a ≤ 9) (hb : 1 ≤ b ∧ b ≤ 9) (hc : 1 ≤ c ∧ c ≤ 9) : cn 3 (chn [[a, b, c], [2 * a, 2 * b, 2 * c], [a, b, c]]) = 0 := (cn_zero (tI_C ha hb hc)).mpr fun i hi => by
  have hi2 : i < 3 := hi
  have d : ∀ x : Int, Rat.divInt (2 * x) (2 * a + (2 * b + (2 * c + 0))) = Rat.divInt x (a + (b + (c + 0))) := fun x => by
    rw [dv_eq (by omega) (by omega)]
    grind
  rcases (show i = 0 ∨ i = 1 ∨ i = 2 by omega) with rfl | rfl | rfl
  · rfl
  · refine shL_eq.mpr fun j hj => ?_
    have hj2 : j < 3 := hj
    rcases (show j = 0 ∨ j = 1 ∨ j = 2 by omega) with rfl | rfl | rfl
    · exact d a
    · exact d b
    · exact d c
  · rfl
theorem c_right (n : Nat) (hp : Pool B p) (hB : B < 1000000) : ∃ p', callN TT GG FU (n + 9) "_law_right" [.ml p] = .ret (.dat (.bl true)) [some (.ml p')] := by
  rw [s__law_right]
  unfold fn__law_right ir__law_right
  obtain ⟨en, h1, p1, g1, rfl, hp1⟩ := for_nx (Φ := callN TT GG FU (n + 8)) (G := GG) (fu := FU) (tg := [1]) (one := true) (b := lb__law_right_2) (xs := rgD 0 10) (en := [some (.ml p), none, none, none, none, none])
    (fun i en => ∃ p' g1, en = [some (.ml p'), g1, none, none, none, none] ∧ Pool (B + 2000 * i) p') ⟨p, none, rfl, hp.mono (by omega)⟩ (by
    rintro i x en hx ⟨p', g1, rfl, hp'⟩
    obtain ⟨rfl, hi⟩ := rgD_get hx
    obtain ⟨q, h, hq⟩ := right_2 n hp' (by omega)
    exact ⟨_, .inl h, q, _, rfl, hq.mono (by omega)⟩)
  rw [rgD_len] at hp1
  obtain ⟨a, p2, h2, hp2, ha1, ha2⟩ := c_take (n + 7) (m := 9) hp1 (by omega) (by omega) (by omega)
  obtain ⟨b, p3, h3, hp3, hb1, hb2⟩ := c_take (n + 7) (m := 9) hp2 (by omega) (by omega) (by omega)
  obtain ⟨c, p4, h4, hp4, hc1, hc2⟩ := c_take (n + 7) (m := 9) hp3 (by omega) (by omega) (by omega)
  have r3 : kLcL (callN TT GG FU (n + 8)) GG (.bin .Add (.int 1) (.call "_law_take" (.cons (.var 0) (.cons (.int 9) .nil)))) [4] true .nil [4] (rgD 0 3) [] [some (.ml p1), g1, none, none, none, none] = .ok [.int (1 + a), .int (1 + b), .int (1 + c)] [some (.ml p4), g1, none, none, none, none] := by
    rw [show rgD 0 3 = [.int 0, .int 1, .int 2] from rfl, kLcL_s (draw_1 (by unfold SZ; simp) h2), kLcL_s (draw_1 (by unfold SZ; simp) h3), kLcL_s (draw_1 (by unfold SZ; simp) h4)]
    rfl
  have r4 : ∀ e0 e1, kLcL (callN TT GG FU (n + 8)) GG (.bin .Mult (.int 2) (.var 5)) [5] true .nil [5] [.int (1 + a), .int (1 + b), .int (1 + c)] [] [e0, e1, some (.dat (.tup [.int (1 + a), .int (1 + b), .int (1 + c)])), none, none, none] = .ok [.int (2 * (1 + a)), .int (2 * (1 + b)), .int (2 * (1 + c))] [e0, e1, some (.dat (.tup [.int (1 + a), .int (1 + b), .int (1 + c)])), none, none, none] := fun e0 e1 => by
    rw [lc_map (g := fun d => match d with | .int k => .int (2 * k) | _ => .non) (by unfold SZ; simp) fun k y acc hy hacc => by
      obtain ⟨k, rfl⟩ : ∃ k : Int, y = .int k := by
        have := List.mem_of_getElem? hy
        simp at this
        rcases this with rfl | rfl | rfl <;> exact ⟨_, rfl⟩
      simp (disch := first | assumption | (with_unfolding_all exact Eng.bf_of rfl) | omega | (with_unfolding_all exact of_decide_eq_true rfl) | (simp only [List.length_map, List.length_append, List.length_take, List.length_drop, List.length_cons, List.length_nil, List.length_replicate, SZ]; omega)) only [Eng.RU, Nat.reduceAdd, Nat.reduceSub, Nat.reduceLeDiff, decide_true, decide_false]]
    rfl
  have ht := tI_C (a := 1 + a) (b := 1 + b) (c := 1 + c) (by omega) (by omega) (by omega)
  obtain ⟨p5, h5, hp5⟩ := c_is_told n ht hp4 (by omega)
  have h6 := c_contraction (n + 1) ht
  rw [show ([[1 + a, 1 + b, 1 + c], [2 * (1 + a), 2 * (1 + b), 2 * (1 + c)], [1 + a, 1 + b, 1 + c]] : List (List Int)).length = 3 from rfl, cn_C (by omega) (by omega) (by omega)] at h6
  have h7 := c_contraction (n + 1) tI_A
  rw [show ([[0, 1], [1, 0]] : List (List Int)).length = 2 from rfl, cn_A] at h7
  have h8 := c_contraction (n + 1) tI_B
  rw [show ([[4]] : List (List Int)).length = 1 from rfl, cn_B] at h8
  have s1 := same_m (n := n + 7) (xs := [fr 0, fr 0, fr 1]) (by simp) fun x hx => by
    simp at hx
    rcases hx with rfl | rfl <;> exact same_fr (n + 5) _
  have e1 : dT [[1 + a, 1 + b, 1 + c], [2 * (1 + a), 2 * (1 + b), 2 * (1 + c)], [1 + a, 1 + b, 1 + c]] = .tup [.tup [.int (1 + a), .int (1 + b), .int (1 + c)], .tup [.int (2 * (1 + a)), .int (2 * (1 + b)), .int (2 * (1 + c))], .tup [.int (1 + a), .int (1 + b), .int (1 + c)]] := rfl
  have e2 : dT [[0, 1], [1, 0]] = .tup [fr 0, .tup [.int 1, .int 0]] := rfl
  have e3 : dT [[4]] = .tup [.tup [.int 4]] := rfl
  rw [e1] at h5 h6
  rw [e2] at h7
  rw [e3] at h8
  simp (disch := first | assumption | (with_unfolding_all exact Eng.bf_of rfl) | omega | (with_unfolding_all exact of_decide_eq_true rfl) | (simp only [List.length_map, List.length_append, List.length_take, List.length_drop, List.length_cons, List.length_nil, List.length_replicate, SZ]; omega)) only [Eng.RU, Nat.reduceAdd, Nat.reduceSub, Nat.reduceLeDiff, decide_true, decide_false, h1, r3, r4, h5, h6, h7, h8, fr_0, fr_1, s1]
  exact ⟨_, rfl⟩
end
theorem well_1 {n : Nat} {e0 e1 e2 e4 : Option S} {a x : Int} (h1 : 0 ≤ a) (h2 : a < 2147483648) : ∃ b, kForS (callN TT GG FU n) GG FU lb__law_well_1 (setD [e0, e1, e2, some (.dat (.int a)), e4] [4] true (.int x)) = .nx [e0, e1, e2, some (.dat (.int b)), some (.dat (.int x))] ∧ 0 ≤ b ∧ b < 2147483648 := by
  unfold lb__law_well_1
  have : 0 ≤ x % 2147483587 ∧ x % 2147483587 < 2147483587 := ⟨Int.emod_nonneg _ (by omega), Int.emod_lt_of_pos _ (by omega)⟩
  simp (disch := first | assumption | (with_unfolding_all exact Eng.bf_of rfl) | omega | (with_unfolding_all exact of_decide_eq_true rfl) | (simp only [List.length_map, List.length_append, List.length_take, List.length_drop, List.length_cons, List.length_nil, List.length_replicate, SZ]; omega)) only [Eng.RU, Nat.reduceAdd, Nat.reduceSub, Nat.reduceLeDiff, decide_true, decide_false]
  exact ⟨_, rfl, Int.emod_nonneg _ (by decide), Int.lt_of_lt_of_le (Int.emod_lt_of_pos _ (by decide)) (by decide)⟩
theorem c_well (n : Nat) (ns : List Int) (l : Nat) (hl : l < 100) : ∃ p, callN TT GG FU (n + 1) "_law_well" [.dat (.scr ns), .dat (.int (l : Nat))] = .ret (.ml p) [some (.dat (.scr ns)), some (.dat (.int (l : Nat)))] ∧ Pool 0 p := by
  rw [s__law_well]
  unfold fn__law_well ir__law_well
  have key : ∀ (own : Int), ∃ a e4, kFor (callN TT GG FU n) GG FU [4] true lb__law_well_1 ((ns.map D.int).take 8 ++ [.int own]) [some (.dat (.scr ns)), some (.dat (.int (l : Nat))), some (.dat (.int own)), some (.dat (.int (52027 + 6971 * (l : Int)))), none] = .nx [some (.dat (.scr ns)), some (.dat (.int (l : Nat))), some (.dat (.int own)), some (.dat (.int a)), e4] ∧ 0 ≤ a ∧ a < 2147483648 := fun own => by
    obtain ⟨en, h1, a, e4, rfl, h3, h4⟩ := for_nx (Φ := callN TT GG FU n) (G := GG) (fu := FU) (tg := [4]) (one := true) (b := lb__law_well_1) (xs := (ns.map D.int).take 8 ++ [.int own]) (en := [some (.dat (.scr ns)), some (.dat (.int (l : Nat))), some (.dat (.int own)), some (.dat (.int (52027 + 6971 * (l : Int)))), none])
      (fun i en => ∃ (a : Int) (e4 : Option S), en = [some (.dat (.scr ns)), some (.dat (.int (l : Nat))), some (.dat (.int own)), some (.dat (.int a)), e4] ∧ 0 ≤ a ∧ a < 2147483648) ⟨_, _, rfl, by omega, by omega⟩ (by
      rintro i x en hx ⟨a, e4, rfl, h1, h2⟩
      obtain ⟨y, rfl⟩ : ∃ y : Int, x = .int y := by
        rcases List.mem_append.mp (List.mem_of_getElem? hx) with z | z
        · obtain ⟨y, _, rfl⟩ := List.mem_map.mp (List.mem_of_mem_take z)
          exact ⟨y, rfl⟩
        · simp at z; exact ⟨_, z⟩
      obtain ⟨b, h3, h4, h5⟩ := well_1 (n := n) (e0 := some (.dat (.scr ns))) (e1 := some (.dat (.int (l : Nat)))) (e2 := some (.dat (.int own))) (e4 := e4) (x := y) h1 h2
      exact ⟨_, .inl h3, b, _, rfl, h4, h5⟩)
    exact ⟨a, e4, h1, h3, h4⟩
  have fin : ∀ own : Int, ∃ p, endF [true, true] (evS (callN TT GG FU n) GG FU (.cons (.asg (.nm 3) (.bin .Add (.int 52027) (.bin .Mult (.int 6971) (.var 1))))
      (.cons (.for_ [4] true .seq (.cons (.bin .Add (.slc (.var 0) .nil (.int 8)) (.lst (.cons (.var 2) .nil))) .nil) lb__law_well_1)
      (.cons (.ret (.lst (.cons (.ife (.or_ (.cmp .Lt (.var 2) (.int 0)) (.cmp .GtE (.var 2) (.bin .Pow (.int 10) (.int 18)))) (.bi .abs (.var 2)) (.int 0)) (.cons (.var 3) (.cons (.int 0) .nil)))))
      .nil))) [some (.dat (.scr ns)), some (.dat (.int (l : Nat))), some (.dat (.int own)), none, none]) = .ret (.ml p) [some (.dat (.scr ns)), some (.dat (.int (l : Nat)))] ∧ Pool 0 p := fun own => by
    obtain ⟨a, e4, h1, h2, h3⟩ := key own
    have hz : ((ns.map D.int).take 8).length + [D.int own].length ≤ SZ := by
      rw [List.length_take, List.length_cons, List.length_nil]; unfold SZ; omega
    have ha := add_m hz
    simp (disch := first | assumption | (with_unfolding_all exact Eng.bf_of rfl) | omega | (with_unfolding_all exact of_decide_eq_true rfl) | (simp only [List.length_map, List.length_append, List.length_take, List.length_drop, List.length_cons, List.length_nil, List.length_replicate, SZ]; omega)) only [Eng.RU, Nat.reduceAdd, Nat.reduceSub, Nat.reduceLeDiff, decide_true, decide_false, Int.reduceToNat, ha, h1]
    by_cases c1 : own < 0
    · simp (disch := first | assumption | (with_unfolding_all exact Eng.bf_of rfl) | omega | (with_unfolding_all exact of_decide_eq_true rfl) | (simp only [List.length_map, List.length_append, List.length_take, List.length_drop, List.length_cons, List.length_nil, List.length_replicate, SZ]; omega)) only [Eng.RU, Nat.reduceAdd, Nat.reduceSub, Nat.reduceLeDiff, decide_true, decide_false, c1, decide_true]
      exact ⟨_, rfl, _, _, _, rfl, by omega, by omega, by omega, by omega, by omega⟩
    · by_cases c2 : (10 : Int) ^ (18 : Int).toNat ≤ own
      · simp (disch := first | assumption | (with_unfolding_all exact Eng.bf_of rfl) | omega | (with_unfolding_all exact of_decide_eq_true rfl) | (simp only [List.length_map, List.length_append, List.length_take, List.length_drop, List.length_cons, List.length_nil, List.length_replicate, SZ]; omega)) only [Eng.RU, Nat.reduceAdd, Nat.reduceSub, Nat.reduceLeDiff, decide_true, decide_false, c1, decide_false, c2, decide_true]
        exact ⟨_, rfl, _, _, _, rfl, by omega, by omega, by omega, by omega, by omega⟩
      · simp (disch := first | assumption | (with_unfolding_all exact Eng.bf_of rfl) | omega | (with_unfolding_all exact of_decide_eq_true rfl) | (simp only [List.length_map, List.length_append, List.length_take, List.length_drop, List.length_cons, List.length_nil, List.length_replicate, SZ]; omega)) only [Eng.RU, Nat.reduceAdd, Nat.reduceSub, Nat.reduceLeDiff, decide_true, decide_false, c1, decide_false, c2]
        exact ⟨_, rfl, _, _, _, rfl, by omega, by omega, by omega, by omega, by omega⟩
  by_cases hlt : (l : Int) < ns.length
  · have hl2 : l < ns.length := by omega
    have e : atI (ns.map D.int) ((l : Nat) : Int) = some (.int ns[l]) := by
      rw [at_nat, List.getElem?_map, List.getElem?_eq_getElem hl2]; rfl
    obtain ⟨p, h1, h2⟩ := fin ns[l]
    refine ⟨p, ?_, h2⟩
    rw [← h1]
    simp (disch := first | assumption | (with_unfolding_all exact Eng.bf_of rfl) | omega | (with_unfolding_all exact of_decide_eq_true rfl) | (simp only [List.length_map, List.length_append, List.length_take, List.length_drop, List.length_cons, List.length_nil, List.length_replicate, SZ]; omega)) only [Eng.RU, Nat.reduceAdd, Nat.reduceSub, Nat.reduceLeDiff, decide_true, decide_false, hlt, decide_true, e]
  · obtain ⟨p, h1, h2⟩ := fin 0
    refine ⟨p, ?_, h2⟩
    rw [← h1]
    simp (disch := first | assumption | (with_unfolding_all exact Eng.bf_of rfl) | omega | (with_unfolding_all exact of_decide_eq_true rfl) | (simp only [List.length_map, List.length_append, List.length_take, List.length_drop, List.length_cons, List.length_nil, List.length_replicate, SZ]; omega)) only [Eng.RU, Nat.reduceAdd, Nat.reduceSub, Nat.reduceLeDiff, decide_true, decide_false, hlt, decide_false]
theorem pure_law : ∀ ns : List Int, ns.length ≤ 63 → ∃ fin, runFn (callN TT GG FU 40) GG FU fn_law [.dat (.scr ns)] = .ret (.dat (.bl true)) fin := by
  intro ns hns
  unfold fn_law ir_law
  obtain ⟨m, hm, hm0, hm2⟩ : ∃ m : Int, (if (if (3 : Int) < (ns.length : Int) then 3 else (ns.length : Int)) > 2 then (if (3 : Int) < (ns.length : Int) then 3 else (ns.length : Int)) else 2) = m ∧ 0 ≤ m ∧ m ≤ 3 := by
    refine ⟨_, rfl, ?_, ?_⟩ <;> split <;> split <;> omega
  simp (disch := first | assumption | (with_unfolding_all exact Eng.bf_of rfl) | omega | (with_unfolding_all exact of_decide_eq_true rfl) | (simp only [List.length_map, List.length_append, List.length_take, List.length_drop, List.length_cons, List.length_nil, List.length_replicate, SZ]; omega)) only [Eng.RU, Nat.reduceAdd, Nat.reduceSub, Nat.reduceLeDiff, decide_true, decide_false, hm]
  rw [lc_map (g := fun _ => D.bl true) (by rw [rgD_len]; unfold SZ; omega) fun i x acc hx ha => by
    obtain ⟨rfl, hi⟩ := rgD_get hx
    obtain ⟨p, h1, h2⟩ := c_well 39 ns i (by omega)
    obtain ⟨f2, h3⟩ := c_right 31 h2 (by omega)
    simp (disch := first | assumption | (with_unfolding_all exact Eng.bf_of rfl) | omega | (with_unfolding_all exact of_decide_eq_true rfl) | (simp only [List.length_map, List.length_append, List.length_take, List.length_drop, List.length_cons, List.length_nil, List.length_replicate, SZ]; omega)) only [Eng.RU, Nat.reduceAdd, Nat.reduceSub, Nat.reduceLeDiff, decide_true, decide_false, h1, h3]]
  have ha : (rgD 0 m).all (fun _ => true) = true := by simp
  simp (disch := first | assumption | (with_unfolding_all exact Eng.bf_of rfl) | omega | (with_unfolding_all exact of_decide_eq_true rfl) | (simp only [List.length_map, List.length_append, List.length_take, List.length_drop, List.length_cons, List.length_nil, List.length_replicate, SZ]; omega)) only [Eng.RU, Nat.reduceAdd, Nat.reduceSub, Nat.reduceLeDiff, decide_true, decide_false, ha]
  exact ⟨_, rfl⟩
end Law

set_option Elab.async false
set_option linter.all false
set_option maxRecDepth 100000
set_option maxHeartbeats 8000000
namespace Law
open PySem PySem.Spec PyProof.Rows L2 RZ Eng
theorem all_mk {l : PySem.W.OpenLaw} {w : World} {K : PySem.W.Frag} {h : Heap} {mg : Str → Option Value} {fa : Addr} (X : K.In h) (G : h.Ns mainGlobals mg) (hfa : mg "law" = some (.ref fa))
    {f0 : Addr} {od0 an0 : Option Addr} {sl0 : Array (Option Value)} {oc0 kV0 dc0 pm0 cd0 ct0 : Value}
    {f1 : Addr} {od1 an1 : Option Addr} {sl1 : Array (Option Value)} {oc1 kV1 dc1 pm1 cd1 ct1 : Value}
    {f2 : Addr} {od2 an2 : Option Addr} {sl2 : Array (Option Value)} {oc2 kV2 dc2 pm2 cd2 ct2 : Value}
    {f3 : Addr} {od3 an3 : Option Addr} {sl3 : Array (Option Value)} {oc3 kV3 dc3 pm3 cd3 ct3 : Value}
    {f4 : Addr} {od4 an4 : Option Addr} {sl4 : Array (Option Value)} {oc4 kV4 dc4 pm4 cd4 ct4 : Value}
    {f5 : Addr} {od5 an5 : Option Addr} {sl5 : Array (Option Value)} {oc5 kV5 dc5 pm5 cd5 ct5 : Value}
    {f6 : Addr} {od6 an6 : Option Addr} {sl6 : Array (Option Value)} {oc6 kV6 dc6 pm6 cd6 ct6 : Value}
    {f7 : Addr} {od7 an7 : Option Addr} {sl7 : Array (Option Value)} {oc7 kV7 dc7 pm7 cd7 ct7 : Value}
    {f8 : Addr} {od8 an8 : Option Addr} {sl8 : Array (Option Value)} {oc8 kV8 dc8 pm8 cd8 ct8 : Value}
    {f9 : Addr} {od9 an9 : Option Addr} {sl9 : Array (Option Value)} {oc9 kV9 dc9 pm9 cd9 ct9 : Value}
    {f10 : Addr} {od10 an10 : Option Addr} {sl10 : Array (Option Value)} {oc10 kV10 dc10 pm10 cd10 ct10 : Value}
    {f11 : Addr} {od11 an11 : Option Addr} {sl11 : Array (Option Value)} {oc11 kV11 dc11 pm11 cd11 ct11 : Value}
    {f12 : Addr} {od12 an12 : Option Addr} {sl12 : Array (Option Value)} {oc12 kV12 dc12 pm12 cd12 ct12 : Value}
    {f13 : Addr} {od13 an13 : Option Addr} {sl13 : Array (Option Value)} {oc13 kV13 dc13 pm13 cd13 ct13 : Value}
    {f14 : Addr} {od14 an14 : Option Addr} {sl14 : Array (Option Value)} {oc14 kV14 dc14 pm14 cd14 ct14 : Value}
    {f15 : Addr} {od15 an15 : Option Addr} {sl15 : Array (Option Value)} {oc15 kV15 dc15 pm15 cd15 ct15 : Value}
    {f16 : Addr} {od16 an16 : Option Addr} {sl16 : Array (Option Value)} {oc16 kV16 dc16 pm16 cd16 ct16 : Value}
    {f17 : Addr} {od17 an17 : Option Addr} {sl17 : Array (Option Value)} {oc17 kV17 dc17 pm17 cd17 ct17 : Value}
    {f18 : Addr} {od18 an18 : Option Addr} {sl18 : Array (Option Value)} {oc18 kV18 dc18 pm18 cd18 ct18 : Value}
    {f19 : Addr} {od19 an19 : Option Addr} {sl19 : Array (Option Value)} {oc19 kV19 dc19 pm19 cd19 ct19 : Value}
    {f20 : Addr} {od20 an20 : Option Addr} {sl20 : Array (Option Value)} {oc20 kV20 dc20 pm20 cd20 ct20 : Value}
    {f21 : Addr} {od21 an21 : Option Addr} {sl21 : Array (Option Value)} {oc21 kV21 dc21 pm21 cd21 ct21 : Value}
    {f22 : Addr} {od22 an22 : Option Addr} {sl22 : Array (Option Value)} {oc22 kV22 dc22 pm22 cd22 ct22 : Value}
    {f23 : Addr} {od23 an23 : Option Addr} {sl23 : Array (Option Value)} {oc23 kV23 dc23 pm23 cd23 ct23 : Value}
    {f24 : Addr} {od24 an24 : Option Addr} {sl24 : Array (Option Value)} {oc24 kV24 dc24 pm24 cd24 ct24 : Value}
    {f25 : Addr} {od25 an25 : Option Addr} {sl25 : Array (Option Value)} {oc25 kV25 dc25 pm25 cd25 ct25 : Value}
    {f26 : Addr} {od26 an26 : Option Addr} {sl26 : Array (Option Value)} {oc26 kV26 dc26 pm26 cd26 ct26 : Value}
    {f27 : Addr} {od27 an27 : Option Addr} {sl27 : Array (Option Value)} {oc27 kV27 dc27 pm27 cd27 ct27 : Value}
    {f28 : Addr} {od28 an28 : Option Addr} {sl28 : Array (Option Value)} {oc28 kV28 dc28 pm28 cd28 ct28 : Value}
    {f29 : Addr} {od29 an29 : Option Addr} {sl29 : Array (Option Value)} {oc29 kV29 dc29 pm29 cd29 ct29 : Value}
    {f30 : Addr} {od30 an30 : Option Addr} {sl30 : Array (Option Value)} {oc30 kV30 dc30 pm30 cd30 ct30 : Value}
    {f31 : Addr} {od31 an31 : Option Addr} {sl31 : Array (Option Value)} {oc31 kV31 dc31 pm31 cd31 ct31 : Value}
    {f32 : Addr} {od32 an32 : Option Addr} {sl32 : Array (Option Value)} {oc32 kV32 dc32 pm32 cd32 ct32 : Value}
    {f33 : Addr} {od33 an33 : Option Addr} {sl33 : Array (Option Value)} {oc33 kV33 dc33 pm33 cd33 ct33 : Value}
    {f34 : Addr} {od34 an34 : Option Addr} {sl34 : Array (Option Value)} {oc34 kV34 dc34 pm34 cd34 ct34 : Value}
    {f35 : Addr} {od35 an35 : Option Addr} {sl35 : Array (Option Value)} {oc35 kV35 dc35 pm35 cd35 ct35 : Value}
    {f36 : Addr} {od36 an36 : Option Addr} {sl36 : Array (Option Value)} {oc36 kV36 dc36 pm36 cd36 ct36 : Value}
    {f37 : Addr} {od37 an37 : Option Addr} {sl37 : Array (Option Value)} {oc37 kV37 dc37 pm37 cd37 ct37 : Value}
    {f38 : Addr} {od38 an38 : Option Addr} {sl38 : Array (Option Value)} {oc38 kV38 dc38 pm38 cd38 ct38 : Value}
    {f39 : Addr} {od39 an39 : Option Addr} {sl39 : Array (Option Value)} {oc39 kV39 dc39 pm39 cd39 ct39 : Value}
    {f40 : Addr} {od40 an40 : Option Addr} {sl40 : Array (Option Value)} {oc40 kV40 dc40 pm40 cd40 ct40 : Value}
    {f41 : Addr} {od41 an41 : Option Addr} {sl41 : Array (Option Value)} {oc41 kV41 dc41 pm41 cd41 ct41 : Value}
    {f42 : Addr} {od42 an42 : Option Addr} {sl42 : Array (Option Value)} {oc42 kV42 dc42 pm42 cd42 ct42 : Value}
    {f43 : Addr} {od43 an43 : Option Addr} {sl43 : Array (Option Value)} {oc43 kV43 dc43 pm43 cd43 ct43 : Value}
    {f44 : Addr} {od44 an44 : Option Addr} {sl44 : Array (Option Value)} {oc44 kV44 dc44 pm44 cd44 ct44 : Value}
    {f45 : Addr} {od45 an45 : Option Addr} {sl45 : Array (Option Value)} {oc45 kV45 dc45 pm45 cd45 ct45 : Value}
    {f46 : Addr} {od46 an46 : Option Addr} {sl46 : Array (Option Value)} {oc46 kV46 dc46 pm46 cd46 ct46 : Value}
    {f47 : Addr} {od47 an47 : Option Addr} {sl47 : Array (Option Value)} {oc47 kV47 dc47 pm47 cd47 ct47 : Value}
    {ga0 : Addr} {gd0 : Option Addr} {gn0 : Nat} {gs0 : Array (Option Value)} {t0_0 : Tok} {t0_1 : Tok}
    {t1 : Tok}
    {t2 : Tok}
    {t3 : Tok}
    {ga4 : Addr} {gd4 : Option Addr} {gn4 : Nat} {gs4 : Array (Option Value)} {t4_0 : Tok} {t4_1 : Tok}
    {ga5 : Addr} {gd5 : Option Addr} {gn5 : Nat} {gs5 : Array (Option Value)} {t5_0 : Tok} {t5_1 : Tok}
    (a0 : PySem.W.nsIn K mainGlobals "is_whole" = some (some (.ref f0))) (l0 : K.lookup f0 = some ⟨oc0, od0, .func (PySem.W.fnOf "is_whole" "is_whole" (defArgs st_is_whole) (defBody st_is_whole) (defScope st_is_whole) .none kV0 dc0 pm0 an0 cd0 ct0), sl0⟩) (c0 : PySem.W.codeIn K cd0 "is_whole" = true) (k0 : PySem.W.keepIn K (.ref f0) = true)
    (a1 : PySem.W.nsIn K mainGlobals "is_between" = some (some (.ref f1))) (l1 : K.lookup f1 = some ⟨oc1, od1, .func (PySem.W.fnOf "is_between" "is_between" (defArgs st_is_between) (defBody st_is_between) (defScope st_is_between) .none kV1 dc1 pm1 an1 cd1 ct1), sl1⟩) (c1 : PySem.W.codeIn K cd1 "is_between" = true) (k1 : PySem.W.keepIn K (.ref f1) = true)
    (a2 : PySem.W.nsIn K mainGlobals "is_tuple_of" = some (some (.ref f2))) (l2 : K.lookup f2 = some ⟨oc2, od2, .func (PySem.W.fnOf "is_tuple_of" "is_tuple_of" (defArgs st_is_tuple_of) (defBody st_is_tuple_of) (defScope st_is_tuple_of) .none kV2 dc2 pm2 an2 cd2 ct2), sl2⟩) (c2 : PySem.W.codeIn K cd2 "is_tuple_of" = true) (k2 : PySem.W.keepIn K (.ref f2) = true)
    (a3 : PySem.W.nsIn K mainGlobals "is_fraction" = some (some (.ref f3))) (l3 : K.lookup f3 = some ⟨oc3, od3, .func (PySem.W.fnOf "is_fraction" "is_fraction" (defArgs st_is_fraction) (defBody st_is_fraction) (defScope st_is_fraction) .none kV3 dc3 pm3 an3 cd3 ct3), sl3⟩) (c3 : PySem.W.codeIn K cd3 "is_fraction" = true) (k3 : PySem.W.keepIn K (.ref f3) = true)
    (a4 : PySem.W.nsIn K mainGlobals "fraction" = some (some (.ref f4))) (l4 : K.lookup f4 = some ⟨oc4, od4, .func (PySem.W.fnOf "fraction" "fraction" (defArgs st_fraction) (defBody st_fraction) (defScope st_fraction) .none kV4 dc4 pm4 an4 cd4 ct4), sl4⟩) (c4 : PySem.W.codeIn K cd4 "fraction" = true) (k4 : PySem.W.keepIn K (.ref f4) = true)
    (a5 : PySem.W.nsIn K mainGlobals "fraction_sum" = some (some (.ref f5))) (l5 : K.lookup f5 = some ⟨oc5, od5, .func (PySem.W.fnOf "fraction_sum" "fraction_sum" (defArgs st_fraction_sum) (defBody st_fraction_sum) (defScope st_fraction_sum) .none kV5 dc5 pm5 an5 cd5 ct5), sl5⟩) (c5 : PySem.W.codeIn K cd5 "fraction_sum" = true) (k5 : PySem.W.keepIn K (.ref f5) = true)
    (a6 : PySem.W.nsIn K mainGlobals "fraction_less" = some (some (.ref f6))) (l6 : K.lookup f6 = some ⟨oc6, od6, .func (PySem.W.fnOf "fraction_less" "fraction_less" (defArgs st_fraction_less) (defBody st_fraction_less) (defScope st_fraction_less) .none kV6 dc6 pm6 an6 cd6 ct6), sl6⟩) (c6 : PySem.W.codeIn K cd6 "fraction_less" = true) (k6 : PySem.W.keepIn K (.ref f6) = true)
    (a7 : PySem.W.nsIn K mainGlobals "fraction_times" = some (some (.ref f7))) (l7 : K.lookup f7 = some ⟨oc7, od7, .func (PySem.W.fnOf "fraction_times" "fraction_times" (defArgs st_fraction_times) (defBody st_fraction_times) (defScope st_fraction_times) .none kV7 dc7 pm7 an7 cd7 ct7), sl7⟩) (c7 : PySem.W.codeIn K cd7 "fraction_times" = true) (k7 : PySem.W.keepIn K (.ref f7) = true)
    (a8 : PySem.W.nsIn K mainGlobals "is_above" = some (some (.ref f8))) (l8 : K.lookup f8 = some ⟨oc8, od8, .func (PySem.W.fnOf "is_above" "is_above" (defArgs st_is_above) (defBody st_is_above) (defScope st_is_above) .none kV8 dc8 pm8 an8 cd8 ct8), sl8⟩) (c8 : PySem.W.codeIn K cd8 "is_above" = true) (k8 : PySem.W.keepIn K (.ref f8) = true)
    (a9 : PySem.W.nsIn K mainGlobals "greater_of" = some (some (.ref f9))) (l9 : K.lookup f9 = some ⟨oc9, od9, .func (PySem.W.fnOf "greater_of" "greater_of" (defArgs st_greater_of) (defBody st_greater_of) (defScope st_greater_of) .none kV9 dc9 pm9 an9 cd9 ct9), sl9⟩) (c9 : PySem.W.codeIn K cd9 "greater_of" = true) (k9 : PySem.W.keepIn K (.ref f9) = true)
    (a10 : PySem.W.nsIn K mainGlobals "total" = some (some (.ref f10))) (l10 : K.lookup f10 = some ⟨oc10, od10, .func (PySem.W.fnOf "total" "total" (defArgs st_total) (defBody st_total) (defScope st_total) .none kV10 dc10 pm10 an10 cd10 ct10), sl10⟩) (c10 : PySem.W.codeIn K cd10 "total" = true) (k10 : PySem.W.keepIn K (.ref f10) = true)
    (a11 : PySem.W.nsIn K mainGlobals "greatest_of" = some (some (.ref f11))) (l11 : K.lookup f11 = some ⟨oc11, od11, .func (PySem.W.fnOf "greatest_of" "greatest_of" (defArgs st_greatest_of) (defBody st_greatest_of) (defScope st_greatest_of) .none kV11 dc11 pm11 an11 cd11 ct11), sl11⟩) (c11 : PySem.W.codeIn K cd11 "greatest_of" = true) (k11 : PySem.W.keepIn K (.ref f11) = true)
    (a12 : PySem.W.nsIn K mainGlobals "wrong_in_each" = some (some (.ref f12))) (l12 : K.lookup f12 = some ⟨oc12, od12, .func (PySem.W.fnOf "wrong_in_each" "wrong_in_each" (defArgs st_wrong_in_each) (defBody st_wrong_in_each) (defScope st_wrong_in_each) .none kV12 dc12 pm12 an12 cd12 ct12), sl12⟩) (c12 : PySem.W.codeIn K cd12 "wrong_in_each" = true) (k12 : PySem.W.keepIn K (.ref f12) = true)
    (a13 : PySem.W.nsIn K mainGlobals "is_row" = some (some (.ref f13))) (l13 : K.lookup f13 = some ⟨oc13, od13, .func (PySem.W.fnOf "is_row" "is_row" (defArgs st_is_row) (defBody st_is_row) (defScope st_is_row) .none kV13 dc13 pm13 an13 cd13 ct13), sl13⟩) (c13 : PySem.W.codeIn K cd13 "is_row" = true) (k13 : PySem.W.keepIn K (.ref f13) = true)
    (a14 : PySem.W.nsIn K mainGlobals "wrong_in_table" = some (some (.ref f14))) (l14 : K.lookup f14 = some ⟨oc14, od14, .func (PySem.W.fnOf "wrong_in_table" "wrong_in_table" (defArgs st_wrong_in_table) (defBody st_wrong_in_table) (defScope st_wrong_in_table) .none kV14 dc14 pm14 an14 cd14 ct14), sl14⟩) (c14 : PySem.W.codeIn K cd14 "wrong_in_table" = true) (k14 : PySem.W.keepIn K (.ref f14) = true)
    (a15 : PySem.W.nsIn K mainGlobals "places_of" = some (some (.ref f15))) (l15 : K.lookup f15 = some ⟨oc15, od15, .func (PySem.W.fnOf "places_of" "places_of" (defArgs st_places_of) (defBody st_places_of) (defScope st_places_of) .none kV15 dc15 pm15 an15 cd15 ct15), sl15⟩) (c15 : PySem.W.codeIn K cd15 "places_of" = true) (k15 : PySem.W.keepIn K (.ref f15) = true)
    (a16 : PySem.W.nsIn K mainGlobals "chance_by" = some (some (.ref f16))) (l16 : K.lookup f16 = some ⟨oc16, od16, .func (PySem.W.fnOf "chance_by" "chance_by" (defArgs st_chance_by) (defBody st_chance_by) (defScope st_chance_by) .none kV16 dc16 pm16 an16 cd16 ct16), sl16⟩) (c16 : PySem.W.codeIn K cd16 "chance_by" = true) (k16 : PySem.W.keepIn K (.ref f16) = true)
    (a17 : PySem.W.nsIn K mainGlobals "is_share" = some (some (.ref f17))) (l17 : K.lookup f17 = some ⟨oc17, od17, .func (PySem.W.fnOf "is_share" "is_share" (defArgs st_is_share) (defBody st_is_share) (defScope st_is_share) .none kV17 dc17 pm17 an17 cd17 ct17), sl17⟩) (c17 : PySem.W.codeIn K cd17 "is_share" = true) (k17 : PySem.W.keepIn K (.ref f17) = true)
    (a18 : PySem.W.nsIn K mainGlobals "wrong_in_shares" = some (some (.ref f18))) (l18 : K.lookup f18 = some ⟨oc18, od18, .func (PySem.W.fnOf "wrong_in_shares" "wrong_in_shares" (defArgs st_wrong_in_shares) (defBody st_wrong_in_shares) (defScope st_wrong_in_shares) .none kV18 dc18 pm18 an18 cd18 ct18), sl18⟩) (c18 : PySem.W.codeIn K cd18 "wrong_in_shares" = true) (k18 : PySem.W.keepIn K (.ref f18) = true)
    (a19 : PySem.W.nsIn K mainGlobals "share_behind" = some (some (.ref f19))) (l19 : K.lookup f19 = some ⟨oc19, od19, .func (PySem.W.fnOf "share_behind" "share_behind" (defArgs st_share_behind) (defBody st_share_behind) (defScope st_share_behind) .none kV19 dc19 pm19 an19 cd19 ct19), sl19⟩) (c19 : PySem.W.codeIn K cd19 "share_behind" = true) (k19 : PySem.W.keepIn K (.ref f19) = true)
    (a20 : PySem.W.nsIn K mainGlobals "led_once" = some (some (.ref f20))) (l20 : K.lookup f20 = some ⟨oc20, od20, .func (PySem.W.fnOf "led_once" "led_once" (defArgs st_led_once) (defBody st_led_once) (defScope st_led_once) .none kV20 dc20 pm20 an20 cd20 ct20), sl20⟩) (c20 : PySem.W.codeIn K cd20 "led_once" = true) (k20 : PySem.W.keepIn K (.ref f20) = true)
    (a21 : PySem.W.nsIn K mainGlobals "led_by" = some (some (.ref f21))) (l21 : K.lookup f21 = some ⟨oc21, od21, .func (PySem.W.fnOf "led_by" "led_by" (defArgs st_led_by) (defBody st_led_by) (defScope st_led_by) .none kV21 dc21 pm21 an21 cd21 ct21), sl21⟩) (c21 : PySem.W.codeIn K cd21 "led_by" = true) (k21 : PySem.W.keepIn K (.ref f21) = true)
    (a22 : PySem.W.nsIn K mainGlobals "check_table" = some (some (.ref f22))) (l22 : K.lookup f22 = some ⟨oc22, od22, .func (PySem.W.fnOf "check_table" "check_table" (defArgs st_check_table) (defBody st_check_table) (defScope st_check_table) .none kV22 dc22 pm22 an22 cd22 ct22), sl22⟩) (c22 : PySem.W.codeIn K cd22 "check_table" = true) (k22 : PySem.W.keepIn K (.ref f22) = true)
    (a23 : PySem.W.nsIn K mainGlobals "check_shares" = some (some (.ref f23))) (l23 : K.lookup f23 = some ⟨oc23, od23, .func (PySem.W.fnOf "check_shares" "check_shares" (defArgs st_check_shares) (defBody st_check_shares) (defScope st_check_shares) .none kV23 dc23 pm23 an23 cd23 ct23), sl23⟩) (c23 : PySem.W.codeIn K cd23 "check_shares" = true) (k23 : PySem.W.keepIn K (.ref f23) = true)
    (a24 : PySem.W.nsIn K mainGlobals "check_times" = some (some (.ref f24))) (l24 : K.lookup f24 = some ⟨oc24, od24, .func (PySem.W.fnOf "check_times" "check_times" (defArgs st_check_times) (defBody st_check_times) (defScope st_check_times) .none kV24 dc24 pm24 an24 cd24 ct24), sl24⟩) (c24 : PySem.W.codeIn K cd24 "check_times" = true) (k24 : PySem.W.keepIn K (.ref f24) = true)
    (a25 : PySem.W.nsIn K mainGlobals "apart_by" = some (some (.ref f25))) (l25 : K.lookup f25 = some ⟨oc25, od25, .func (PySem.W.fnOf "apart_by" "apart_by" (defArgs st_apart_by) (defBody st_apart_by) (defScope st_apart_by) .none kV25 dc25 pm25 an25 cd25 ct25), sl25⟩) (c25 : PySem.W.codeIn K cd25 "apart_by" = true) (k25 : PySem.W.keepIn K (.ref f25) = true)
    (a26 : PySem.W.nsIn K mainGlobals "chances_from" = some (some (.ref f26))) (l26 : K.lookup f26 = some ⟨oc26, od26, .func (PySem.W.fnOf "chances_from" "chances_from" (defArgs st_chances_from) (defBody st_chances_from) (defScope st_chances_from) .none kV26 dc26 pm26 an26 cd26 ct26), sl26⟩) (c26 : PySem.W.codeIn K cd26 "chances_from" = true) (k26 : PySem.W.keepIn K (.ref f26) = true)
    (a27 : PySem.W.nsIn K mainGlobals "contraction_by" = some (some (.ref f27))) (l27 : K.lookup f27 = some ⟨oc27, od27, .func (PySem.W.fnOf "contraction_by" "contraction_by" (defArgs st_contraction_by) (defBody st_contraction_by) (defScope st_contraction_by) .none kV27 dc27 pm27 an27 cd27 ct27), sl27⟩) (c27 : PySem.W.codeIn K cd27 "contraction_by" = true) (k27 : PySem.W.keepIn K (.ref f27) = true)
    (a28 : PySem.W.nsIn K mainGlobals "led" = some (some (.ref f28))) (l28 : K.lookup f28 = some ⟨oc28, od28, .func (PySem.W.fnOf "led" "led" (defArgs st_led) (defBody st_led) (defScope st_led) .none kV28 dc28 pm28 an28 cd28 ct28), sl28⟩) (c28 : PySem.W.codeIn K cd28 "led" = true) (k28 : PySem.W.keepIn K (.ref f28) = true)
    (a29 : PySem.W.nsIn K mainGlobals "apart" = some (some (.ref f29))) (l29 : K.lookup f29 = some ⟨oc29, od29, .func (PySem.W.fnOf "apart" "apart" (defArgs st_apart) (defBody st_apart) (defScope st_apart) .none kV29 dc29 pm29 an29 cd29 ct29), sl29⟩) (c29 : PySem.W.codeIn K cd29 "apart" = true) (k29 : PySem.W.keepIn K (.ref f29) = true)
    (a30 : PySem.W.nsIn K mainGlobals "contraction" = some (some (.ref f30))) (l30 : K.lookup f30 = some ⟨oc30, od30, .func (PySem.W.fnOf "contraction" "contraction" (defArgs st_contraction) (defBody st_contraction) (defScope st_contraction) .none kV30 dc30 pm30 an30 cd30 ct30), sl30⟩) (c30 : PySem.W.codeIn K cd30 "contraction" = true) (k30 : PySem.W.keepIn K (.ref f30) = true)
    (a31 : PySem.W.nsIn K mainGlobals "_law_well" = some (some (.ref f31))) (l31 : K.lookup f31 = some ⟨oc31, od31, .func (PySem.W.fnOf "_law_well" "_law_well" (defArgs st__law_well) (defBody st__law_well) (defScope st__law_well) .none kV31 dc31 pm31 an31 cd31 ct31), sl31⟩) (c31 : PySem.W.codeIn K cd31 "_law_well" = true) (k31 : PySem.W.keepIn K (.ref f31) = true)
    (a32 : PySem.W.nsIn K mainGlobals "_law_take" = some (some (.ref f32))) (l32 : K.lookup f32 = some ⟨oc32, od32, .func (PySem.W.fnOf "_law_take" "_law_take" (defArgs st__law_take) (defBody st__law_take) (defScope st__law_take) .none kV32 dc32 pm32 an32 cd32 ct32), sl32⟩) (c32 : PySem.W.codeIn K cd32 "_law_take" = true) (k32 : PySem.W.keepIn K (.ref f32) = true)
    (a33 : PySem.W.nsIn K mainGlobals "_law_of" = some (some (.ref f33))) (l33 : K.lookup f33 = some ⟨oc33, od33, .func (PySem.W.fnOf "_law_of" "_law_of" (defArgs st__law_of) (defBody st__law_of) (defScope st__law_of) .none kV33 dc33 pm33 an33 cd33 ct33), sl33⟩) (c33 : PySem.W.codeIn K cd33 "_law_of" = true) (k33 : PySem.W.keepIn K (.ref f33) = true)
    (a34 : PySem.W.nsIn K mainGlobals "_law_same" = some (some (.ref f34))) (l34 : K.lookup f34 = some ⟨oc34, od34, .func (PySem.W.fnOf "_law_same" "_law_same" (defArgs st__law_same) (defBody st__law_same) (defScope st__law_same) .none kV34 dc34 pm34 an34 cd34 ct34), sl34⟩) (c34 : PySem.W.codeIn K cd34 "_law_same" = true) (k34 : PySem.W.keepIn K (.ref f34) = true)
    (a35 : PySem.W.nsIn K mainGlobals "_law_part" = some (some (.ref f35))) (l35 : K.lookup f35 = some ⟨oc35, od35, .func (PySem.W.fnOf "_law_part" "_law_part" (defArgs st__law_part) (defBody st__law_part) (defScope st__law_part) .none kV35 dc35 pm35 an35 cd35 ct35), sl35⟩) (c35 : PySem.W.codeIn K cd35 "_law_part" = true) (k35 : PySem.W.keepIn K (.ref f35) = true)
    (a36 : PySem.W.nsIn K mainGlobals "_law_plus" = some (some (.ref f36))) (l36 : K.lookup f36 = some ⟨oc36, od36, .func (PySem.W.fnOf "_law_plus" "_law_plus" (defArgs st__law_plus) (defBody st__law_plus) (defScope st__law_plus) .none kV36 dc36 pm36 an36 cd36 ct36), sl36⟩) (c36 : PySem.W.codeIn K cd36 "_law_plus" = true) (k36 : PySem.W.keepIn K (.ref f36) = true)
    (a37 : PySem.W.nsIn K mainGlobals "_law_less" = some (some (.ref f37))) (l37 : K.lookup f37 = some ⟨oc37, od37, .func (PySem.W.fnOf "_law_less" "_law_less" (defArgs st__law_less) (defBody st__law_less) (defScope st__law_less) .none kV37 dc37 pm37 an37 cd37 ct37), sl37⟩) (c37 : PySem.W.codeIn K cd37 "_law_less" = true) (k37 : PySem.W.keepIn K (.ref f37) = true)
    (a38 : PySem.W.nsIn K mainGlobals "_law_by" = some (some (.ref f38))) (l38 : K.lookup f38 = some ⟨oc38, od38, .func (PySem.W.fnOf "_law_by" "_law_by" (defArgs st__law_by) (defBody st__law_by) (defScope st__law_by) .none kV38 dc38 pm38 an38 cd38 ct38), sl38⟩) (c38 : PySem.W.codeIn K cd38 "_law_by" = true) (k38 : PySem.W.keepIn K (.ref f38) = true)
    (a39 : PySem.W.nsIn K mainGlobals "_law_is_below" = some (some (.ref f39))) (l39 : K.lookup f39 = some ⟨oc39, od39, .func (PySem.W.fnOf "_law_is_below" "_law_is_below" (defArgs st__law_is_below) (defBody st__law_is_below) (defScope st__law_is_below) .none kV39 dc39 pm39 an39 cd39 ct39), sl39⟩) (c39 : PySem.W.codeIn K cd39 "_law_is_below" = true) (k39 : PySem.W.keepIn K (.ref f39) = true)
    (a40 : PySem.W.nsIn K mainGlobals "_law_table" = some (some (.ref f40))) (l40 : K.lookup f40 = some ⟨oc40, od40, .func (PySem.W.fnOf "_law_table" "_law_table" (defArgs st__law_table) (defBody st__law_table) (defScope st__law_table) .none kV40 dc40 pm40 an40 cd40 ct40), sl40⟩) (c40 : PySem.W.codeIn K cd40 "_law_table" = true) (k40 : PySem.W.keepIn K (.ref f40) = true)
    (a41 : PySem.W.nsIn K mainGlobals "_law_chance" = some (some (.ref f41))) (l41 : K.lookup f41 = some ⟨oc41, od41, .func (PySem.W.fnOf "_law_chance" "_law_chance" (defArgs st__law_chance) (defBody st__law_chance) (defScope st__law_chance) .none kV41 dc41 pm41 an41 cd41 ct41), sl41⟩) (c41 : PySem.W.codeIn K cd41 "_law_chance" = true) (k41 : PySem.W.keepIn K (.ref f41) = true)
    (a42 : PySem.W.nsIn K mainGlobals "_law_apart" = some (some (.ref f42))) (l42 : K.lookup f42 = some ⟨oc42, od42, .func (PySem.W.fnOf "_law_apart" "_law_apart" (defArgs st__law_apart) (defBody st__law_apart) (defScope st__law_apart) .none kV42 dc42 pm42 an42 cd42 ct42), sl42⟩) (c42 : PySem.W.codeIn K cd42 "_law_apart" = true) (k42 : PySem.W.keepIn K (.ref f42) = true)
    (a43 : PySem.W.nsIn K mainGlobals "_law_shares" = some (some (.ref f43))) (l43 : K.lookup f43 = some ⟨oc43, od43, .func (PySem.W.fnOf "_law_shares" "_law_shares" (defArgs st__law_shares) (defBody st__law_shares) (defScope st__law_shares) .none kV43 dc43 pm43 an43 cd43 ct43), sl43⟩) (c43 : PySem.W.codeIn K cd43 "_law_shares" = true) (k43 : PySem.W.keepIn K (.ref f43) = true)
    (a44 : PySem.W.nsIn K mainGlobals "_law_contraction" = some (some (.ref f44))) (l44 : K.lookup f44 = some ⟨oc44, od44, .func (PySem.W.fnOf "_law_contraction" "_law_contraction" (defArgs st__law_contraction) (defBody st__law_contraction) (defScope st__law_contraction) .none kV44 dc44 pm44 an44 cd44 ct44), sl44⟩) (c44 : PySem.W.codeIn K cd44 "_law_contraction" = true) (k44 : PySem.W.keepIn K (.ref f44) = true)
    (a45 : PySem.W.nsIn K mainGlobals "_law_is_told" = some (some (.ref f45))) (l45 : K.lookup f45 = some ⟨oc45, od45, .func (PySem.W.fnOf "_law_is_told" "_law_is_told" (defArgs st__law_is_told) (defBody st__law_is_told) (defScope st__law_is_told) .none kV45 dc45 pm45 an45 cd45 ct45), sl45⟩) (c45 : PySem.W.codeIn K cd45 "_law_is_told" = true) (k45 : PySem.W.keepIn K (.ref f45) = true)
    (a46 : PySem.W.nsIn K mainGlobals "_law_right" = some (some (.ref f46))) (l46 : K.lookup f46 = some ⟨oc46, od46, .func (PySem.W.fnOf "_law_right" "_law_right" (defArgs st__law_right) (defBody st__law_right) (defScope st__law_right) .none kV46 dc46 pm46 an46 cd46 ct46), sl46⟩) (c46 : PySem.W.codeIn K cd46 "_law_right" = true) (k46 : PySem.W.keepIn K (.ref f46) = true)
    (a47 : PySem.W.nsIn K mainGlobals "law" = some (some (.ref f47))) (l47 : K.lookup f47 = some ⟨oc47, od47, .func (PySem.W.fnOf "law" "law" (defArgs st_law) (defBody st_law) (defScope st_law) .none kV47 dc47 pm47 an47 cd47 ct47), sl47⟩) (c47 : PySem.W.codeIn K cd47 "law" = true) (k47 : PySem.W.keepIn K (.ref f47) = true)
    (z0 : PySem.W.nsIn K mainGlobals "abs" = some none)
    (z1 : PySem.W.nsIn K mainGlobals "all" = some none)
    (z2 : PySem.W.nsIn K mainGlobals "any" = some none)
    (z3 : PySem.W.nsIn K mainGlobals "bool" = some none)
    (z4 : PySem.W.nsIn K mainGlobals "dict" = some none)
    (z5 : PySem.W.nsIn K mainGlobals "divmod" = some none)
    (z6 : PySem.W.nsIn K mainGlobals "enumerate" = some none)
    (z7 : PySem.W.nsIn K mainGlobals "int" = some none)
    (z8 : PySem.W.nsIn K mainGlobals "isinstance" = some none)
    (z9 : PySem.W.nsIn K mainGlobals "len" = some none)
    (z10 : PySem.W.nsIn K mainGlobals "list" = some none)
    (z11 : PySem.W.nsIn K mainGlobals "max" = some none)
    (z12 : PySem.W.nsIn K mainGlobals "min" = some none)
    (z13 : PySem.W.nsIn K mainGlobals "range" = some none)
    (z14 : PySem.W.nsIn K mainGlobals "str" = some none)
    (z15 : PySem.W.nsIn K mainGlobals "sum" = some none)
    (z16 : PySem.W.nsIn K mainGlobals "tuple" = some none)
    (z17 : PySem.W.nsIn K mainGlobals "zip" = some none)
    (gv0 : PySem.W.nsIn K mainGlobals "HALF" = some (some (.ref ga0))) (gw0 : K.lookup ga0 = some ⟨.type "tuple", gd0, .seq #[.int 1 t0_0, .int 2 t0_1] gn0, gs0⟩)
    (gv1 : PySem.W.nsIn K mainGlobals "MOST_NUMBER" = some (some (.int 99 t1)))
    (gv2 : PySem.W.nsIn K mainGlobals "MOST_PLACES" = some (some (.int 6 t2)))
    (gv3 : PySem.W.nsIn K mainGlobals "MOST_STEPS" = some (some (.int 60 t3)))
    (gv4 : PySem.W.nsIn K mainGlobals "ONE" = some (some (.ref ga4))) (gw4 : K.lookup ga4 = some ⟨.type "tuple", gd4, .seq #[.int 1 t4_0, .int 1 t4_1] gn4, gs4⟩)
    (gv5 : PySem.W.nsIn K mainGlobals "ZERO" = some (some (.ref ga5))) (gw5 : K.lookup ga5 = some ⟨.type "tuple", gd5, .seq #[.int 0 t5_0, .int 1 t5_1] gn5, gs5⟩)
    (gc : PySem.W.nsIn K mainGlobals "gcd" = some (some (.builtin "math.gcd")))
    : ∃ fd : FuncData, (∀ (s : Shared) (v : Value), BindsTo s fd ⟨[v], []⟩ [("script", v)]) ∧ ∀ base : Heap, K.In base → base.Ns mainGlobals mg → FnOk l.prog w K mg base (L2.CX l.prog w) 41 fa fd ["script"] (spLaw K 63) := by
  have e := hfa.symm.trans (PySem.W.mg_of X G a47)
  cases e
  have mgc := PySem.W.mg_of X G gc
  have F0 := fun_mk (st := st_is_whole) l0 c0 k0
  have b0 := F0.binds (ps := ["value"]) fun _ _ _ _ _ _ us hl => match us, hl with | [_], _ => rfl
  have d0 : ∀ base : Heap, DefOk l.prog w K mg base GG FU FS BS "is_whole" fn_is_whole := fun base => ⟨_, _, _, PySem.W.mg_of X G a0, k0, b0, rfl, (fa_cons (fun hf => absurd hf (by decide +kernel)) (fa_cons (fun hf => absurd hf (by decide +kernel)) fa_nil)), fun Φ k wd => ok_is_whole F0 wd⟩
  have F1 := fun_mk (st := st_is_between) l1 c1 k1
  have b1 := F1.binds (ps := ["value", "low", "high"]) fun _ _ _ _ _ _ us hl => match us, hl with | [_, _, _], _ => rfl
  have d1 : ∀ base : Heap, DefOk l.prog w K mg base GG FU FS BS "is_between" fn_is_between := fun base => ⟨_, _, _, PySem.W.mg_of X G a1, k1, b1, rfl, (fa_cons (fun hf => absurd hf (by decide +kernel)) (fa_cons (fun hf => absurd hf (by decide +kernel)) fa_nil)), fun Φ k wd => ok_is_between F1 wd⟩
  have F2 := fun_mk (st := st_is_tuple_of) l2 c2 k2
  have b2 := F2.binds (ps := ["value", "many"]) fun _ _ _ _ _ _ us hl => match us, hl with | [_, _], _ => rfl
  have d2 : ∀ base : Heap, DefOk l.prog w K mg base GG FU FS BS "is_tuple_of" fn_is_tuple_of := fun base => ⟨_, _, _, PySem.W.mg_of X G a2, k2, b2, rfl, (fa_cons (fun hf => absurd hf (by decide +kernel)) (fa_cons (fun hf => absurd hf (by decide +kernel)) fa_nil)), fun Φ k wd => ok_is_tuple_of F2 wd⟩
  have F3 := fun_mk (st := st_is_fraction) l3 c3 k3
  have b3 := F3.binds (ps := ["value"]) fun _ _ _ _ _ _ us hl => match us, hl with | [_], _ => rfl
  have d3 : ∀ base : Heap, DefOk l.prog w K mg base GG FU FS BS "is_fraction" fn_is_fraction := fun base => ⟨_, _, _, PySem.W.mg_of X G a3, k3, b3, rfl, (fa_cons (fun hf => absurd hf (by decide +kernel)) (fa_cons (fun hf => absurd hf (by decide +kernel)) fa_nil)), fun Φ k wd => ok_is_fraction mgc F3 wd⟩
  have F4 := fun_mk (st := st_fraction) l4 c4 k4
  have b4 := F4.binds (ps := ["number", "under"]) fun _ _ _ _ _ _ us hl => match us, hl with | [_, _], _ => rfl
  have d4 : ∀ base : Heap, DefOk l.prog w K mg base GG FU FS BS "fraction" fn_fraction := fun base => ⟨_, _, _, PySem.W.mg_of X G a4, k4, b4, rfl, (fa_cons (fun hf => absurd hf (by decide +kernel)) (fa_cons (fun hf => absurd hf (by decide +kernel)) fa_nil)), fun Φ k wd => ok_fraction mgc F4 wd⟩
  have F5 := fun_mk (st := st_fraction_sum) l5 c5 k5
  have b5 := F5.binds (ps := ["one", "two"]) fun _ _ _ _ _ _ us hl => match us, hl with | [_, _], _ => rfl
  have d5 : ∀ base : Heap, DefOk l.prog w K mg base GG FU FS BS "fraction_sum" fn_fraction_sum := fun base => ⟨_, _, _, PySem.W.mg_of X G a5, k5, b5, rfl, (fa_cons (fun hf => absurd hf (by decide +kernel)) (fa_cons (fun hf => absurd hf (by decide +kernel)) fa_nil)), fun Φ k wd => ok_fraction_sum F5 wd⟩
  have F6 := fun_mk (st := st_fraction_less) l6 c6 k6
  have b6 := F6.binds (ps := ["one", "two"]) fun _ _ _ _ _ _ us hl => match us, hl with | [_, _], _ => rfl
  have d6 : ∀ base : Heap, DefOk l.prog w K mg base GG FU FS BS "fraction_less" fn_fraction_less := fun base => ⟨_, _, _, PySem.W.mg_of X G a6, k6, b6, rfl, (fa_cons (fun hf => absurd hf (by decide +kernel)) (fa_cons (fun hf => absurd hf (by decide +kernel)) fa_nil)), fun Φ k wd => ok_fraction_less F6 wd⟩
  have F7 := fun_mk (st := st_fraction_times) l7 c7 k7
  have b7 := F7.binds (ps := ["one", "two"]) fun _ _ _ _ _ _ us hl => match us, hl with | [_, _], _ => rfl
  have d7 : ∀ base : Heap, DefOk l.prog w K mg base GG FU FS BS "fraction_times" fn_fraction_times := fun base => ⟨_, _, _, PySem.W.mg_of X G a7, k7, b7, rfl, (fa_cons (fun hf => absurd hf (by decide +kernel)) (fa_cons (fun hf => absurd hf (by decide +kernel)) fa_nil)), fun Φ k wd => ok_fraction_times F7 wd⟩
  have F8 := fun_mk (st := st_is_above) l8 c8 k8
  have b8 := F8.binds (ps := ["one", "two"]) fun _ _ _ _ _ _ us hl => match us, hl with | [_, _], _ => rfl
  have d8 : ∀ base : Heap, DefOk l.prog w K mg base GG FU FS BS "is_above" fn_is_above := fun base => ⟨_, _, _, PySem.W.mg_of X G a8, k8, b8, rfl, (fa_cons (fun hf => absurd hf (by decide +kernel)) (fa_cons (fun hf => absurd hf (by decide +kernel)) fa_nil)), fun Φ k wd => ok_is_above F8 wd⟩
  have F9 := fun_mk (st := st_greater_of) l9 c9 k9
  have b9 := F9.binds (ps := ["one", "two"]) fun _ _ _ _ _ _ us hl => match us, hl with | [_, _], _ => rfl
  have d9 : ∀ base : Heap, DefOk l.prog w K mg base GG FU FS BS "greater_of" fn_greater_of := fun base => ⟨_, _, _, PySem.W.mg_of X G a9, k9, b9, rfl, (fa_cons (fun hf => absurd hf (by decide +kernel)) (fa_cons (fun hf => absurd hf (by decide +kernel)) fa_nil)), fun Φ k wd => ok_greater_of F9 wd⟩
  have F10 := fun_mk (st := st_total) l10 c10 k10
  have b10 := F10.binds (ps := ["fractions"]) fun _ _ _ _ _ _ us hl => match us, hl with | [_], _ => rfl
  have d10 : ∀ base : Heap, DefOk l.prog w K mg base GG FU FS BS "total" fn_total := fun base => ⟨_, _, _, PySem.W.mg_of X G a10, k10, b10, rfl, (fa_cons (fun hf => absurd hf (by decide +kernel)) (fa_cons (fun hf => absurd hf (by decide +kernel)) fa_nil)), fun Φ k wd => ok_total F10 wd⟩
  have F11 := fun_mk (st := st_greatest_of) l11 c11 k11
  have b11 := F11.binds (ps := ["fractions"]) fun _ _ _ _ _ _ us hl => match us, hl with | [_], _ => rfl
  have d11 : ∀ base : Heap, DefOk l.prog w K mg base GG FU FS BS "greatest_of" fn_greatest_of := fun base => ⟨_, _, _, PySem.W.mg_of X G a11, k11, b11, rfl, (fa_cons (fun hf => absurd hf (by decide +kernel)) (fa_cons (fun hf => absurd hf (by decide +kernel)) fa_nil)), fun Φ k wd => ok_greatest_of F11 wd⟩
  have F12 := fun_mk (st := st_wrong_in_each) l12 c12 k12
  have b12 := F12.binds (ps := ["value", "many", "is_one"]) fun _ _ _ _ _ _ us hl => match us, hl with | [_, _, _], _ => rfl
  have d12 : ∀ base : Heap, DefOk l.prog w K mg base GG FU FS BS "wrong_in_each" fn_wrong_in_each := fun base => ⟨_, _, _, PySem.W.mg_of X G a12, k12, b12, rfl, (fa_cons (fun hf => absurd hf (by decide +kernel)) (fa_cons (fun hf => absurd hf (by decide +kernel)) fa_nil)), fun Φ k wd => ok_wrong_in_each F12 wd⟩
  have F13 := fun_mk (st := st_is_row) l13 c13 k13
  have b13 := F13.binds (ps := ["value", "many"]) fun _ _ _ _ _ _ us hl => match us, hl with | [_, _], _ => rfl
  have d13 : ∀ base : Heap, DefOk l.prog w K mg base GG FU FS BS "is_row" fn_is_row := fun base => ⟨_, _, _, PySem.W.mg_of X G a13, k13, b13, rfl, (fa_cons (fun hf => absurd hf (by decide +kernel)) (fa_cons (fun hf => absurd hf (by decide +kernel)) fa_nil)), fun Φ k wd => ok_is_row F13 wd⟩
  have F14 := fun_mk (st := st_wrong_in_table) l14 c14 k14
  have b14 := F14.binds (ps := ["value"]) fun _ _ _ _ _ _ us hl => match us, hl with | [_], _ => rfl
  have d14 : ∀ base : Heap, DefOk l.prog w K mg base GG FU FS BS "wrong_in_table" fn_wrong_in_table := fun base => ⟨_, _, _, PySem.W.mg_of X G a14, k14, b14, rfl, (fa_cons (fun hf => absurd hf (by decide +kernel)) (fa_cons (fun hf => absurd hf (by decide +kernel)) fa_nil)), fun Φ k wd => ok_wrong_in_table F14 wd⟩
  have F15 := fun_mk (st := st_places_of) l15 c15 k15
  have b15 := F15.binds (ps := ["table"]) fun _ _ _ _ _ _ us hl => match us, hl with | [_], _ => rfl
  have d15 : ∀ base : Heap, DefOk l.prog w K mg base GG FU FS BS "places_of" fn_places_of := fun base => ⟨_, _, _, PySem.W.mg_of X G a15, k15, b15, rfl, (fa_cons (fun hf => absurd hf (by decide +kernel)) (fa_cons (fun hf => absurd hf (by decide +kernel)) fa_nil)), fun Φ k wd => ok_places_of F15 wd⟩
  have F16 := fun_mk (st := st_chance_by) l16 c16 k16
  have b16 := F16.binds (ps := ["table", "one", "two"]) fun _ _ _ _ _ _ us hl => match us, hl with | [_, _, _], _ => rfl
  have d16 : ∀ base : Heap, DefOk l.prog w K mg base GG FU FS BS "chance_by" fn_chance_by := fun base => ⟨_, _, _, PySem.W.mg_of X G a16, k16, b16, rfl, (fa_cons (fun hf => absurd hf (by decide +kernel)) (fa_cons (fun hf => absurd hf (by decide +kernel)) fa_nil)), fun Φ k wd => ok_chance_by F16 wd⟩
  have F17 := fun_mk (st := st_is_share) l17 c17 k17
  have b17 := F17.binds (ps := ["value"]) fun _ _ _ _ _ _ us hl => match us, hl with | [_], _ => rfl
  have d17 : ∀ base : Heap, DefOk l.prog w K mg base GG FU FS BS "is_share" fn_is_share := fun base => ⟨_, _, _, PySem.W.mg_of X G a17, k17, b17, rfl, (fa_cons (fun hf => absurd hf (by decide +kernel)) (fa_cons (fun hf => absurd hf (by decide +kernel)) fa_nil)), fun Φ k wd => ok_is_share F17 wd⟩
  have F18 := fun_mk (st := st_wrong_in_shares) l18 c18 k18
  have b18 := F18.binds (ps := ["many", "value"]) fun _ _ _ _ _ _ us hl => match us, hl with | [_, _], _ => rfl
  have d18 : ∀ base : Heap, DefOk l.prog w K mg base GG FU FS BS "wrong_in_shares" fn_wrong_in_shares := fun base => ⟨_, _, _, PySem.W.mg_of X G a18, k18, b18, rfl, (fa_cons (fun hf => absurd hf (by decide +kernel)) (fa_cons (fun hf => absurd hf (by decide +kernel)) fa_nil)), fun Φ k wd => ok_wrong_in_shares F18 wd⟩
  have F19 := fun_mk (st := st_share_behind) l19 c19 k19
  have b19 := F19.binds (ps := ["table", "shares", "two"]) fun _ _ _ _ _ _ us hl => match us, hl with | [_, _, _], _ => rfl
  have d19 : ∀ base : Heap, DefOk l.prog w K mg base GG FU FS BS "share_behind" fn_share_behind := fun base => ⟨_, _, _, PySem.W.mg_of X G a19, k19, b19, rfl, (fa_cons (fun hf => absurd hf (by decide +kernel)) (fa_cons (fun hf => absurd hf (by decide +kernel)) fa_nil)), fun Φ k wd => ok_share_behind F19 wd⟩
  have F20 := fun_mk (st := st_led_once) l20 c20 k20
  have b20 := F20.binds (ps := ["table", "shares"]) fun _ _ _ _ _ _ us hl => match us, hl with | [_, _], _ => rfl
  have d20 : ∀ base : Heap, DefOk l.prog w K mg base GG FU FS BS "led_once" fn_led_once := fun base => ⟨_, _, _, PySem.W.mg_of X G a20, k20, b20, rfl, (fa_cons (fun hf => absurd hf (by decide +kernel)) (fa_cons (fun hf => absurd hf (by decide +kernel)) fa_nil)), fun Φ k wd => ok_led_once F20 wd⟩
  have F21 := fun_mk (st := st_led_by) l21 c21 k21
  have b21 := F21.binds (ps := ["table", "shares", "times"]) fun _ _ _ _ _ _ us hl => match us, hl with | [_, _, _], _ => rfl
  have d21 : ∀ base : Heap, DefOk l.prog w K mg base GG FU FS BS "led_by" fn_led_by := fun base => ⟨_, _, _, PySem.W.mg_of X G a21, k21, b21, rfl, (fa_cons (fun hf => absurd hf (by decide +kernel)) (fa_cons (fun hf => absurd hf (by decide +kernel)) fa_nil)), fun Φ k wd => ok_led_by F21 wd⟩
  have F22 := fun_mk (st := st_check_table) l22 c22 k22
  have b22 := F22.binds (ps := ["value"]) fun _ _ _ _ _ _ us hl => match us, hl with | [_], _ => rfl
  have d22 : ∀ base : Heap, DefOk l.prog w K mg base GG FU FS BS "check_table" fn_check_table := fun base => ⟨_, _, _, PySem.W.mg_of X G a22, k22, b22, rfl, (fa_cons (fun hf => absurd hf (by decide +kernel)) (fa_cons (fun hf => absurd hf (by decide +kernel)) fa_nil)), fun Φ k wd => ok_check_table F22 wd⟩
  have F23 := fun_mk (st := st_check_shares) l23 c23 k23
  have b23 := F23.binds (ps := ["table", "value"]) fun _ _ _ _ _ _ us hl => match us, hl with | [_, _], _ => rfl
  have d23 : ∀ base : Heap, DefOk l.prog w K mg base GG FU FS BS "check_shares" fn_check_shares := fun base => ⟨_, _, _, PySem.W.mg_of X G a23, k23, b23, rfl, (fa_cons (fun hf => absurd hf (by decide +kernel)) (fa_cons (fun hf => absurd hf (by decide +kernel)) fa_nil)), fun Φ k wd => ok_check_shares F23 wd⟩
  have F24 := fun_mk (st := st_check_times) l24 c24 k24
  have b24 := F24.binds (ps := ["value", "low", "high"]) fun _ _ _ _ _ _ us hl => match us, hl with | [_, _, _], _ => rfl
  have d24 : ∀ base : Heap, DefOk l.prog w K mg base GG FU FS BS "check_times" fn_check_times := fun base => ⟨_, _, _, PySem.W.mg_of X G a24, k24, b24, rfl, (fa_cons (fun hf => absurd hf (by decide +kernel)) (fa_cons (fun hf => absurd hf (by decide +kernel)) fa_nil)), fun Φ k wd => ok_check_times F24 wd⟩
  have F25 := fun_mk (st := st_apart_by) l25 c25 k25
  have b25 := F25.binds (ps := ["one", "two"]) fun _ _ _ _ _ _ us hl => match us, hl with | [_, _], _ => rfl
  have d25 : ∀ base : Heap, DefOk l.prog w K mg base GG FU FS BS "apart_by" fn_apart_by := fun base => ⟨_, _, _, PySem.W.mg_of X G a25, k25, b25, rfl, (fa_cons (fun hf => absurd hf (by decide +kernel)) (fa_cons (fun hf => absurd hf (by decide +kernel)) fa_nil)), fun Φ k wd => ok_apart_by F25 wd⟩
  have F26 := fun_mk (st := st_chances_from) l26 c26 k26
  have b26 := F26.binds (ps := ["table", "one"]) fun _ _ _ _ _ _ us hl => match us, hl with | [_, _], _ => rfl
  have d26 : ∀ base : Heap, DefOk l.prog w K mg base GG FU FS BS "chances_from" fn_chances_from := fun base => ⟨_, _, _, PySem.W.mg_of X G a26, k26, b26, rfl, (fa_cons (fun hf => absurd hf (by decide +kernel)) (fa_cons (fun hf => absurd hf (by decide +kernel)) fa_nil)), fun Φ k wd => ok_chances_from F26 wd⟩
  have F27 := fun_mk (st := st_contraction_by) l27 c27 k27
  have b27 := F27.binds (ps := ["table"]) fun _ _ _ _ _ _ us hl => match us, hl with | [_], _ => rfl
  have d27 : ∀ base : Heap, DefOk l.prog w K mg base GG FU FS BS "contraction_by" fn_contraction_by := fun base => ⟨_, _, _, PySem.W.mg_of X G a27, k27, b27, rfl, (fa_cons (fun hf => absurd hf (by decide +kernel)) (fa_cons (fun hf => absurd hf (by decide +kernel)) fa_nil)), fun Φ k wd => ok_contraction_by F27 wd⟩
  have F28 := fun_mk (st := st_led) l28 c28 k28
  have b28 := F28.binds (ps := ["table", "shares", "times"]) fun _ _ _ _ _ _ us hl => match us, hl with | [_, _, _], _ => rfl
  have d28 : ∀ base : Heap, DefOk l.prog w K mg base GG FU FS BS "led" fn_led := fun base => ⟨_, _, _, PySem.W.mg_of X G a28, k28, b28, rfl, (fa_cons (fun hf => absurd hf (by decide +kernel)) (fa_cons (fun hf => absurd hf (by decide +kernel)) fa_nil)), fun Φ k wd => ok_led F28 wd⟩
  have F29 := fun_mk (st := st_apart) l29 c29 k29
  have b29 := F29.binds (ps := ["table", "shares", "other_shares"]) fun _ _ _ _ _ _ us hl => match us, hl with | [_, _, _], _ => rfl
  have d29 : ∀ base : Heap, DefOk l.prog w K mg base GG FU FS BS "apart" fn_apart := fun base => ⟨_, _, _, PySem.W.mg_of X G a29, k29, b29, rfl, (fa_cons (fun _ => kb_ok F29 (List.cons_ne_nil _ _) fun _ _ _ _ _ _ us ws h1 h2 => match us, ws, h1, h2 with | [], [_, _, _], _, _ => rfl) (fa_cons (fun hf => absurd hf (by decide +kernel)) fa_nil)), fun Φ k wd => ok_apart F29 wd⟩
  have F30 := fun_mk (st := st_contraction) l30 c30 k30
  have b30 := F30.binds (ps := ["table"]) fun _ _ _ _ _ _ us hl => match us, hl with | [_], _ => rfl
  have d30 : ∀ base : Heap, DefOk l.prog w K mg base GG FU FS BS "contraction" fn_contraction := fun base => ⟨_, _, _, PySem.W.mg_of X G a30, k30, b30, rfl, (fa_cons (fun hf => absurd hf (by decide +kernel)) (fa_cons (fun _ => kb_ok F30 (List.cons_ne_nil _ _) fun _ _ _ _ _ _ us ws h1 h2 => match us, ws, h1, h2 with | [], [_], _, _ => rfl) fa_nil)), fun Φ k wd => ok_contraction F30 wd⟩
  have F31 := fun_mk (st := st__law_well) l31 c31 k31
  have b31 := F31.binds (ps := ["script", "lap"]) fun _ _ _ _ _ _ us hl => match us, hl with | [_, _], _ => rfl
  have d31 : ∀ base : Heap, DefOk l.prog w K mg base GG FU FS BS "_law_well" fn__law_well := fun base => ⟨_, _, _, PySem.W.mg_of X G a31, k31, b31, rfl, (fa_cons (fun hf => absurd hf (by decide +kernel)) (fa_cons (fun hf => absurd hf (by decide +kernel)) fa_nil)), fun Φ k wd => ok__law_well F31 wd⟩
  have F32 := fun_mk (st := st__law_take) l32 c32 k32
  have b32 := F32.binds (ps := ["well", "many"]) fun _ _ _ _ _ _ us hl => match us, hl with | [_, _], _ => rfl
  have d32 : ∀ base : Heap, DefOk l.prog w K mg base GG FU FS BS "_law_take" fn__law_take := fun base => ⟨_, _, _, PySem.W.mg_of X G a32, k32, b32, rfl, (fa_cons (fun hf => absurd hf (by decide +kernel)) (fa_cons (fun hf => absurd hf (by decide +kernel)) fa_nil)), fun Φ k wd => ok__law_take F32 wd⟩
  have F33 := fun_mk (st := st__law_of) l33 c33 k33
  have b33 := F33.binds (ps := ["well", "things"]) fun _ _ _ _ _ _ us hl => match us, hl with | [_, _], _ => rfl
  have d33 : ∀ base : Heap, DefOk l.prog w K mg base GG FU FS BS "_law_of" fn__law_of := fun base => ⟨_, _, _, PySem.W.mg_of X G a33, k33, b33, rfl, (fa_cons (fun hf => absurd hf (by decide +kernel)) (fa_cons (fun hf => absurd hf (by decide +kernel)) fa_nil)), fun Φ k wd => ok__law_of F33 wd⟩
  have F34 := fun_mk (st := st__law_same) l34 c34 k34
  have b34 := F34.binds (ps := ["told", "due"]) fun _ _ _ _ _ _ us hl => match us, hl with | [_, _], _ => rfl
  have d34 : ∀ base : Heap, DefOk l.prog w K mg base GG FU FS BS "_law_same" fn__law_same := fun base => ⟨_, _, _, PySem.W.mg_of X G a34, k34, b34, rfl, (fa_cons (fun hf => absurd hf (by decide +kernel)) (fa_cons (fun hf => absurd hf (by decide +kernel)) fa_nil)), fun Φ k wd => ok__law_same F34 wd⟩
  have F35 := fun_mk (st := st__law_part) l35 c35 k35
  have b35 := F35.binds (ps := ["one", "two"]) fun _ _ _ _ _ _ us hl => match us, hl with | [_, _], _ => rfl
  have d35 : ∀ base : Heap, DefOk l.prog w K mg base GG FU FS BS "_law_part" fn__law_part := fun base => ⟨_, _, _, PySem.W.mg_of X G a35, k35, b35, rfl, (fa_cons (fun hf => absurd hf (by decide +kernel)) (fa_cons (fun hf => absurd hf (by decide +kernel)) fa_nil)), fun Φ k wd => ok__law_part F35 wd⟩
  have F36 := fun_mk (st := st__law_plus) l36 c36 k36
  have b36 := F36.binds (ps := ["one", "two"]) fun _ _ _ _ _ _ us hl => match us, hl with | [_, _], _ => rfl
  have d36 : ∀ base : Heap, DefOk l.prog w K mg base GG FU FS BS "_law_plus" fn__law_plus := fun base => ⟨_, _, _, PySem.W.mg_of X G a36, k36, b36, rfl, (fa_cons (fun hf => absurd hf (by decide +kernel)) (fa_cons (fun hf => absurd hf (by decide +kernel)) fa_nil)), fun Φ k wd => ok__law_plus F36 wd⟩
  have F37 := fun_mk (st := st__law_less) l37 c37 k37
  have b37 := F37.binds (ps := ["one", "two"]) fun _ _ _ _ _ _ us hl => match us, hl with | [_, _], _ => rfl
  have d37 : ∀ base : Heap, DefOk l.prog w K mg base GG FU FS BS "_law_less" fn__law_less := fun base => ⟨_, _, _, PySem.W.mg_of X G a37, k37, b37, rfl, (fa_cons (fun hf => absurd hf (by decide +kernel)) (fa_cons (fun hf => absurd hf (by decide +kernel)) fa_nil)), fun Φ k wd => ok__law_less F37 wd⟩
  have F38 := fun_mk (st := st__law_by) l38 c38 k38
  have b38 := F38.binds (ps := ["one", "two"]) fun _ _ _ _ _ _ us hl => match us, hl with | [_, _], _ => rfl
  have d38 : ∀ base : Heap, DefOk l.prog w K mg base GG FU FS BS "_law_by" fn__law_by := fun base => ⟨_, _, _, PySem.W.mg_of X G a38, k38, b38, rfl, (fa_cons (fun hf => absurd hf (by decide +kernel)) (fa_cons (fun hf => absurd hf (by decide +kernel)) fa_nil)), fun Φ k wd => ok__law_by F38 wd⟩
  have F39 := fun_mk (st := st__law_is_below) l39 c39 k39
  have b39 := F39.binds (ps := ["one", "two"]) fun _ _ _ _ _ _ us hl => match us, hl with | [_, _], _ => rfl
  have d39 : ∀ base : Heap, DefOk l.prog w K mg base GG FU FS BS "_law_is_below" fn__law_is_below := fun base => ⟨_, _, _, PySem.W.mg_of X G a39, k39, b39, rfl, (fa_cons (fun hf => absurd hf (by decide +kernel)) (fa_cons (fun hf => absurd hf (by decide +kernel)) fa_nil)), fun Φ k wd => ok__law_is_below F39 wd⟩
  have F40 := fun_mk (st := st__law_table) l40 c40 k40
  have b40 := F40.binds (ps := ["well", "most"]) fun _ _ _ _ _ _ us hl => match us, hl with | [_, _], _ => rfl
  have d40 : ∀ base : Heap, DefOk l.prog w K mg base GG FU FS BS "_law_table" fn__law_table := fun base => ⟨_, _, _, PySem.W.mg_of X G a40, k40, b40, rfl, (fa_cons (fun hf => absurd hf (by decide +kernel)) (fa_cons (fun hf => absurd hf (by decide +kernel)) fa_nil)), fun Φ k wd => ok__law_table F40 wd⟩
  have F41 := fun_mk (st := st__law_chance) l41 c41 k41
  have b41 := F41.binds (ps := ["table", "one", "two"]) fun _ _ _ _ _ _ us hl => match us, hl with | [_, _, _], _ => rfl
  have d41 : ∀ base : Heap, DefOk l.prog w K mg base GG FU FS BS "_law_chance" fn__law_chance := fun base => ⟨_, _, _, PySem.W.mg_of X G a41, k41, b41, rfl, (fa_cons (fun hf => absurd hf (by decide +kernel)) (fa_cons (fun hf => absurd hf (by decide +kernel)) fa_nil)), fun Φ k wd => ok__law_chance F41 wd⟩
  have F42 := fun_mk (st := st__law_apart) l42 c42 k42
  have b42 := F42.binds (ps := ["one", "two"]) fun _ _ _ _ _ _ us hl => match us, hl with | [_, _], _ => rfl
  have d42 : ∀ base : Heap, DefOk l.prog w K mg base GG FU FS BS "_law_apart" fn__law_apart := fun base => ⟨_, _, _, PySem.W.mg_of X G a42, k42, b42, rfl, (fa_cons (fun hf => absurd hf (by decide +kernel)) (fa_cons (fun hf => absurd hf (by decide +kernel)) fa_nil)), fun Φ k wd => ok__law_apart F42 wd⟩
  have F43 := fun_mk (st := st__law_shares) l43 c43 k43
  have b43 := F43.binds (ps := ["well", "many"]) fun _ _ _ _ _ _ us hl => match us, hl with | [_, _], _ => rfl
  have d43 : ∀ base : Heap, DefOk l.prog w K mg base GG FU FS BS "_law_shares" fn__law_shares := fun base => ⟨_, _, _, PySem.W.mg_of X G a43, k43, b43, rfl, (fa_cons (fun hf => absurd hf (by decide +kernel)) (fa_cons (fun hf => absurd hf (by decide +kernel)) fa_nil)), fun Φ k wd => ok__law_shares F43 wd⟩
  have F44 := fun_mk (st := st__law_contraction) l44 c44 k44
  have b44 := F44.binds (ps := ["table"]) fun _ _ _ _ _ _ us hl => match us, hl with | [_], _ => rfl
  have d44 : ∀ base : Heap, DefOk l.prog w K mg base GG FU FS BS "_law_contraction" fn__law_contraction := fun base => ⟨_, _, _, PySem.W.mg_of X G a44, k44, b44, rfl, (fa_cons (fun hf => absurd hf (by decide +kernel)) (fa_cons (fun hf => absurd hf (by decide +kernel)) fa_nil)), fun Φ k wd => ok__law_contraction F44 wd⟩
  have F45 := fun_mk (st := st__law_is_told) l45 c45 k45
  have b45 := F45.binds (ps := ["well", "table"]) fun _ _ _ _ _ _ us hl => match us, hl with | [_, _], _ => rfl
  have d45 : ∀ base : Heap, DefOk l.prog w K mg base GG FU FS BS "_law_is_told" fn__law_is_told := fun base => ⟨_, _, _, PySem.W.mg_of X G a45, k45, b45, rfl, (fa_cons (fun hf => absurd hf (by decide +kernel)) (fa_cons (fun hf => absurd hf (by decide +kernel)) fa_nil)), fun Φ k wd => ok__law_is_told F45 wd⟩
  have F46 := fun_mk (st := st__law_right) l46 c46 k46
  have b46 := F46.binds (ps := ["well"]) fun _ _ _ _ _ _ us hl => match us, hl with | [_], _ => rfl
  have d46 : ∀ base : Heap, DefOk l.prog w K mg base GG FU FS BS "_law_right" fn__law_right := fun base => ⟨_, _, _, PySem.W.mg_of X G a46, k46, b46, rfl, (fa_cons (fun hf => absurd hf (by decide +kernel)) (fa_cons (fun hf => absurd hf (by decide +kernel)) fa_nil)), fun Φ k wd => ok__law_right F46 wd⟩
  have F47 := fun_mk (st := st_law) l47 c47 k47
  have b47 := F47.binds (ps := ["script"]) fun _ _ _ _ _ _ us hl => match us, hl with | [_], _ => rfl
  have d47 : ∀ base : Heap, DefOk l.prog w K mg base GG FU FS BS "law" fn_law := fun base => ⟨_, _, _, PySem.W.mg_of X G a47, k47, b47, rfl, (fa_cons (fun hf => absurd hf (by decide +kernel)) (fa_cons (fun hf => absurd hf (by decide +kernel)) fa_nil)), fun Φ k wd => ok_law F47 wd⟩
  have al : ∀ base : Heap, ∀ p, p ∈ TT → DefOk l.prog w K mg base GG FU FS BS p.1 p.2 := fun base => (fa_cons (d0 base) (fa_cons (d1 base) (fa_cons (d2 base) (fa_cons (d3 base) (fa_cons (d4 base) (fa_cons (d5 base) (fa_cons (d6 base) (fa_cons (d7 base) (fa_cons (d8 base) (fa_cons (d9 base) (fa_cons (d10 base) (fa_cons (d11 base) (fa_cons (d12 base) (fa_cons (d13 base) (fa_cons (d14 base) (fa_cons (d15 base) (fa_cons (d16 base) (fa_cons (d17 base) (fa_cons (d18 base) (fa_cons (d19 base) (fa_cons (d20 base) (fa_cons (d21 base) (fa_cons (d22 base) (fa_cons (d23 base) (fa_cons (d24 base) (fa_cons (d25 base) (fa_cons (d26 base) (fa_cons (d27 base) (fa_cons (d28 base) (fa_cons (d29 base) (fa_cons (d30 base) (fa_cons (d31 base) (fa_cons (d32 base) (fa_cons (d33 base) (fa_cons (d34 base) (fa_cons (d35 base) (fa_cons (d36 base) (fa_cons (d37 base) (fa_cons (d38 base) (fa_cons (d39 base) (fa_cons (d40 base) (fa_cons (d41 base) (fa_cons (d42 base) (fa_cons (d43 base) (fa_cons (d44 base) (fa_cons (d45 base) (fa_cons (d46 base) (fa_cons (d47 base) fa_nil))))))))))))))))))))))))))))))))))))))))))))))))
  have gl : ∀ x d, GG x = some d → ∃ v u, mg x = some u ∧ RelV v u ∧ ∀ F, Den K mg F d v := fun x d e => lookup_all (Q := fun x d => ∃ v u, mg x = some u ∧ RelV v u ∧ ∀ F, Den K mg F d v) (fa_cons (gl_tup (its := [.int 1 t0_0, .int 2 t0_1]) (vs := [.int 1, .int 2]) (PySem.W.mg_of X G gv0) gw0 (Nat.le_of_ble_eq_true rfl) (.cons ⟨_, rfl⟩ (.cons ⟨_, rfl⟩ .nil)) (fun F => (Dens.cons denI (Dens.cons denI Dens.nil)))) (fa_cons (gl_int (PySem.W.mg_of X G gv1)) (fa_cons (gl_int (PySem.W.mg_of X G gv2)) (fa_cons (gl_int (PySem.W.mg_of X G gv3)) (fa_cons (gl_tup (its := [.int 1 t4_0, .int 1 t4_1]) (vs := [.int 1, .int 1]) (PySem.W.mg_of X G gv4) gw4 (Nat.le_of_ble_eq_true rfl) (.cons ⟨_, rfl⟩ (.cons ⟨_, rfl⟩ .nil)) (fun F => (Dens.cons denI (Dens.cons denI Dens.nil)))) (fa_cons (gl_tup (its := [.int 0 t5_0, .int 1 t5_1]) (vs := [.int 0, .int 1]) (PySem.W.mg_of X G gv5) gw5 (Nat.le_of_ble_eq_true rfl) (.cons ⟨_, rfl⟩ (.cons ⟨_, rfl⟩ .nil)) (fun F => (Dens.cons denI (Dens.cons denI Dens.nil)))) (fa_cons (gl_fn (PySem.W.mg_of X G a17)) fa_nil))))))) e
  have bl : ∀ x, x ∈ BS → mg x = none := (fa_cons (PySem.W.mg_none_of X G z0) (fa_cons (PySem.W.mg_none_of X G z1) (fa_cons (PySem.W.mg_none_of X G z2) (fa_cons (PySem.W.mg_none_of X G z3) (fa_cons (PySem.W.mg_none_of X G z4) (fa_cons (PySem.W.mg_none_of X G z5) (fa_cons (PySem.W.mg_none_of X G z6) (fa_cons (PySem.W.mg_none_of X G z7) (fa_cons (PySem.W.mg_none_of X G z8) (fa_cons (PySem.W.mg_none_of X G z9) (fa_cons (PySem.W.mg_none_of X G z10) (fa_cons (PySem.W.mg_none_of X G z11) (fa_cons (PySem.W.mg_none_of X G z12) (fa_cons (PySem.W.mg_none_of X G z13) (fa_cons (PySem.W.mg_none_of X G z14) (fa_cons (PySem.W.mg_none_of X G z15) (fa_cons (PySem.W.mg_none_of X G z16) (fa_cons (PySem.W.mg_none_of X G z17) fa_nil))))))))))))))))))
  refine ⟨PySem.W.fnOf "law" "law" (defArgs st_law) (defBody st_law) (defScope st_law) .none kV47 dc47 pm47 an47 cd47 ct47, fun s v => .of_eq rfl, fun base _ _ => ?_⟩
  have wd := all_ok (T := TT) (kw := FS.kw) (by decide +kernel) (al base) gl bl (.inr mgc) 40
  exact (ok_law F47 wd).imp (law_imp pure_law)
end Law
open PySem PySem.W PyProof.Rows
set_option maxHeartbeats 0 in
theorem PySem.Challenge.cw_steadytrees_k37_whole_nearness_and_contr_holds : PySem.Challenge.rw_steadytrees_k37_whole_nearness_and_contr.Holds := by
  w_on; o_law; k_head; (case hw => w_witness2)
  k_fill
  refine L2.walk_of (l := PySem.Challenge.rw_steadytrees_k37_whole_nearness_and_contr) (n := 63) (k := 41) (x := "script") (CX := fun w => L2.CX PySem.Challenge.rw_steadytrees_k37_whole_nearness_and_contr.prog w) (sp := fun w => Eng.spLaw _ 63) rfl (by decide) rfl ⟨rfl, by decide, by decide⟩ (fun w h Y => PySem.W.kIn_of Y) ?F (fun _ _ a ns hl _ hS => ⟨a, ns, rfl, hS, hl, fun _ => rfl⟩) (fun _ _ _ _ _ h => Eng.CX_none h)
  case F =>
    intro w mg fa h KX G hmg
    refine' Law.all_mk KX G hmg ?a0 ?l0 ?c0 ?k0 ?a1 ?l1 ?c1 ?k1 ?a2 ?l2 ?c2 ?k2 ?a3 ?l3 ?c3 ?k3 ?a4 ?l4 ?c4 ?k4 ?a5 ?l5 ?c5 ?k5 ?a6 ?l6 ?c6 ?k6 ?a7 ?l7 ?c7 ?k7 ?a8 ?l8 ?c8 ?k8 ?a9 ?l9 ?c9 ?k9 ?a10 ?l10 ?c10 ?k10 ?a11 ?l11 ?c11 ?k11 ?a12 ?l12 ?c12 ?k12 ?a13 ?l13 ?c13 ?k13 ?a14 ?l14 ?c14 ?k14 ?a15 ?l15 ?c15 ?k15 ?a16 ?l16 ?c16 ?k16 ?a17 ?l17 ?c17 ?k17 ?a18 ?l18 ?c18 ?k18 ?a19 ?l19 ?c19 ?k19 ?a20 ?l20 ?c20 ?k20 ?a21 ?l21 ?c21 ?k21 ?a22 ?l22 ?c22 ?k22 ?a23 ?l23 ?c23 ?k23 ?a24 ?l24 ?c24 ?k24 ?a25 ?l25 ?c25 ?k25 ?a26 ?l26 ?c26 ?k26 ?a27 ?l27 ?c27 ?k27 ?a28 ?l28 ?c28 ?k28 ?a29 ?l29 ?c29 ?k29 ?a30 ?l30 ?c30 ?k30 ?a31 ?l31 ?c31 ?k31 ?a32 ?l32 ?c32 ?k32 ?a33 ?l33 ?c33 ?k33 ?a34 ?l34 ?c34 ?k34 ?a35 ?l35 ?c35 ?k35 ?a36 ?l36 ?c36 ?k36 ?a37 ?l37 ?c37 ?k37 ?a38 ?l38 ?c38 ?k38 ?a39 ?l39 ?c39 ?k39 ?a40 ?l40 ?c40 ?k40 ?a41 ?l41 ?c41 ?k41 ?a42 ?l42 ?c42 ?k42 ?a43 ?l43 ?c43 ?k43 ?a44 ?l44 ?c44 ?k44 ?a45 ?l45 ?c45 ?k45 ?a46 ?l46 ?c46 ?k46 ?a47 ?l47 ?c47 ?k47 ?z0 ?z1 ?z2 ?z3 ?z4 ?z5 ?z6 ?z7 ?z8 ?z9 ?z10 ?z11 ?z12 ?z13 ?z14 ?z15 ?z16 ?z17 ?gv0 ?gw0 ?gv1 ?gv2 ?gv3 ?gv4 ?gw4 ?gv5 ?gw5 ?gc
    (case a0 => k_is)
    (case l0 => k_is)
    (case c0 => k_is)
    (case k0 => k_is)
    (case a1 => k_is)
    (case l1 => k_is)
    (case c1 => k_is)
    (case k1 => k_is)
    (case a2 => k_is)
    (case l2 => k_is)
    (case c2 => k_is)
    (case k2 => k_is)
    (case a3 => k_is)
    (case l3 => k_is)
    (case c3 => k_is)
    (case k3 => k_is)
    (case a4 => k_is)
    (case l4 => k_is)
    (case c4 => k_is)
    (case k4 => k_is)
    (case a5 => k_is)
    (case l5 => k_is)
    (case c5 => k_is)
    (case k5 => k_is)
    (case a6 => k_is)
    (case l6 => k_is)
    (case c6 => k_is)
    (case k6 => k_is)
    (case a7 => k_is)
    (case l7 => k_is)
    (case c7 => k_is)
    (case k7 => k_is)
    (case a8 => k_is)
    (case l8 => k_is)
    (case c8 => k_is)
    (case k8 => k_is)
    (case a9 => k_is)
    (case l9 => k_is)
    (case c9 => k_is)
    (case k9 => k_is)
    (case a10 => k_is)
    (case l10 => k_is)
    (case c10 => k_is)
    (case k10 => k_is)
    (case a11 => k_is)
    (case l11 => k_is)
    (case c11 => k_is)
    (case k11 => k_is)
    (case a12 => k_is)
    (case l12 => k_is)
    (case c12 => k_is)
    (case k12 => k_is)
    (case a13 => k_is)
    (case l13 => k_is)
    (case c13 => k_is)
    (case k13 => k_is)
    (case a14 => k_is)
    (case l14 => k_is)
    (case c14 => k_is)
    (case k14 => k_is)
    (case a15 => k_is)
    (case l15 => k_is)
    (case c15 => k_is)
    (case k15 => k_is)
    (case a16 => k_is)
    (case l16 => k_is)
    (case c16 => k_is)
    (case k16 => k_is)
    (case a17 => k_is)
    (case l17 => k_is)
    (case c17 => k_is)
    (case k17 => k_is)
    (case a18 => k_is)
    (case l18 => k_is)
    (case c18 => k_is)
    (case k18 => k_is)
    (case a19 => k_is)
    (case l19 => k_is)
    (case c19 => k_is)
    (case k19 => k_is)
    (case a20 => k_is)
    (case l20 => k_is)
    (case c20 => k_is)
    (case k20 => k_is)
    (case a21 => k_is)
    (case l21 => k_is)
    (case c21 => k_is)
    (case k21 => k_is)
    (case a22 => k_is)
    (case l22 => k_is)
    (case c22 => k_is)
    (case k22 => k_is)
    (case a23 => k_is)
    (case l23 => k_is)
    (case c23 => k_is)
    (case k23 => k_is)
    (case a24 => k_is)
    (case l24 => k_is)
    (case c24 => k_is)
    (case k24 => k_is)
    (case a25 => k_is)
    (case l25 => k_is)
    (case c25 => k_is)
    (case k25 => k_is)
    (case a26 => k_is)
    (case l26 => k_is)
    (case c26 => k_is)
    (case k26 => k_is)
    (case a27 => k_is)
    (case l27 => k_is)
    (case c27 => k_is)
    (case k27 => k_is)
    (case a28 => k_is)
    (case l28 => k_is)
    (case c28 => k_is)
    (case k28 => k_is)
    (case a29 => k_is)
    (case l29 => k_is)
    (case c29 => k_is)
    (case k29 => k_is)
    (case a30 => k_is)
    (case l30 => k_is)
    (case c30 => k_is)
    (case k30 => k_is)
    (case a31 => k_is)
    (case l31 => k_is)
    (case c31 => k_is)
    (case k31 => k_is)
    (case a32 => k_is)
    (case l32 => k_is)
    (case c32 => k_is)
    (case k32 => k_is)
    (case a33 => k_is)
    (case l33 => k_is)
    (case c33 => k_is)
    (case k33 => k_is)
    (case a34 => k_is)
    (case l34 => k_is)
    (case c34 => k_is)
    (case k34 => k_is)
    (case a35 => k_is)
    (case l35 => k_is)
    (case c35 => k_is)
    (case k35 => k_is)
    (case a36 => k_is)
    (case l36 => k_is)
    (case c36 => k_is)
    (case k36 => k_is)
    (case a37 => k_is)
    (case l37 => k_is)
    (case c37 => k_is)
    (case k37 => k_is)
    (case a38 => k_is)
    (case l38 => k_is)
    (case c38 => k_is)
    (case k38 => k_is)
    (case a39 => k_is)
    (case l39 => k_is)
    (case c39 => k_is)
    (case k39 => k_is)
    (case a40 => k_is)
    (case l40 => k_is)
    (case c40 => k_is)
    (case k40 => k_is)
    (case a41 => k_is)
    (case l41 => k_is)
    (case c41 => k_is)
    (case k41 => k_is)
    (case a42 => k_is)
    (case l42 => k_is)
    (case c42 => k_is)
    (case k42 => k_is)
    (case a43 => k_is)
    (case l43 => k_is)
    (case c43 => k_is)
    (case k43 => k_is)
    (case a44 => k_is)
    (case l44 => k_is)
    (case c44 => k_is)
    (case k44 => k_is)
    (case a45 => k_is)
    (case l45 => k_is)
    (case c45 => k_is)
    (case k45 => k_is)
    (case a46 => k_is)
    (case l46 => k_is)
    (case c46 => k_is)
    (case k46 => k_is)
    (case a47 => k_is)
    (case l47 => k_is)
    (case c47 => k_is)
    (case k47 => k_is)
    (case z0 => k_is)
    (case z1 => k_is)
    (case z2 => k_is)
    (case z3 => k_is)
    (case z4 => k_is)
    (case z5 => k_is)
    (case z6 => k_is)
    (case z7 => k_is)
    (case z8 => k_is)
    (case z9 => k_is)
    (case z10 => k_is)
    (case z11 => k_is)
    (case z12 => k_is)
    (case z13 => k_is)
    (case z14 => k_is)
    (case z15 => k_is)
    (case z16 => k_is)
    (case z17 => k_is)
    (case gv0 => k_is)
    (case gw0 => k_is)
    (case gv1 => k_is)
    (case gv2 => k_is)
    (case gv3 => k_is)
    (case gv4 => k_is)
    (case gw4 => k_is)
    (case gv5 => k_is)
    (case gw5 => k_is)
    (case gc => k_is)
