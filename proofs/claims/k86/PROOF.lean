import PyProof.Rows.All
import Wide.All
import OpenK.AllK
import Wide.FinOn
import HandS.ForMost
import HandS.ForExc
import HandS.Conv
import HandS.IsInst
import HandS.Wide
import HandS.Flow
import HandS.AnyAll
import HandS.HeadHook4
import HandS.SortInts
import HandS.TryOnly
import HandS.NoneIn
import HandS.TupAny
import HandS.Defaults
import HandS.More
import HandS.Head0
import HandS.Head1
import HandS.Head2
import HandS.HeadEnd
import HandS.HeadHook1
import HandS.HeadHook2
import HandS.EndTab
import HandS.Property
import HandS.GenOver
import HandS.Text
import HandS.StrMore
import PySem.Challenge.RW_clockless_k86_tidied_netlists
set_option Elab.async false
set_option linter.all false
set_option maxRecDepth 100000
set_option maxHeartbeats 0
namespace Q
open PySem PySem.Spec PyProof.Rows L2
/-- the defs whose tables may grow -/
def tabDefs : List He.Defn := [("is_name", none), ("is_code", none), ("is_cube", none), ("are_cubes", none)]
end Q

namespace Q
open PySem PySem.Spec PyProof.Rows L2

/-! ### what is kept: all but the tables, which may grow -/
def kept (H' : Hp) (a : Addr) : HO → Prop
  | .tbl ps => ∃ qs, H' a = some (.tbl qs) ∧ (TriplesOk ps.toList → TriplesOk qs.toList)
  | o => H' a = some o
def Same (H H' : Hp) : Prop := ∀ b o, H b = some o → kept H' b o
def isTb : HO → Bool
  | .tbl _ => true
  | _ => false
theorem kept_of {H' : Hp} {a : Addr} {o : HO} (h : H' a = some o) : kept H' a o := by
  cases o <;> first | exact h | exact ⟨_, h, fun z => z⟩
theorem kept_eq {H' : Hp} {a : Addr} {o : HO} (h : kept H' a o) (n : isTb o = false) : H' a = some o := by
  cases o <;> first | exact h | cases n
theorem kept_ne {H' : Hp} {a : Addr} {o : HO} (h : kept H' a o) : H' a ≠ none := by
  cases o <;> first | (rw [show H' a = some _ from h]; simp) | (obtain ⟨qs, e, _⟩ := h; rw [e]; simp)
theorem kept_tr {H' H2 : Hp} {a : Addr} {o : HO} (h : kept H' a o) (k : ∀ u, H' a = some u → kept H2 a u) : kept H2 a o := by
  cases o <;> first | exact k _ h | (obtain ⟨qs, e, h1⟩ := h; obtain ⟨rs, e2, h2⟩ := k _ e; exact ⟨rs, e2, fun z => h2 (h1 z)⟩)
theorem Same.of {H H' : Hp} (h : ∀ b o, H b = some o → H' b = some o) : Same H H' := fun b o q => kept_of (h b o q)
theorem Same.refl (H : Hp) : Same H H := .of fun _ _ h => h
theorem Same.trans {H H1 H2 : Hp} (a : Same H H1) (b : Same H1 H2) : Same H H2 := fun c o h => kept_tr (a c o h) fun u q => b c u q
theorem Same.free {H H' : Hp} (e : Same H H') {l : Addr} (h : H' l = Option.none) : H l = Option.none := by
  cases q : H l with
  | none => rfl
  | some o => exact absurd h (kept_ne (e _ _ q))
theorem Same.eq {H H' : Hp} (e : Same H H') {a : Addr} {o : HO} (h : H a = some o) (n : isTb o = false) : H' a = some o := kept_eq (e a o h) n
theorem Same.tab {H H' : Hp} (e : Same H H') {P : Addr} (h : GxR.TabG H P) : GxR.TabG H' P := by
  obtain ⟨ps, e1, t⟩ := h
  obtain ⟨qs, e2, k⟩ := e _ _ e1
  exact ⟨qs, e2, k t⟩

/-- data by value -/
inductive D where
  | non | bl (b : Bool) | int (i : Int) | str (x : Str)
  | tup (ds : List D) | lst (ds : List D)
  | dic (kvs : List (D × D)) | obj (c : Str) (fs : List (Str × D))
  | scr (ns : List Int)

/-- what a slot may own -/
inductive O where
  | fz (d : D) | ls (ds : List D) | ns (os : List O) | ob (c : Str) (fs : List (Str × O)) | dc (kvs : List (D × D))

structure Gx where
  K : PySem.W.Frag
  mg : Str → Option Value

def keyD : Key → D
  | .inl i => .int i
  | .inr x => .str x

mutual
def RepD (G : Gx) (B : Hp) : D → V → Prop
  | .non, v => v = .non
  | .bl b, v => v = .bl b
  | .int i, v => v = .int i
  | .str x, v => v = .str x
  | .tup ds, v => ∃ a vs, v = .ref a ∧ SqT G.K B a vs ∧ RepDs G B ds vs
  | .lst ds, v => ∃ a vs, v = .ref a ∧ B a = some (.lst vs) ∧ RepDs G B ds vs
  | .dic kvs, v => ∃ a ps, v = .ref a ∧ B a = some (.dK ps) ∧ RepKs G B kvs ps
  | .obj c fs, v => ∃ a C dx vs, v = .ref a ∧ G.mg c = some (.ref C) ∧ B a = some (.ins C dx vs) ∧ RepFs G B fs vs
  | .scr ns, v => ∃ a, v = .ref a ∧ SqL G.K B a (ns.map V.int)
def RepDs (G : Gx) (B : Hp) : List D → List V → Prop
  | [], vs => vs = []
  | d :: ds, vs => ∃ v r, vs = v :: r ∧ RepD G B d v ∧ RepDs G B ds r
def RepKs (G : Gx) (B : Hp) : List (D × D) → List (Key × V) → Prop
  | [], ps => ps = []
  | (k, d) :: ds, ps => ∃ q v r, ps = (q, v) :: r ∧ k = keyD q ∧ RepD G B d v ∧ RepKs G B ds r
def RepFs (G : Gx) (B : Hp) : List (Str × D) → List (Str × V) → Prop
  | [], ps => ps = []
  | (f, d) :: ds, ps => ∃ v r, ps = (f, v) :: r ∧ RepD G B d v ∧ RepFs G B ds r
end

theorem Same.sqT {K : PySem.W.Frag} {H H' : Hp} {a : Addr} {xs : List V} (e : Same H H') (h : SqT K H a xs) : SqT K H' a xs := by
  rcases h with (h | ⟨o, h⟩) | h
  · exact .inl (.inl (e _ _ h))
  · exact .inl (.inr ⟨o, e _ _ h⟩)
  · exact .inr h
theorem Same.sqL {K : PySem.W.Frag} {H H' : Hp} {a : Addr} {xs : List V} (e : Same H H') (h : SqL K H a xs) : SqL K H' a xs := by
  rcases h with (h | ⟨o, h⟩) | h
  · exact .inl (.inl (e _ _ h))
  · exact .inl (.inr ⟨o, e _ _ h⟩)
  · exact .inr h

section mono
variable {G : Gx} {B B' : Hp} (e : Same B B')
include e
mutual
theorem RepD.mono : ∀ {d : D} {v : V}, RepD G B d v → RepD G B' d v
  | .non, v, h => h
  | .bl _, v, h => h
  | .int _, v, h => h
  | .str _, v, h => h
  | .tup ds, v, h => by
    simp only [RepD] at h ⊢
    obtain ⟨a, vs, h1, h2, h3⟩ := h
    exact ⟨a, vs, h1, Same.sqT e h2, RepDs.mono h3⟩
  | .lst ds, v, h => by
    simp only [RepD] at h ⊢
    obtain ⟨a, vs, h1, h2, h3⟩ := h
    exact ⟨a, vs, h1, e _ _ h2, RepDs.mono h3⟩
  | .dic ds, v, h => by
    simp only [RepD] at h ⊢
    obtain ⟨a, vs, h1, h2, h3⟩ := h
    exact ⟨a, vs, h1, e _ _ h2, RepKs.mono h3⟩
  | .obj c fs, v, h => by
    simp only [RepD] at h ⊢
    obtain ⟨a, C, dx, vs, h1, h2, h3, h4⟩ := h
    exact ⟨a, C, dx, vs, h1, h2, e _ _ h3, RepFs.mono h4⟩
  | .scr ns, v, h => by
    simp only [RepD] at h ⊢
    obtain ⟨a, h1, h2⟩ := h
    exact ⟨a, h1, Same.sqL e h2⟩
theorem RepDs.mono : ∀ {ds : List D} {vs : List V}, RepDs G B ds vs → RepDs G B' ds vs
  | [], vs, h => h
  | d :: ds, vs, h => by
    simp only [RepDs] at h ⊢
    obtain ⟨v, r, h1, h2, h3⟩ := h
    exact ⟨v, r, h1, RepD.mono h2, RepDs.mono h3⟩
theorem RepKs.mono : ∀ {ds : List (D × D)} {vs : List (Key × V)}, RepKs G B ds vs → RepKs G B' ds vs
  | [], vs, h => h
  | (k, d) :: ds, vs, h => by
    simp only [RepKs] at h ⊢
    obtain ⟨q, v, r, h1, hk, h2, h3⟩ := h
    exact ⟨q, v, r, h1, hk, RepD.mono h2, RepKs.mono h3⟩
theorem RepFs.mono : ∀ {ds : List (Str × D)} {vs : List (Str × V)}, RepFs G B ds vs → RepFs G B' ds vs
  | [], vs, h => h
  | (k, d) :: ds, vs, h => by
    simp only [RepFs] at h ⊢
    obtain ⟨v, r, h1, h2, h3⟩ := h
    exact ⟨v, r, h1, RepD.mono h2, RepFs.mono h3⟩
end
end mono

section lists
variable {G : Gx} {B : Hp}
theorem RepDs.length : ∀ {ds : List D} {vs : List V}, RepDs G B ds vs → vs.length = ds.length
  | [], vs, h => by simp only [RepDs] at h; subst h; rfl
  | d :: ds, vs, h => by
    simp only [RepDs] at h
    obtain ⟨v, r, rfl, h2, h3⟩ := h
    simp [RepDs.length h3]
theorem RepDs.get : ∀ {ds : List D} {vs : List V} {i : Nat} {d : D}, RepDs G B ds vs → ds[i]? = some d → ∃ v, vs[i]? = some v ∧ RepD G B d v
  | [], vs, i, d, h, e => by simp at e
  | x :: ds, vs, 0, d, h, e => by
    simp only [RepDs] at h
    obtain ⟨v, r, rfl, h2, h3⟩ := h
    simp at e; subst e
    exact ⟨v, by simp, h2⟩
  | x :: ds, vs, i + 1, d, h, e => by
    simp only [RepDs] at h
    obtain ⟨v, r, rfl, h2, h3⟩ := h
    obtain ⟨w, e1, e2⟩ := RepDs.get (i := i) (d := d) h3 (by simpa using e)
    exact ⟨w, by simpa using e1, e2⟩
theorem RepDs.append : ∀ {ds es : List D} {vs ws : List V}, RepDs G B ds vs → RepDs G B es ws → RepDs G B (ds ++ es) (vs ++ ws)
  | [], es, vs, ws, h, k => by simp only [RepDs] at h; subst h; exact k
  | d :: ds, es, vs, ws, h, k => by
    simp only [RepDs] at h
    obtain ⟨v, r, rfl, h2, h3⟩ := h
    exact ⟨v, r ++ ws, rfl, h2, RepDs.append h3 k⟩
theorem RepDs.take : ∀ {ds : List D} {vs : List V} (n : Nat), RepDs G B ds vs → RepDs G B (ds.take n) (vs.take n)
  | ds, vs, 0, h => by simp [RepDs]
  | [], vs, n + 1, h => by simp only [RepDs] at h; subst h; simp [RepDs]
  | d :: ds, vs, n + 1, h => by
    simp only [RepDs] at h
    obtain ⟨v, r, rfl, h2, h3⟩ := h
    exact ⟨v, r.take n, rfl, h2, RepDs.take n h3⟩
theorem RepDs.drop : ∀ {ds : List D} {vs : List V} (n : Nat), RepDs G B ds vs → RepDs G B (ds.drop n) (vs.drop n)
  | ds, vs, 0, h => h
  | [], vs, n + 1, h => by simp only [RepDs] at h; subst h; simp [RepDs]
  | d :: ds, vs, n + 1, h => by
    simp only [RepDs] at h
    obtain ⟨v, r, rfl, h2, h3⟩ := h
    exact RepDs.drop n h3
theorem RepDs.set : ∀ {ds : List D} {vs : List V} {d : D} {v : V} (i : Nat), RepDs G B ds vs → RepD G B d v → RepDs G B (ds.set i d) (vs.set i v)
  | [], vs, d, v, i, h, k => by simp only [RepDs] at h; subst h; simp [RepDs]
  | x :: ds, vs, d, v, 0, h, k => by
    simp only [RepDs] at h
    obtain ⟨w, r, rfl, h2, h3⟩ := h
    exact ⟨v, r, rfl, k, h3⟩
  | x :: ds, vs, d, v, i + 1, h, k => by
    simp only [RepDs] at h
    obtain ⟨w, r, rfl, h2, h3⟩ := h
    exact ⟨w, r.set i v, rfl, h2, RepDs.set i h3 k⟩
theorem RepDs.mem : ∀ {ds : List D} {vs : List V} {v : V}, RepDs G B ds vs → v ∈ vs → ∃ d ∈ ds, RepD G B d v
  | [], vs, v, h, k => by simp only [RepDs] at h; subst h; simp at k
  | x :: ds, vs, v, h, k => by
    simp only [RepDs] at h
    obtain ⟨w, r, rfl, h2, h3⟩ := h
    rcases List.mem_cons.mp k with rfl | k
    · exact ⟨x, by simp, h2⟩
    · obtain ⟨d, hd, q⟩ := RepDs.mem h3 k
      exact ⟨d, by simp [hd], q⟩
theorem RepDs.one {d : D} {v : V} (h : RepD G B d v) : RepDs G B [d] [v] := ⟨v, [], rfl, h, rfl⟩
theorem RepDs.nil : RepDs G B [] [] := rfl
theorem RepDs.cons {d : D} {v : V} {ds : List D} {vs : List V} (h : RepD G B d v) (t : RepDs G B ds vs) : RepDs G B (d :: ds) (v :: vs) := ⟨v, vs, rfl, h, t⟩
theorem RepDs.ints {ns : List Int} : RepDs G B (ns.map D.int) (ns.map V.int) := by
  induction ns with
  | nil => rfl
  | cons n ns ih => exact ⟨_, _, rfl, rfl, ih⟩
theorem RepDs.strs {ns : List Str} : RepDs G B (ns.map D.str) (ns.map V.str) := by
  induction ns with
  | nil => rfl
  | cons n ns ih => exact ⟨_, _, rfl, rfl, ih⟩
theorem RepDs.bls {ns : List Bool} : RepDs G B (ns.map D.bl) (ns.map V.bl) := by
  induction ns with
  | nil => rfl
  | cons n ns ih => exact ⟨_, _, rfl, rfl, ih⟩
end lists

/-! ### owned things -/
mutual
def RepO (G : Gx) (B H : Hp) : O → V → List Addr → Prop
  | .fz d, v, own => own = [] ∧ RepD G B d v
  | .ls ds, v, own => ∃ a vs, v = .ref a ∧ own = [a] ∧ H a = some (.lst vs) ∧ RepDs G B ds vs
  | .ns os, v, own => ∃ a vs ow, v = .ref a ∧ own = a :: ow ∧ H a = some (.lst vs) ∧ RepOs G B H os vs ow
  | .ob c fs, v, own => ∃ a C dx vs ow, v = .ref a ∧ own = a :: ow ∧ G.mg c = some (.ref C) ∧ H a = some (.ins C dx vs) ∧ RepOFs G B H fs vs ow
  | .dc kvs, v, own => ∃ a ps, v = .ref a ∧ own = [a] ∧ H a = some (.dK ps) ∧ RepKs G B kvs ps
def RepOs (G : Gx) (B H : Hp) : List O → List V → List Addr → Prop
  | [], vs, own => vs = [] ∧ own = []
  | o :: os, vs, own => ∃ v r o1 o2, vs = v :: r ∧ own = o1 ++ o2 ∧ RepO G B H o v o1 ∧ RepOs G B H os r o2
def RepOFs (G : Gx) (B H : Hp) : List (Str × O) → List (Str × V) → List Addr → Prop
  | [], vs, own => vs = [] ∧ own = []
  | (f, o) :: os, vs, own => ∃ v r o1 o2, vs = (f, v) :: r ∧ own = o1 ++ o2 ∧ RepO G B H o v o1 ∧ RepOFs G B H os r o2
end

section frame
variable {G : Gx} {B B' H H' : Hp} (e : Same B B')
include e
mutual
theorem RepO.frame : ∀ {o : O} {v : V} {own : List Addr}, (∀ a ∈ own, H' a = H a) → RepO G B H o v own → RepO G B' H' o v own
  | .fz d, v, own, k, h => by
    simp only [RepO] at h ⊢
    exact ⟨h.1, h.2.mono e⟩
  | .ls ds, v, own, k, h => by
    simp only [RepO] at h ⊢
    obtain ⟨a, vs, h1, h2, h3, h4⟩ := h
    exact ⟨a, vs, h1, h2, (k a (by simp [h2])).trans h3, h4.mono e⟩
  | .ns os, v, own, k, h => by
    simp only [RepO] at h ⊢
    obtain ⟨a, vs, ow, h1, h2, h3, h4⟩ := h
    exact ⟨a, vs, ow, h1, h2, (k a (by simp [h2])).trans h3, RepOs.frame (fun b hb => k b (by simp [h2, hb])) h4⟩
  | .ob c fs, v, own, k, h => by
    simp only [RepO] at h ⊢
    obtain ⟨a, C, dx, vs, ow, h1, h2, hc, h3, h4⟩ := h
    exact ⟨a, C, dx, vs, ow, h1, h2, hc, (k a (by simp [h2])).trans h3, RepOFs.frame (fun b hb => k b (by simp [h2, hb])) h4⟩
  | .dc kvs, v, own, k, h => by
    simp only [RepO] at h ⊢
    obtain ⟨a, vs, h1, h2, h3, h4⟩ := h
    exact ⟨a, vs, h1, h2, (k a (by simp [h2])).trans h3, h4.mono e⟩
theorem RepOs.frame : ∀ {os : List O} {vs : List V} {own : List Addr}, (∀ a ∈ own, H' a = H a) → RepOs G B H os vs own → RepOs G B' H' os vs own
  | [], vs, own, k, h => by simpa only [RepOs] using h
  | o :: os, vs, own, k, h => by
    simp only [RepOs] at h ⊢
    obtain ⟨v, r, o1, o2, h1, h2, h3, h4⟩ := h
    exact ⟨v, r, o1, o2, h1, h2, RepO.frame (fun b hb => k b (by simp [h2, hb])) h3, RepOs.frame (fun b hb => k b (by simp [h2, hb])) h4⟩
theorem RepOFs.frame : ∀ {os : List (Str × O)} {vs : List (Str × V)} {own : List Addr}, (∀ a ∈ own, H' a = H a) → RepOFs G B H os vs own → RepOFs G B' H' os vs own
  | [], vs, own, k, h => by simpa only [RepOFs] using h
  | (f, o) :: os, vs, own, k, h => by
    simp only [RepOFs] at h ⊢
    obtain ⟨v, r, o1, o2, h1, h2, h3, h4⟩ := h
    exact ⟨v, r, o1, o2, h1, h2, RepO.frame (fun b hb => k b (by simp [h2, hb])) h3, RepOFs.frame (fun b hb => k b (by simp [h2, hb])) h4⟩
end
end frame

mutual
def O.fr : O → D
  | .fz d => d
  | .ls ds => .lst ds
  | .ns os => .lst (O.frs os)
  | .ob c fs => .obj c (O.frf fs)
  | .dc kvs => .dic kvs
def O.frs : List O → List D
  | [] => []
  | o :: os => o.fr :: O.frs os
def O.frf : List (Str × O) → List (Str × D)
  | [] => []
  | (f, o) :: os => (f, o.fr) :: O.frf os
end
section freeze
variable {G : Gx} {B B' H : Hp} (e : Same B B')
include e
mutual
theorem RepO.freeze : ∀ {o : O} {v : V} {own : List Addr}, (∀ a ∈ own, B' a = H a) → RepO G B H o v own → RepD G B' o.fr v
  | .fz d, v, own, k, h => by
    simp only [RepO, O.fr] at h ⊢
    exact h.2.mono e
  | .ls ds, v, own, k, h => by
    simp only [RepO, O.fr, RepD] at h ⊢
    obtain ⟨a, vs, h1, h2, h3, h4⟩ := h
    exact ⟨a, vs, h1, (k a (by simp [h2])).trans h3, h4.mono e⟩
  | .ns os, v, own, k, h => by
    simp only [RepO, O.fr, RepD] at h ⊢
    obtain ⟨a, vs, ow, h1, h2, h3, h4⟩ := h
    exact ⟨a, vs, h1, (k a (by simp [h2])).trans h3, RepOs.freeze (fun b hb => k b (by simp [h2, hb])) h4⟩
  | .ob c fs, v, own, k, h => by
    simp only [RepO, O.fr, RepD] at h ⊢
    obtain ⟨a, C, dx, vs, ow, h1, h2, hc, h3, h4⟩ := h
    exact ⟨a, C, dx, vs, h1, hc, (k a (by simp [h2])).trans h3, RepOFs.freeze (fun b hb => k b (by simp [h2, hb])) h4⟩
  | .dc kvs, v, own, k, h => by
    simp only [RepO, O.fr, RepD] at h ⊢
    obtain ⟨a, vs, h1, h2, h3, h4⟩ := h
    exact ⟨a, vs, h1, (k a (by simp [h2])).trans h3, h4.mono e⟩
theorem RepOs.freeze : ∀ {os : List O} {vs : List V} {own : List Addr}, (∀ a ∈ own, B' a = H a) → RepOs G B H os vs own → RepDs G B' (O.frs os) vs
  | [], vs, own, k, h => by simp only [RepOs, O.frs, RepDs] at h ⊢; exact h.1
  | o :: os, vs, own, k, h => by
    simp only [RepOs, O.frs, RepDs] at h ⊢
    obtain ⟨v, r, o1, o2, h1, h2, h3, h4⟩ := h
    exact ⟨v, r, h1, RepO.freeze (fun b hb => k b (by simp [h2, hb])) h3, RepOs.freeze (fun b hb => k b (by simp [h2, hb])) h4⟩
theorem RepOFs.freeze : ∀ {os : List (Str × O)} {vs : List (Str × V)} {own : List Addr}, (∀ a ∈ own, B' a = H a) → RepOFs G B H os vs own → RepFs G B' (O.frf os) vs
  | [], vs, own, k, h => by simp only [RepOFs, O.frf, RepFs] at h ⊢; exact h.1
  | (f, o) :: os, vs, own, k, h => by
    simp only [RepOFs, O.frf, RepFs] at h ⊢
    obtain ⟨v, r, o1, o2, h1, h2, h3, h4⟩ := h
    exact ⟨v, r, h1, RepO.freeze (fun b hb => k b (by simp [h2, hb])) h3, RepOFs.freeze (fun b hb => k b (by simp [h2, hb])) h4⟩
end
end freeze

/-! ### the environment -/
abbrev Ev := List (Option O)
def RepEnv (G : Gx) (B H : Hp) : Ev → L2.St → List Addr → Prop
  | [], σ, own => σ = [] ∧ own = []
  | none :: ρ, σ, own => ∃ x r, σ = x :: r ∧ RepEnv G B H ρ r own
  | some o :: ρ, σ, own => ∃ v r o1 o2, σ = some v :: r ∧ own = o1 ++ o2 ∧ RepO G B H o v o1 ∧ RepEnv G B H ρ r o2
section env
variable {G : Gx} {B B' H H' : Hp}
theorem RepEnv.length : ∀ {ρ : Ev} {σ : L2.St} {As : List Addr}, RepEnv G B H ρ σ As → σ.length = ρ.length
  | [], σ, As, h => by simp only [RepEnv] at h; simp [h.1]
  | none :: ρ, σ, As, h => by
    simp only [RepEnv] at h
    obtain ⟨x, r, rfl, h⟩ := h
    simp [RepEnv.length h]
  | some o :: ρ, σ, As, h => by
    simp only [RepEnv] at h
    obtain ⟨x, r, o1, o2, rfl, rfl, _, h⟩ := h
    simp [RepEnv.length h]
theorem RepEnv.frame (e : Same B B') : ∀ {ρ : Ev} {σ : L2.St} {As : List Addr}, (∀ a ∈ As, H' a = H a) → RepEnv G B H ρ σ As → RepEnv G B' H' ρ σ As
  | [], σ, As, k, h => by simpa only [RepEnv] using h
  | none :: ρ, σ, As, k, h => by
    simp only [RepEnv] at h ⊢
    obtain ⟨x, r, h1, h⟩ := h
    exact ⟨x, r, h1, RepEnv.frame e k h⟩
  | some o :: ρ, σ, As, k, h => by
    simp only [RepEnv] at h ⊢
    obtain ⟨x, r, o1, o2, h1, h2, h3, h4⟩ := h
    exact ⟨x, r, o1, o2, h1, h2, h3.frame e (fun b hb => k b (by simp [h2, hb])), RepEnv.frame e (fun b hb => k b (by simp [h2, hb])) h4⟩
/-- a slot's content taken out -/
theorem RepEnv.out : ∀ {ρ : Ev} {σ : L2.St} {As : List Addr} {i : Nat} {o : O}, RepEnv G B H ρ σ As → ρ[i]? = some (some o) →
    ∃ v own As1, σ[i]? = some (some v) ∧ RepO G B H o v own ∧ RepEnv G B H (ρ.set i none) σ As1 ∧ (own ++ As1).Perm As
  | [], σ, As, i, o, h, e => by simp at e
  | none :: ρ, σ, As, 0, o, h, e => by simp at e
  | none :: ρ, σ, As, i + 1, o, h, e => by
    simp only [RepEnv] at h
    obtain ⟨x, r, rfl, h⟩ := h
    obtain ⟨v, own, As1, h1, h2, h3, h4⟩ := RepEnv.out (i := i) h (by simpa using e)
    exact ⟨v, own, As1, by simpa using h1, h2, ⟨x, r, rfl, h3⟩, h4⟩
  | some o' :: ρ, σ, As, 0, o, h, e => by
    simp only [RepEnv] at h
    obtain ⟨x, r, o1, o2, rfl, rfl, h1, h2⟩ := h
    simp at e; subst e
    exact ⟨x, o1, o2, by simp, h1, ⟨some x, r, rfl, h2⟩, List.Perm.refl _⟩
  | some o' :: ρ, σ, As, i + 1, o, h, e => by
    simp only [RepEnv] at h
    obtain ⟨x, r, o1, o2, rfl, rfl, h1, h2⟩ := h
    obtain ⟨v, own, As1, k1, k2, k3, k4⟩ := RepEnv.out (i := i) h2 (by simpa using e)
    refine ⟨v, own, o1 ++ As1, by simpa using k1, k2, ⟨x, r, o1, As1, rfl, rfl, h1, k3⟩, ?_⟩
    calc (own ++ (o1 ++ As1)).Perm ((own ++ o1) ++ As1) := by rw [List.append_assoc]
      _ |>.Perm ((o1 ++ own) ++ As1) := List.Perm.append_right _ List.perm_append_comm
      _ |>.Perm (o1 ++ (own ++ As1)) := by rw [List.append_assoc]
      _ |>.Perm (o1 ++ o2) := List.Perm.append_left _ k4
/-- .. put in -/
theorem RepEnv.put : ∀ {ρ : Ev} {σ : L2.St} {As : List Addr} {i : Nat} {o : O} {v : V} {own : List Addr}, RepEnv G B H ρ σ As → ρ[i]? = some none → σ[i]? = some (some v) → RepO G B H o v own →
    ∃ As', RepEnv G B H (ρ.set i (some o)) σ As' ∧ As'.Perm (own ++ As)
  | [], σ, As, i, o, v, own, h, e, s, r => by simp at e
  | none :: ρ, σ, As, 0, o, v, own, h, e, s, r => by
    simp only [RepEnv] at h
    obtain ⟨x, t, rfl, h⟩ := h
    simp at s; subst s
    exact ⟨own ++ As, ⟨v, t, own, As, rfl, rfl, r, h⟩, List.Perm.refl _⟩
  | none :: ρ, σ, As, i + 1, o, v, own, h, e, s, r => by
    simp only [RepEnv] at h
    obtain ⟨x, t, rfl, h⟩ := h
    obtain ⟨As', h1, h2⟩ := RepEnv.put (i := i) h (by simpa using e) (by simpa using s) r
    exact ⟨As', ⟨x, t, rfl, h1⟩, h2⟩
  | some o' :: ρ, σ, As, 0, o, v, own, h, e, s, r => by simp at e
  | some o' :: ρ, σ, As, i + 1, o, v, own, h, e, s, r => by
    simp only [RepEnv] at h
    obtain ⟨x, t, o1, o2, rfl, rfl, k1, k2⟩ := h
    obtain ⟨As', h1, h2⟩ := RepEnv.put (i := i) k2 (by simpa using e) (by simpa using s) r
    refine ⟨o1 ++ As', ⟨x, t, o1, As', rfl, rfl, k1, h1⟩, ?_⟩
    calc (o1 ++ As').Perm (o1 ++ (own ++ o2)) := List.Perm.append_left _ h2
      _ |>.Perm ((o1 ++ own) ++ o2) := by rw [List.append_assoc]
      _ |>.Perm ((own ++ o1) ++ o2) := List.Perm.append_right _ List.perm_append_comm
      _ |>.Perm (own ++ (o1 ++ o2)) := by rw [List.append_assoc]
/-- forgetting a slot -/
theorem RepEnv.drop : ∀ {ρ : Ev} {σ : L2.St} {As : List Addr} (i : Nat), RepEnv G B H ρ σ As → ∃ As1, RepEnv G B H (ρ.set i none) σ As1 ∧ As1.Sublist As
  | [], σ, As, i, h => ⟨As, h, List.Sublist.refl _⟩
  | none :: ρ, σ, As, 0, h => ⟨As, h, List.Sublist.refl _⟩
  | none :: ρ, σ, As, i + 1, h => by
    simp only [RepEnv] at h
    obtain ⟨x, r, rfl, h⟩ := h
    obtain ⟨As1, h1, h2⟩ := RepEnv.drop i h
    exact ⟨As1, ⟨x, r, rfl, h1⟩, h2⟩
  | some o :: ρ, σ, As, 0, h => by
    simp only [RepEnv] at h
    obtain ⟨x, r, o1, o2, rfl, rfl, k1, k2⟩ := h
    exact ⟨o2, ⟨some x, r, rfl, k2⟩, List.sublist_append_right _ _⟩
  | some o :: ρ, σ, As, i + 1, h => by
    simp only [RepEnv] at h
    obtain ⟨x, r, o1, o2, rfl, rfl, k1, k2⟩ := h
    obtain ⟨As1, h1, h2⟩ := RepEnv.drop i k2
    exact ⟨o1 ++ As1, ⟨x, r, o1, As1, rfl, rfl, k1, h1⟩, List.Sublist.append_left h2 _⟩
/-- an empty slot's value may be any -/
theorem RepEnv.any : ∀ {ρ : Ev} {σ : L2.St} {As : List Addr} {i : Nat} (x : Option V), RepEnv G B H ρ σ As → ρ[i]? = some none → RepEnv G B H ρ (σ.set i x) As
  | [], σ, As, i, x, h, e => by simp at e
  | none :: ρ, σ, As, 0, x, h, e => by
    simp only [RepEnv] at h ⊢
    obtain ⟨y, r, rfl, h⟩ := h
    exact ⟨x, r, rfl, h⟩
  | none :: ρ, σ, As, i + 1, x, h, e => by
    simp only [RepEnv] at h ⊢
    obtain ⟨y, r, rfl, h⟩ := h
    exact ⟨y, r.set i x, rfl, RepEnv.any x h (by simpa using e)⟩
  | some o :: ρ, σ, As, 0, x, h, e => by simp at e
  | some o :: ρ, σ, As, i + 1, x, h, e => by
    simp only [RepEnv] at h ⊢
    obtain ⟨y, r, o1, o2, rfl, rfl, k1, k2⟩ := h
    exact ⟨y, r.set i x, o1, o2, rfl, rfl, k1, RepEnv.any x k2 (by simpa using e)⟩
end env

/-! ### states and steps -/
/-- the tables stand -/
def Tabs (G : Gx) (H : Hp) : Prop := ∀ p ∈ tabDefs, GxR.TabG H (He.cT G.K p).2
theorem Tabs.same {G : Gx} {H H' : Hp} (t : Tabs G H) (e : Same H H') : Tabs G H' := fun p hp => e.tab (t p hp)
theorem Tabs.to {G : Gx} {H H' : Hp} (t : Tabs G H) (e : ∀ P, GxR.TabG H P → GxR.TabG H' P) : Tabs G H' := fun p hp => e _ (t p hp)
structure Rel (G : Gx) (B H : Hp) (σ : L2.St) (ρ : Ev) (As : List Addr) : Prop where
  sub : Same B H
  tb : Tabs G H
  nd : As.Nodup
  ap : ∀ a ∈ As, B a = none ∧ H a ≠ none
  env : RepEnv G B H ρ σ As
/-- only new things -/
structure Grow (B H B' H' : Hp) : Prop where
  hh : Same H H'
  bb : Same B B'
  sub : Same B' H'
  old : ∀ a, H a ≠ none → B' a = B a
structure Step (B H : Hp) (As : List Addr) (B' H' : Hp) (As' : List Addr) : Prop where
  bb : Same B B'
  sub : Same B' H'
  keep : ∀ a o, H a = some o → a ∉ As → kept H' a o ∧ B' a = B a
  own : ∀ a ∈ As', a ∈ As ∨ H a = none
  there : ∀ a, H a ≠ none → H' a ≠ none
  tb : ∀ P, GxR.TabG H P → GxR.TabG H' P
theorem Grow.refl {B H : Hp} (s : Same B H) : Grow B H B H := ⟨.refl _, .refl _, s, fun _ _ => rfl⟩
theorem Same.ne {H H' : Hp} (e : Same H H') {a : Addr} (h : H a ≠ none) : H' a ≠ none := by
  cases q : H a with
  | none => exact absurd q h
  | some o => exact kept_ne (e a o q)
theorem Grow.trans {B H B1 H1 B2 H2 : Hp} (x : Grow B H B1 H1) (y : Grow B1 H1 B2 H2) : Grow B H B2 H2 :=
  ⟨x.hh.trans y.hh, x.bb.trans y.bb, y.sub, fun a h => (y.old a (Same.ne x.hh h)).trans (x.old a h)⟩
theorem Grow.new {B H : Hp} {p : Addr} (s : Same B H) (h : H p = none) (o : HO) : Grow B H (upd B p o) (upd H p o) := by
  have hb : B p = none := s.free h
  refine ⟨.of fun b u q => ?_, .of fun b u q => ?_, fun b u q => ?_, fun a q => ?_⟩
  · rw [upd_ne (ne_of_none q h)]; exact q
  · rw [upd_ne (ne_of_none q hb)]; exact q
  · by_cases z : b = p
    · subst z; rw [upd_same] at q; cases q; exact kept_of upd_same
    · rw [upd_ne z] at q
      exact kept_tr (s b u q) fun w e => kept_of (by rw [upd_ne z]; exact e)
  · exact upd_ne fun z => q (z ▸ h)
theorem Grow.step {B H B' H' : Hp} (g : Grow B H B' H') (As : List Addr) : Step B H As B' H' As :=
  ⟨g.bb, g.sub, fun a o h _ => ⟨g.hh a o h, g.old a (by simp [h])⟩, fun a h => .inl h, fun a h => Same.ne g.hh h, fun P t => g.hh.tab t⟩
theorem Step.refl {B H : Hp} (s : Same B H) (As : List Addr) : Step B H As B H As := (Grow.refl s).step As
theorem Step.trans {B H B1 H1 B2 H2 : Hp} {As As1 As2 : List Addr} (x : Step B H As B1 H1 As1) (y : Step B1 H1 As1 B2 H2 As2) : Step B H As B2 H2 As2 := by
  refine ⟨x.bb.trans y.bb, y.sub, fun a o h hn => ?_, fun a h => ?_, fun a h => y.there a (x.there a h), fun P t => y.tb P (x.tb P t)⟩
  · obtain ⟨h1, b1⟩ := x.keep a o h hn
    have n1 : a ∉ As1 := fun z => (x.own a z).elim hn fun q => by rw [h] at q; cases q
    have b2 : B2 a = B1 a := by
      cases q : H1 a with
      | none => exact absurd q (kept_ne h1)
      | some u => exact (y.keep a u q n1).2
    exact ⟨kept_tr h1 fun u q => (y.keep a u q n1).1, b2.trans b1⟩
  · rcases y.own a h with z | z
    · exact x.own a z
    · right
      cases q : H a with
      | none => rfl
      | some o => exact absurd z (x.there a (by simp [q]))
theorem Step.less {B H B' H' : Hp} {As As' As2 : List Addr} (x : Step B H As B' H' As') (h : ∀ a ∈ As2, a ∈ As') : Step B H As B' H' As2 :=
  ⟨x.bb, x.sub, x.keep, fun a q => x.own a (h a q), x.there, x.tb⟩
/-- is there, no table -/
def Dat (H : Hp) (a : Addr) : Prop := ∃ o, H a = some o ∧ isTb o = false
theorem Dat.ne {H : Hp} {a : Addr} (h : Dat H a) : H a ≠ none := by obtain ⟨o, e, _⟩ := h; simp [e]
theorem Dat.same {H H' : Hp} {a : Addr} (h : Dat H a) (e : Same H H') : H' a = H a := by
  obtain ⟨o, q, n⟩ := h
  rw [e.eq q n, q]
/-- what stands apart is as it was -/
theorem Step.apart {B H B' H' : Hp} {As As' : List Addr} (x : Step B H As B' H' As') {a : Addr} (h : Dat H a) (n : a ∉ As) : H' a = H a ∧ B' a = B a ∧ a ∉ As' := by
  obtain ⟨o, q, nt⟩ := h
  obtain ⟨h1, h2⟩ := x.keep a o q n
  exact ⟨(kept_eq h1 nt).trans q.symm, h2, fun z => (x.own a z).elim n fun w => by rw [q] at w; cases w⟩
mutual
theorem RepO.dat {G : Gx} {B H : Hp} : ∀ {o : O} {v : V} {own : List Addr}, RepO G B H o v own → ∀ a ∈ own, Dat H a
  | .fz d, v, own, h => by simp only [RepO] at h; simp [h.1]
  | .ls ds, v, own, h => by
    simp only [RepO] at h
    obtain ⟨a, vs, h1, h2, h3, h4⟩ := h
    subst h2
    intro b hb
    obtain rfl : b = a := by simpa using hb
    exact ⟨_, h3, rfl⟩
  | .ns os, v, own, h => by
    simp only [RepO] at h
    obtain ⟨a, vs, ow, h1, h2, h3, h4⟩ := h
    subst h2
    intro b hb
    rcases List.mem_cons.mp hb with rfl | hb
    · exact ⟨_, h3, rfl⟩
    · exact RepOs.dat h4 b hb
  | .ob c fs, v, own, h => by
    simp only [RepO] at h
    obtain ⟨a, C, dx, vs, ow, h1, h2, hc, h3, h4⟩ := h
    subst h2
    intro b hb
    rcases List.mem_cons.mp hb with rfl | hb
    · exact ⟨_, h3, rfl⟩
    · exact RepOFs.dat h4 b hb
  | .dc kvs, v, own, h => by
    simp only [RepO] at h
    obtain ⟨a, vs, h1, h2, h3, h4⟩ := h
    subst h2
    intro b hb
    obtain rfl : b = a := by simpa using hb
    exact ⟨_, h3, rfl⟩
theorem RepOs.dat {G : Gx} {B H : Hp} : ∀ {os : List O} {vs : List V} {own : List Addr}, RepOs G B H os vs own → ∀ a ∈ own, Dat H a
  | [], vs, own, h => by simp only [RepOs] at h; simp [h.2]
  | o :: os, vs, own, h => by
    simp only [RepOs] at h
    obtain ⟨v, r, o1, o2, h1, h2, h3, h4⟩ := h
    subst h2
    intro b hb
    rcases List.mem_append.mp hb with hb | hb
    · exact RepO.dat h3 b hb
    · exact RepOs.dat h4 b hb
theorem RepOFs.dat {G : Gx} {B H : Hp} : ∀ {os : List (Str × O)} {vs : List (Str × V)} {own : List Addr}, RepOFs G B H os vs own → ∀ a ∈ own, Dat H a
  | [], vs, own, h => by simp only [RepOFs] at h; simp [h.2]
  | (f, o) :: os, vs, own, h => by
    simp only [RepOFs] at h
    obtain ⟨v, r, o1, o2, h1, h2, h3, h4⟩ := h
    subst h2
    intro b hb
    rcases List.mem_append.mp hb with hb | hb
    · exact RepO.dat h3 b hb
    · exact RepOFs.dat h4 b hb
end
theorem RepEnv.dat {G : Gx} {B H : Hp} : ∀ {ρ : Ev} {σ : L2.St} {As : List Addr}, RepEnv G B H ρ σ As → ∀ a ∈ As, Dat H a
  | [], σ, As, h => by simp only [RepEnv] at h; simp [h.2]
  | none :: ρ, σ, As, h => by
    simp only [RepEnv] at h
    obtain ⟨x, r, h1, h⟩ := h
    exact RepEnv.dat h
  | some o :: ρ, σ, As, h => by
    simp only [RepEnv] at h
    obtain ⟨x, r, o1, o2, h1, h2, h3, h4⟩ := h
    subst h2
    intro b hb
    rcases List.mem_append.mp hb with hb | hb
    · exact RepO.dat h3 b hb
    · exact RepEnv.dat h4 b hb
theorem Rel.grow {G : Gx} {B H B' H' : Hp} {σ : L2.St} {ρ : Ev} {As : List Addr} (r : Rel G B H σ ρ As) (g : Grow B H B' H') : Rel G B' H' σ ρ As :=
  ⟨g.sub, r.tb.same g.hh, r.nd, fun a h => ⟨(g.old a (r.ap a h).2).trans (r.ap a h).1, Same.ne g.hh (r.ap a h).2⟩,
   r.env.frame g.bb fun a h => (r.env.dat a h).same g.hh⟩
/-- an owned thing apart from the state -/
structure Apart (G : Gx) (B H : Hp) (o : O) (v : V) (own As : List Addr) : Prop where
  rep : RepO G B H o v own
  nd : (own ++ As).Nodup
  ap : ∀ a ∈ own, B a = none ∧ H a ≠ none
theorem Apart.fz {G : Gx} {B H : Hp} {d : D} {v : V} {As : List Addr} (h : RepD G B d v) (n : As.Nodup) : Apart G B H (.fz d) v [] As :=
  ⟨⟨rfl, h⟩, n, fun _ z => nomatch z⟩
theorem Apart.step {G : Gx} {B H B' H' : Hp} {o : O} {v : V} {own As As' : List Addr} (x : Apart G B H o v own As) (s : Step B H As B' H' As') (n : As'.Nodup) : Apart G B' H' o v own As' := by
  have dj : ∀ a ∈ own, a ∉ As := fun a h z => (List.nodup_append.mp x.nd).2.2 a h a z rfl
  have k : ∀ a ∈ own, H' a = H a ∧ B' a = B a ∧ a ∉ As' := fun a h => s.apart (x.rep.dat a h) (dj a h)
  refine ⟨x.rep.frame s.bb fun a h => (k a h).1, ?_, fun a h => ⟨(k a h).2.1.trans (x.ap a h).1, s.there a (x.ap a h).2⟩⟩
  exact List.nodup_append.mpr ⟨(List.nodup_append.mp x.nd).1, n, fun a h b hb e => (k a h).2.2 (e ▸ hb)⟩
end Q

namespace Q
open PySem PySem.Spec PyProof.Rows L2

abbrev gx (X : Cx) : Gx := ⟨X.K, X.mg⟩
abbrev PF := Ev → Option D
abbrev NF := Ev → Option O
abbrev BF := Ev → Option Bool

/-- a value whose top may be owned -/
def RepW (G : Gx) (B H : Hp) : D → V → Prop
  | .lst ds, v => ∃ a vs, v = .ref a ∧ H a = some (.lst vs) ∧ RepDs G B ds vs
  | .dic ds, v => ∃ a ps, v = .ref a ∧ H a = some (.dK ps) ∧ RepKs G B ds ps
  | .obj c fs, v => ∃ a C dx vs, v = .ref a ∧ G.mg c = some (.ref C) ∧ H a = some (.ins C dx vs) ∧ RepFs G B fs vs
  | d, v => RepD G B d v
theorem RepD.w {G : Gx} {B H : Hp} (s : Same B H) {d : D} {v : V} (h : RepD G B d v) : RepW G B H d v := by
  cases d with
  | lst ds => simp only [RepD] at h; obtain ⟨a, vs, h1, h2, h3⟩ := h; exact ⟨a, vs, h1, s _ _ h2, h3⟩
  | dic ds => simp only [RepD] at h; obtain ⟨a, vs, h1, h2, h3⟩ := h; exact ⟨a, vs, h1, s _ _ h2, h3⟩
  | obj c fs => simp only [RepD] at h; obtain ⟨a, C, dx, vs, h1, h2, h3, h4⟩ := h; exact ⟨a, C, dx, vs, h1, h2, s _ _ h3, h4⟩
  | _ => exact h
theorem RepW.grow {G : Gx} {B H B' H' : Hp} (g : Grow B H B' H') {d : D} {v : V} (h : RepW G B H d v) : RepW G B' H' d v := by
  cases d with
  | lst ds => obtain ⟨a, vs, h1, h2, h3⟩ := h; exact ⟨a, vs, h1, g.hh _ _ h2, h3.mono g.bb⟩
  | dic ds => obtain ⟨a, vs, h1, h2, h3⟩ := h; exact ⟨a, vs, h1, g.hh _ _ h2, h3.mono g.bb⟩
  | obj c fs => obtain ⟨a, C, dx, vs, h1, h2, h3, h4⟩ := h; exact ⟨a, C, dx, vs, h1, h2, g.hh _ _ h3, h4.mono g.bb⟩
  | non => exact RepD.mono (G := G) g.bb (d := .non) h
  | bl b => exact RepD.mono (G := G) g.bb (d := .bl b) h
  | int b => exact RepD.mono (G := G) g.bb (d := .int b) h
  | str b => exact RepD.mono (G := G) g.bb (d := .str b) h
  | tup b => exact RepD.mono (G := G) g.bb (d := .tup b) h
  | scr b => exact RepD.mono (G := G) g.bb (d := .scr b) h
def allFz : List O → Option (List D)
  | [] => some []
  | .fz d :: os => (allFz os).map (d :: ·)
  | _ => none
def allFf : List (Str × O) → Option (List (Str × D))
  | [] => some []
  | (f, .fz d) :: os => (allFf os).map ((f, d) :: ·)
  | _ => none
def O.view : O → Option D
  | .fz d => some d
  | .ls ds => some (.lst ds)
  | .dc kvs => some (.dic kvs)
  | .ns os => (allFz os).map .lst
  | .ob c fs => (allFf fs).map (.obj c)
theorem RepOs.allFz {G : Gx} {B H : Hp} : ∀ {os : List O} {ds : List D} {vs : List V} {own : List Addr}, RepOs G B H os vs own → allFz os = some ds → RepDs G B ds vs
  | [], ds, vs, own, h, e => by simp only [Q.allFz, Option.some.injEq] at e; subst e; simp only [RepOs] at h; exact h.1
  | .fz d :: os, ds, vs, own, h, e => by
    simp only [Q.allFz, Option.map_eq_some_iff] at e
    obtain ⟨r, e1, rfl⟩ := e
    simp only [RepOs, RepO] at h
    obtain ⟨v, t, o1, o2, rfl, rfl, h1, h2⟩ := h
    exact ⟨v, t, rfl, h1.2, RepOs.allFz h2 e1⟩
  | .ls _ :: os, ds, vs, own, h, e => by simp [Q.allFz] at e
  | .ns _ :: os, ds, vs, own, h, e => by simp [Q.allFz] at e
  | .ob _ _ :: os, ds, vs, own, h, e => by simp [Q.allFz] at e
  | .dc _ :: os, ds, vs, own, h, e => by simp [Q.allFz] at e
theorem RepOFs.allFf {G : Gx} {B H : Hp} : ∀ {os : List (Str × O)} {ds : List (Str × D)} {vs : List (Str × V)} {own : List Addr}, RepOFs G B H os vs own → allFf os = some ds → RepFs G B ds vs
  | [], ds, vs, own, h, e => by simp only [Q.allFf, Option.some.injEq] at e; subst e; simp only [RepOFs] at h; exact h.1
  | (f, .fz d) :: os, ds, vs, own, h, e => by
    simp only [Q.allFf, Option.map_eq_some_iff] at e
    obtain ⟨r, e1, rfl⟩ := e
    simp only [RepOFs, RepO] at h
    obtain ⟨v, t, o1, o2, rfl, rfl, h1, h2⟩ := h
    exact ⟨v, t, rfl, h1.2, RepOFs.allFf h2 e1⟩
  | (f, .ls _) :: os, ds, vs, own, h, e => by simp [Q.allFf] at e
  | (f, .ns _) :: os, ds, vs, own, h, e => by simp [Q.allFf] at e
  | (f, .ob _ _) :: os, ds, vs, own, h, e => by simp [Q.allFf] at e
  | (f, .dc _) :: os, ds, vs, own, h, e => by simp [Q.allFf] at e
theorem RepO.w {G : Gx} {B H : Hp} (s : Same B H) {o : O} {d : D} {v : V} {own : List Addr} (h : RepO G B H o v own) (e : o.view = some d) : RepW G B H d v := by
  cases o with
  | fz x => simp only [O.view, Option.some.injEq] at e; subst e; simp only [RepO] at h; exact h.2.w s
  | ls ds => simp only [O.view, Option.some.injEq] at e; subst e; simp only [RepO] at h; obtain ⟨a, vs, h1, _, h3, h4⟩ := h; exact ⟨a, vs, h1, h3, h4⟩
  | dc ds => simp only [O.view, Option.some.injEq] at e; subst e; simp only [RepO] at h; obtain ⟨a, vs, h1, _, h3, h4⟩ := h; exact ⟨a, vs, h1, h3, h4⟩
  | ns os =>
    simp only [O.view, Option.map_eq_some_iff] at e
    obtain ⟨ds, e1, rfl⟩ := e
    simp only [RepO] at h; obtain ⟨a, vs, ow, h1, _, h3, h4⟩ := h; exact ⟨a, vs, h1, h3, h4.allFz e1⟩
  | ob c os =>
    simp only [O.view, Option.map_eq_some_iff] at e
    obtain ⟨ds, e1, rfl⟩ := e
    simp only [RepO] at h; obtain ⟨a, C, dx, vs, ow, h1, _, hc, h3, h4⟩ := h; exact ⟨a, C, dx, vs, h1, hc, h3, h4.allFf e1⟩

/-! ### readings -/
def tD (G : Gx) (g : PF) : TE := fun σ H Q => ∃ ρ B As d, Rel G B H σ ρ As ∧ g ρ = some d ∧ ∀ v B' H', Grow B H B' H' → RepD G B' d v → Q v H'
def tW (G : Gx) (g : PF) : TE := fun σ H Q => ∃ ρ B As d, Rel G B H σ ρ As ∧ g ρ = some d ∧ ∀ v B' H', Grow B H B' H' → RepW G B' H' d v → Q v H'
/-- a new thing, apart -/
structure Fresh (G : Gx) (B H B' H' : Hp) (o : O) (v : V) (own : List Addr) : Prop where
  g : Grow B H B' H'
  rep : RepO G B' H' o v own
  nd : own.Nodup
  ap : ∀ a ∈ own, H a = none ∧ B' a = none ∧ H' a ≠ none
def tN (G : Gx) (g : NF) : TE := fun σ H Q => ∃ ρ B As o, Rel G B H σ ρ As ∧ g ρ = some o ∧ ∀ v B' H' own, Fresh G B H B' H' o v own → Q v H'
/-- a thing owned by a slot, looked at -/
def tP (G : Gx) (g : NF) : TE := fun σ H Q => ∃ ρ B As o, Rel G B H σ ρ As ∧ g ρ = some o ∧ ∀ v B' H' own, Grow B H B' H' → RepO G B' H' o v own → Q v H'
abbrev EF := Ev → Option (O × Ev)
def tE (G : Gx) (g : EF) : TE := fun σ H Q => ∃ ρ B As o ρ', Rel G B H σ ρ As ∧ g ρ = some (o, ρ') ∧
  ∀ v B' H' As' own, Step B H As B' H' (own ++ As') → Rel G B' H' σ ρ' As' → Apart G B' H' o v own As' → Q v H'
def tT (G : Gx) (g : BF) : TT := fun σ H Q => ∃ ρ B As b, Rel G B H σ ρ As ∧ g ρ = some b ∧ ∀ B' H', Grow B H B' H' → Q b H'
abbrev QD (X : Cx) (e : Expr) (g : PF) : Prop := PE X e (tD (gx X) g)
abbrev QW (X : Cx) (e : Expr) (g : PF) : Prop := PE X e (tW (gx X) g)
abbrev QN (X : Cx) (e : Expr) (g : NF) : Prop := PE X e (tN (gx X) g)
abbrev QP (X : Cx) (e : Expr) (g : NF) : Prop := PE X e (tP (gx X) g)
abbrev QE (X : Cx) (e : Expr) (g : EF) : Prop := PE X e (tE (gx X) g)
abbrev QT (X : Cx) (e : Expr) (g : BF) : Prop := PT X e (tT (gx X) g)

theorem pe_imp {X : Cx} {e : Expr} {t t' : TE} (h : PE X e t) (k : ∀ σ H Q, t' σ H Q → t σ H Q) : PE X e t' := ⟨fun pins s σ H Q I q => h.run pins s σ H Q I (k _ _ _ q)⟩
theorem pt_imp {X : Cx} {e : Expr} {t t' : TT} (h : PT X e t) (k : ∀ σ H Q, t' σ H Q → t σ H Q) : PT X e t' := ⟨fun pins s σ H Q I q => h.run pins s σ H Q I (k _ _ _ q)⟩
theorem pa_imp {X : Cx} {e : List Expr} {t t' : TA} (h : PA X e t) (k : ∀ σ H Q, t' σ H Q → t σ H Q) : PA X e t' := ⟨fun pos pins s σ H Q I q => h.run pos pins s σ H Q I (k _ _ _ q)⟩
theorem ps_imp {X : Cx} {e : Stmt} {t t' : TS} (h : PS X e t) (k : ∀ D σ H, t' D σ H → t D σ H) : PS X e t' := ⟨fun pins s σ H D I q => h.run pins s σ H D I (k _ _ _ q)⟩
theorem pss_imp {X : Cx} {e : List Stmt} {t t' : TS} (h : PSs X e t) (k : ∀ D σ H, t' D σ H → t D σ H) : PSs X e t' := ⟨fun pins s σ H D I q => h.run pins s σ H D I (k _ _ _ q)⟩
theorem pg_imp {X : Cx} {e : Expr} {t t' : TG} (h : PG X e t) (k : ∀ v σ H Q, t' v σ H Q → t v σ H Q) : PG X e t' := ⟨fun pins s σ H v u Q I r q => h.run pins s σ H v u Q I r (k _ _ _ _ q)⟩

/-- what is frozen further -/
def frz (B H : Hp) (own : List Addr) : Hp := fun a => if a ∈ own then H a else B a
theorem frz_in {B H : Hp} {own : List Addr} {a : Addr} (h : a ∈ own) : frz B H own a = H a := by unfold frz; rw [if_pos h]
theorem frz_out {B H : Hp} {own : List Addr} {a : Addr} (h : a ∉ own) : frz B H own a = B a := by unfold frz; rw [if_neg h]
theorem frz_bb {B H : Hp} {own : List Addr} (ap : ∀ a ∈ own, B a = none) : Same B (frz B H own) := .of fun a o h => by
  rw [frz_out]; · exact h
  intro z; rw [ap a z] at h; cases h
theorem frz_sub {B H : Hp} {own : List Addr} (s : Same B H) : Same (frz B H own) H := fun a o h => by
  by_cases z : a ∈ own
  · rw [frz_in z] at h; exact kept_of h
  · rw [frz_out z] at h; exact s _ _ h
theorem Fresh.fr {G : Gx} {B H B' H' : Hp} {o : O} {v : V} {own : List Addr} (f : Fresh G B H B' H' o v own) : Grow B H (frz B' H' own) H' ∧ RepD G (frz B' H' own) o.fr v := by
  have bb : Same B' (frz B' H' own) := frz_bb fun a h => (f.ap a h).2.1
  refine ⟨⟨f.g.hh, f.g.bb.trans bb, frz_sub f.g.sub, fun a h => ?_⟩, f.rep.freeze bb fun a h => frz_in h⟩
  rw [frz_out fun z => h (f.ap a z).1]
  exact f.g.old a h

section conv
variable {X : Cx} {e : Expr}
theorem QD.toW {g : PF} (h : QD X e g) : QW X e g := pe_imp h fun σ H Q ⟨ρ, B, As, d, R, e1, k⟩ => ⟨ρ, B, As, d, R, e1, fun v B' H' g r => k v B' H' g (r.w g.sub)⟩
def frN (g : NF) : PF := fun ρ => (g ρ).map O.fr
theorem QN.toD {g : NF} (h : QN X e g) : QD X e (frN g) := pe_imp h fun σ H Q ⟨ρ, B, As, d, R, e1, k⟩ => by
  obtain ⟨o, e2, rfl⟩ := Option.map_eq_some_iff.mp e1
  exact ⟨ρ, B, As, o, R, e2, fun v B' H' own f => k v _ H' f.fr.1 f.fr.2⟩
def pureE (g : PF) : EF := fun ρ => (g ρ).map fun d => (.fz d, ρ)
def freshE (g : NF) : EF := fun ρ => (g ρ).map fun o => (o, ρ)
theorem QD.toE {g : PF} (h : QD X e g) : QE X e (pureE g) := pe_imp h fun σ H Q ⟨ρ, B, As, d, ρ', R, e1, k⟩ => by
  obtain ⟨o, e2, e3⟩ := Option.map_eq_some_iff.mp e1
  cases e3
  exact ⟨ρ, B, As, o, R, e2, fun v B' H' g r => k v B' H' As [] (g.step As) (R.grow g) (.fz r R.nd)⟩
theorem QN.toE {g : NF} (h : QN X e g) : QE X e (freshE g) := pe_imp h fun σ H Q ⟨ρ, B, As, d, ρ', R, e1, k⟩ => by
  obtain ⟨o, e2, e3⟩ := Option.map_eq_some_iff.mp e1
  cases e3
  refine ⟨ρ, B, As, d, R, e2, fun v B' H' own f => ?_⟩
  have dj : ∀ a ∈ own, ∀ b ∈ As, a ≠ b := fun a ha b hb z => (R.ap b hb).2 (z ▸ (f.ap a ha).1)
  refine k v B' H' As own ⟨f.g.bb, f.g.sub, fun a o h hn => ⟨f.g.hh a o h, f.g.old a (by simp [h])⟩, fun a h => ?_, fun a h => Same.ne f.g.hh h, fun P t => f.g.hh.tab t⟩ (R.grow f.g) ⟨f.rep, List.nodup_append.mpr ⟨f.nd, R.nd, dj⟩, fun a h => ⟨(f.ap a h).2.1, (f.ap a h).2.2⟩⟩
  rcases List.mem_append.mp h with h | h
  · exact .inr (f.ap a h).1
  · exact .inl h
def viewP (g : NF) : PF := fun ρ => (g ρ).bind O.view
def valP (g : NF) : PF := fun ρ => (g ρ).bind fun | .fz d => some d | _ => none
theorem QP.toW {g : NF} (h : QP X e g) : QW X e (viewP g) := pe_imp h fun σ H Q ⟨ρ, B, As, d, R, e1, k⟩ => by
  obtain ⟨o, e2, e3⟩ := Option.bind_eq_some_iff.mp e1
  exact ⟨ρ, B, As, o, R, e2, fun v B' H' own g r => k v B' H' g (r.w g.sub e3)⟩
theorem QP.toD {g : NF} (h : QP X e g) : QD X e (valP g) := pe_imp h fun σ H Q ⟨ρ, B, As, d, R, e1, k⟩ => by
  obtain ⟨o, e2, e3⟩ := Option.bind_eq_some_iff.mp e1
  cases o with
  | fz x => cases e3; exact ⟨ρ, B, As, .fz d, R, e2, fun v B' H' own g r => k v B' H' g (by simp only [RepO] at r; exact r.2)⟩
  | _ => simp at e3
end conv

/-! ### names, constants -/
section leaf
variable {X : Cx}
def varP (i : Nat) : NF := fun ρ => ρ[i]?.join
theorem qp_var {i : Nat} {x : Str} {pos : Pos} (hN : X.N[i]? = some x := by rfl) (hv : Vis X.env.scope x := by first | exact Or.inl rfl | exact Or.inr (Or.inl rfl) | exact Or.inr (Or.inr rfl)) (hd : (x == ("__debug__" : Str)) = false := by decide)
    (hcd : (x == ("__classdict__" : Str)) = false := by decide) : QP X (.Name x pos) (varP i) := pe_imp (pe_var (i := i) hN hv hd hcd) fun σ H Q ⟨ρ, B, As, o, R, e1, k⟩ => by
  have e2 : ρ[i]? = some (some o) := by
    unfold varP at e1
    cases q : ρ[i]? with
    | none => rw [q] at e1; simp at e1
    | some x => rw [q] at e1; simp at e1; rw [e1]
  obtain ⟨v, own, As1, h1, h2, _, _⟩ := R.env.out e2
  exact ⟨v, h1, k v B H own (.refl R.sub) h2⟩
abbrev varD (i : Nat) : PF := valP (varP i)
abbrev varW (i : Nat) : PF := viewP (varP i)
theorem qd_var {i : Nat} {x : Str} {pos : Pos} (hN : X.N[i]? = some x := by rfl) (hv : Vis X.env.scope x := by first | exact Or.inl rfl | exact Or.inr (Or.inl rfl) | exact Or.inr (Or.inr rfl)) (hd : (x == ("__debug__" : Str)) = false := by decide)
    (hcd : (x == ("__classdict__" : Str)) = false := by decide) : QD X (.Name x pos) (varD i) := (qp_var hN hv hd hcd).toD
theorem qw_var {i : Nat} {x : Str} {pos : Pos} (hN : X.N[i]? = some x := by rfl) (hv : Vis X.env.scope x := by first | exact Or.inl rfl | exact Or.inr (Or.inl rfl) | exact Or.inr (Or.inr rfl)) (hd : (x == ("__debug__" : Str)) = false := by decide)
    (hcd : (x == ("__classdict__" : Str)) = false := by decide) : QW X (.Name x pos) (varW i) := (qp_var hN hv hd hcd).toW
def cst (d : D) : PF := fun _ => some d
theorem qd_c {e : Expr} {d : D} {v : V} (h : PE X e (tC v)) (r : ∀ B, RepD (gx X) B d v) : QD X e (cst d) := pe_imp h fun σ H Q ⟨ρ, B, As, d', R, e1, k⟩ => by
  cases e1; exact k v B H (.refl R.sub) (r B)
theorem qd_int {i j pos} : QD X (.Constant (.int i) j pos) (cst (.int i)) := qd_c pe_int fun _ => rfl
theorem qd_bl {i j pos} : QD X (.Constant (.bool i) j pos) (cst (.bl i)) := qd_c pe_bl fun _ => rfl
theorem qd_non {j pos} : QD X (.Constant .none j pos) (cst .non) := qd_c pe_non fun _ => rfl
theorem qd_str {i j pos} : QD X (.Constant (.str i) j pos) (cst (.str i)) := qd_c pe_str fun _ => rfl
/-- a constant of the module -/
theorem qd_glob {x : Str} {v : V} {u : Value} {d : D} {pos : Pos} (hg : Gl X x) (hm : X.mg x = some u) (rv : RelV v u) (r : ∀ B, RepD (gx X) B d v) (hd : (x == ("__debug__" : Str)) = false := by decide) : QD X (.Name x pos) (cst d) :=
  qd_c (pe_glob hg hm rv hd) r
end leaf

/-! ### operators -/
def rU2 (G : Gx) (f : D → D → Option O) : R2 := fun x y H Q => ∃ B d1 d2 o, Same B H ∧ RepW G B H d1 x ∧ RepW G B H d2 y ∧ f d1 d2 = some o ∧ ∀ v B' H' own, Fresh G B H B' H' o v own → Q v H'
abbrev UOp (X : Cx) (F : Value → Value → Sem Value) (f : D → D → Option O) : Prop := OpR X F (rU2 (gx X) f)
def rC2 (G : Gx) (f : D → D → Option Bool) : R2 := fun x y H Q => ∃ B d1 d2 b, Same B H ∧ RepW G B H d1 x ∧ RepW G B H d2 y ∧ f d1 d2 = some b ∧ Q (.bl b) H
abbrev UCm (X : Cx) (F : Value → Value → Sem Value) (f : D → D → Option Bool) : Prop := OpR X F (rC2 (gx X) f)
theorem Fresh.val {G : Gx} {B H : Hp} {d : D} {v : V} (s : Same B H) (r : RepD G B d v) : Fresh G B H B H (.fz d) v [] := ⟨.refl s, ⟨rfl, r⟩, List.nodup_nil, fun _ z => nomatch z⟩
theorem Fresh.lst {G : Gx} {B H : Hp} {ds : List D} {vs : List V} {p : Addr} (s : Same B H) (hp : H p = none) (r : RepDs G B ds vs) : Fresh G B H B (upd H p (.lst vs)) (.ls ds) (.ref p) [p] := by
  have hs : Same H (upd H p (.lst vs)) := .of fun b u q => by rw [upd_ne (ne_of_none q hp)]; exact q
  refine ⟨⟨hs, .refl _, s.trans hs, fun _ _ => rfl⟩, ⟨p, vs, rfl, rfl, upd_same, r⟩, by simp, fun a h => ?_⟩
  obtain rfl : a = p := by simpa using h
  exact ⟨hp, s.free hp, by rw [upd_same]; simp⟩
theorem Fresh.tup {G : Gx} {B H : Hp} {ds : List D} {vs : List V} {p : Addr} (s : Same B H) (hp : H p = none) (r : RepDs G B ds vs) : Fresh G B H (upd B p (.tup vs)) (upd H p (.tup vs)) (.fz (.tup ds)) (.ref p) [] :=
  ⟨.new s hp _, ⟨rfl, p, vs, rfl, .inl (.inl upd_same), r.mono (Grow.new s hp _).bb⟩, List.nodup_nil, fun _ z => nomatch z⟩

section ops
variable {X : Cx} {a b c : Expr} {ga gb gc : PF} {pos : Pos} {F F' : Value → Value → Sem Value}
def bin (f : D → D → Option O) (ga gb : PF) : NF := fun ρ => (ga ρ).bind fun x => (gb ρ).bind fun y => f x y
def cmp (f : D → D → Option Bool) (ga gb : PF) : BF := fun ρ => (ga ρ).bind fun x => (gb ρ).bind fun y => f x y
def asB (g : BF) : PF := fun ρ => (g ρ).map D.bl
theorem two {A : Type} {f : D → D → Option A} {ga gb : PF} {ρ : Ev} {r : A} (h : ((ga ρ).bind fun x => (gb ρ).bind fun y => f x y) = some r) : ∃ x y, ga ρ = some x ∧ gb ρ = some y ∧ f x y = some r := by
  obtain ⟨x, h1, h⟩ := Option.bind_eq_some_iff.mp h
  obtain ⟨y, h2, h⟩ := Option.bind_eq_some_iff.mp h
  exact ⟨x, y, h1, h2, h⟩
theorem Fresh.behind {G : Gx} {B H B1 H1 B2 H2 : Hp} {o : O} {v : V} {own : List Addr} (g : Grow B H B1 H1) (f : Fresh G B1 H1 B2 H2 o v own) : Fresh G B H B2 H2 o v own :=
  ⟨g.trans f.g, f.rep, f.nd, fun a h => ⟨Same.free g.hh (f.ap a h).1, (f.ap a h).2⟩⟩
theorem rU2_of {G : Gx} {f : D → D → Option O} {σ : L2.St} {H : Hp} {Q : VK} (h : tN G (bin f ga gb) σ H Q) : tOp (rU2 G f) (tW G ga) (tW G gb) σ H Q := by
  obtain ⟨ρ, B, As, o, R, e, k⟩ := h
  obtain ⟨x, y, e1, e2, e3⟩ := two e
  refine ⟨ρ, B, As, x, R, e1, fun v1 B1 H1 g1 w1 => ⟨ρ, B1, As, y, R.grow g1, e2, fun v2 B2 H2 g2 w2 => ⟨B2, x, y, o, g2.sub, w1.grow g2, w2, e3, fun v B3 H3 own f => k v B3 H3 own (f.behind (g1.trans g2))⟩⟩⟩
theorem rC2_of {G : Gx} {f : D → D → Option Bool} {σ : L2.St} {H : Hp} {Q : VK} (h : ∃ ρ B As b, Rel G B H σ ρ As ∧ cmp f ga gb ρ = some b ∧ ∀ B' H', Grow B H B' H' → Q (.bl b) H') : tOp (rC2 G f) (tW G ga) (tW G gb) σ H Q := by
  obtain ⟨ρ, B, As, o, R, e, k⟩ := h
  obtain ⟨x, y, e1, e2, e3⟩ := two e
  refine ⟨ρ, B, As, x, R, e1, fun v1 B1 H1 g1 w1 => ⟨ρ, B1, As, y, R.grow g1, e2, fun v2 B2 H2 g2 w2 => ⟨B2, x, y, o, g2.sub, w1.grow g2, w2, e3, k B2 H2 (g1.trans g2)⟩⟩⟩
theorem qn_bin {op : Operator} {f : D → D → Option O} (u : UOp X (binaryOp op) f) (ha : QW X a ga) (hb : QW X b gb) : QN X (.BinOp a op b pos) (bin f ga gb) :=
  pe_imp (pe_op u ha hb) fun _ _ _ h => rU2_of h
theorem bl_of {G : Gx} {g : BF} {σ : L2.St} {H : Hp} {Q : VK} (h : tD G (asB g) σ H Q) : ∃ ρ B As b, Rel G B H σ ρ As ∧ g ρ = some b ∧ ∀ B' H', Grow B H B' H' → Q (.bl b) H' := by
  obtain ⟨ρ, B, As, d, R, e, k⟩ := h
  obtain ⟨x, e1, rfl⟩ := Option.map_eq_some_iff.mp e
  exact ⟨ρ, B, As, x, R, e1, fun B' H' g => k _ B' H' g rfl⟩
theorem qd_cmp {op : CmpOp} {f : D → D → Option Bool} (u : UCm X (compareOp op) f) (ha : QW X a ga) (hb : QW X b gb) (hm : behindInMarks op b = false := by first | exact nobehind _ (by decide) (by decide) | rfl) : QD X (.Compare a [op] [b] pos) (asB (cmp f ga gb)) :=
  pe_imp (pe_cmpR u ha hb hm) fun _ _ _ h => rC2_of (bl_of h)
theorem qt_cmp {op : CmpOp} {f : D → D → Option Bool} (u : UCm X (compareOp op) f) (ha : QW X a ga) (hb : QW X b gb) (hm : behindInMarks op b = false := by first | exact nobehind _ (by decide) (by decide) | rfl) : QT X (.Compare a [op] [b] pos) (cmp f ga gb) :=
  pt_imp (pt_cmpR u ha hb hm) fun _ _ _ ⟨ρ, B, As, o, R, e, k⟩ => rC2_of ⟨ρ, B, As, o, R, e, fun B' H' g => ⟨o, rfl, k B' H' g⟩⟩
/-- a op b op' c -/
def chn (f f' : D → D → Option Bool) (ga gb gc : PF) : BF := fun ρ => (ga ρ).bind fun x => (gb ρ).bind fun y => (f x y).bind fun k => if k = true then (gc ρ).bind fun z => f' y z else some false
theorem chn_of {G : Gx} {f f' : D → D → Option Bool} {σ : L2.St} {H : Hp} {Q : VK} (h : ∃ ρ B As b, Rel G B H σ ρ As ∧ chn f f' ga gb gc ρ = some b ∧ ∀ B' H', Grow B H B' H' → Q (.bl b) H') : tChain (rC2 G f) (rC2 G f') (tW G ga) (tW G gb) (tW G gc) σ H Q := by
  obtain ⟨ρ, B, As, o, R, e, k⟩ := h
  obtain ⟨x, y, e1, e2, e3⟩ := two e
  obtain ⟨l, e4, e5⟩ := Option.bind_eq_some_iff.mp e3
  refine ⟨ρ, B, As, x, R, e1, fun v1 B1 H1 g1 w1 => ⟨ρ, B1, As, y, R.grow g1, e2, fun v2 B2 H2 g2 w2 => ⟨B2, x, y, l, g2.sub, w1.grow g2, w2, e4, l, rfl, ?_⟩⟩⟩
  cases l with
  | false => simp at e5 ⊢; subst e5; exact k B2 H2 (g1.trans g2)
  | true =>
    simp only [if_true] at e5 ⊢
    obtain ⟨z, e6, e7⟩ := Option.bind_eq_some_iff.mp e5
    exact ⟨ρ, B2, As, z, (R.grow g1).grow g2, e6, fun v3 B3 H3 g3 w3 => ⟨B3, y, z, o, g3.sub, w2.grow g3, w3, e7, k B3 H3 ((g1.trans g2).trans g3)⟩⟩
theorem qd_chain {op op' : CmpOp} {f f' : D → D → Option Bool} (u : UCm X (compareOp op) f) (u' : UCm X (compareOp op') f') (ha : QW X a ga) (hb : QW X b gb) (hc : QW X c gc) (hm : lastMarks [op, op'] [b, c] = false := by rfl) : QD X (.Compare a [op, op'] [b, c] pos) (asB (chn f f' ga gb gc)) :=
  pe_imp (pe_chain u u' ha hb hc hm) fun _ _ _ h => chn_of (bl_of h)
theorem qt_chain {op op' : CmpOp} {f f' : D → D → Option Bool} (u : UCm X (compareOp op) f) (u' : UCm X (compareOp op') f') (ha : QW X a ga) (hb : QW X b gb) (hc : QW X c gc) (hm : lastMarks [op, op'] [b, c] = false := by rfl) : QT X (.Compare a [op, op'] [b, c] pos) (chn f f' ga gb gc) :=
  pt_imp (pt_chain u u' ha hb hc hm) fun _ _ _ ⟨ρ, B, As, o, R, e, k⟩ => chn_of ⟨ρ, B, As, o, R, e, fun B' H' g => ⟨o, rfl, k B' H' g⟩⟩
end ops

/-! ### tests -/
section tests
variable {X : Cx} {a b c : Expr} {ga gb : BF} {pos : Pos} {rest : List Expr}
def andB (ga gb : BF) : BF := fun ρ => (ga ρ).bind fun x => if x = true then gb ρ else some false
def orB (ga gb : BF) : BF := fun ρ => (ga ρ).bind fun x => if x = true then some true else gb ρ
def notB (ga : BF) : BF := fun ρ => (ga ρ).map (! ·)
def ifV (gc : BF) (ga gb : PF) : PF := fun ρ => (gc ρ).bind fun x => if x = true then ga ρ else gb ρ
abbrev QTw (X : Cx) (e : Expr) (g : BF) : Prop := PW X e (tT (gx X) g)
theorem and_of {G : Gx} {σ : L2.St} {H : Hp} {Q : Bool → Hp → Prop} (h : tT G (andB ga gb) σ H Q) : tAnd (tT G ga) (tT G gb) σ H Q := by
  obtain ⟨ρ, B, As, o, R, e, k⟩ := h
  obtain ⟨x, e1, e2⟩ := Option.bind_eq_some_iff.mp e
  refine ⟨ρ, B, As, x, R, e1, fun B1 H1 g1 => ?_⟩
  cases x with
  | false => simp at e2 ⊢; subst e2; exact k B1 H1 g1
  | true => simp only [if_true] at e2 ⊢; exact ⟨ρ, B1, As, o, R.grow g1, e2, fun B2 H2 g2 => k B2 H2 (g1.trans g2)⟩
theorem or_of {G : Gx} {σ : L2.St} {H : Hp} {Q : Bool → Hp → Prop} (h : tT G (orB ga gb) σ H Q) : tOr (tT G ga) (tT G gb) σ H Q := by
  obtain ⟨ρ, B, As, o, R, e, k⟩ := h
  obtain ⟨x, e1, e2⟩ := Option.bind_eq_some_iff.mp e
  refine ⟨ρ, B, As, x, R, e1, fun B1 H1 g1 => ?_⟩
  cases x with
  | true => simp at e2 ⊢; subst e2; exact k B1 H1 g1
  | false => simp only [if_false, Bool.false_eq_true] at e2 ⊢; exact ⟨ρ, B1, As, o, R.grow g1, e2, fun B2 H2 g2 => k B2 H2 (g1.trans g2)⟩
theorem qtw_and1 (ha : QT X a ga) : QTw X (.BoolOp .And [a] pos) ga := pw_and1 ha
theorem qtw_or1 (ha : QT X a ga) : QTw X (.BoolOp .Or [a] pos) ga := pw_or1 ha
theorem pw_imp {e : Expr} {t t' : TT} (h : PW X e t) (k : ∀ σ H Q, t' σ H Q → t σ H Q) : PW X e t' := ⟨fun wh pins s σ H Q I q => h.run wh pins s σ H Q I (k _ _ _ q)⟩
theorem qtw_and (ha : QT X a ga) (hb : QTw X (.BoolOp .And (b :: rest) pos) gb) : QTw X (.BoolOp .And (a :: b :: rest) pos) (andB ga gb) := pw_imp (pw_and ha hb) fun _ _ _ h => and_of h
theorem qtw_or (ha : QT X a ga) (hb : QTw X (.BoolOp .Or (b :: rest) pos) gb) : QTw X (.BoolOp .Or (a :: b :: rest) pos) (orB ga gb) := pw_imp (pw_or ha hb) fun _ _ _ h => or_of h
theorem qt_w {e : Expr} {g : BF} (h : QTw X e g) : QT X e g := PW.pt h
theorem qt_not (ha : QT X a ga) : QT X (.UnaryOp .Not a pos) (notB ga) := pt_imp (pt_not ha) fun σ H Q ⟨ρ, B, As, o, R, e, k⟩ => by
  obtain ⟨x, e1, rfl⟩ := Option.map_eq_some_iff.mp e
  exact ⟨ρ, B, As, x, R, e1, fun B1 H1 g1 => k B1 H1 g1⟩
/-- as values -/
theorem qd_one {op} {g : PF} (h : QD X a g) : QD X (.BoolOp op [a] pos) g := pe_one h
theorem qd_and (ha : QD X a (asB ga)) (hb : QD X (.BoolOp .And (b :: rest) pos) (asB gb)) : QD X (.BoolOp .And (a :: b :: rest) pos) (asB (andB ga gb)) := pe_imp (pe_and ha hb) fun σ H Q h => by
  obtain ⟨ρ, B, As, o, R, e, k⟩ := bl_of h
  obtain ⟨x, e1, e2⟩ := Option.bind_eq_some_iff.mp e
  refine ⟨ρ, B, As, .bl x, R, by simp [asB, e1], fun v B1 H1 g1 r => ?_⟩
  simp only [RepD] at r; subst r
  refine ⟨x, rfl, ?_⟩
  cases x with
  | false => simp at e2 ⊢; subst e2; exact k B1 H1 g1
  | true =>
    simp only [if_true] at e2 ⊢
    refine ⟨ρ, B1, As, .bl o, R.grow g1, by simp [asB, e2], fun v B2 H2 g2 r => ?_⟩
    simp only [RepD] at r; subst r
    exact k B2 H2 (g1.trans g2)
theorem qd_or (ha : QD X a (asB ga)) (hb : QD X (.BoolOp .Or (b :: rest) pos) (asB gb)) : QD X (.BoolOp .Or (a :: b :: rest) pos) (asB (orB ga gb)) := pe_imp (pe_or ha hb) fun σ H Q h => by
  obtain ⟨ρ, B, As, o, R, e, k⟩ := bl_of h
  obtain ⟨x, e1, e2⟩ := Option.bind_eq_some_iff.mp e
  refine ⟨ρ, B, As, .bl x, R, by simp [asB, e1], fun v B1 H1 g1 r => ?_⟩
  simp only [RepD] at r; subst r
  refine ⟨x, rfl, ?_⟩
  cases x with
  | true => simp at e2 ⊢; subst e2; exact k B1 H1 g1
  | false =>
    simp only [if_false, Bool.false_eq_true] at e2 ⊢
    refine ⟨ρ, B1, As, .bl o, R.grow g1, by simp [asB, e2], fun v B2 H2 g2 r => ?_⟩
    simp only [RepD] at r; subst r
    exact k B2 H2 (g1.trans g2)
theorem qd_not (ha : QD X a (asB ga)) : QD X (.UnaryOp .Not a pos) (asB (notB ga)) := pe_imp (pe_not ha) fun σ H Q h => by
  obtain ⟨ρ, B, As, o, R, e, k⟩ := bl_of h
  obtain ⟨x, e1, rfl⟩ := Option.map_eq_some_iff.mp e
  refine ⟨ρ, B, As, .bl x, R, by simp [asB, e1], fun v B1 H1 g1 r => ?_⟩
  simp only [RepD] at r; subst r
  exact ⟨x, rfl, k B1 H1 g1⟩
theorem qd_if {ga gb : PF} {gc : BF} (hc : QT X c gc) (ha : QD X a ga) (hb : QD X b gb) : QD X (.IfExp c a b pos) (ifV gc ga gb) := pe_imp (pe_ifExp hc ha hb) fun σ H Q ⟨ρ, B, As, o, R, e, k⟩ => by
  obtain ⟨x, e1, e2⟩ := Option.bind_eq_some_iff.mp e
  refine ⟨ρ, B, As, x, R, e1, fun B1 H1 g1 => ?_⟩
  cases x with
  | true => simp only [if_true] at e2 ⊢; exact ⟨ρ, B1, As, o, R.grow g1, e2, fun v B2 H2 g2 => k v B2 H2 (g1.trans g2)⟩
  | false => simp only [if_false, Bool.false_eq_true] at e2 ⊢; exact ⟨ρ, B1, As, o, R.grow g1, e2, fun v B2 H2 g2 => k v B2 H2 (g1.trans g2)⟩
/-- a bool value of unknown make, as one -/
def isB (g : PF) : BF := fun ρ => (g ρ).bind fun | .bl b => some b | _ => none
theorem QD.toB {g : PF} (h : QD X a g) : QD X a (asB (isB g)) := pe_imp h fun σ H Q h => by
  obtain ⟨ρ, B, As, o, R, e, k⟩ := bl_of h
  obtain ⟨x, e1, e2⟩ := Option.bind_eq_some_iff.mp e
  cases x with
  | bl z => cases e2; exact ⟨ρ, B, As, _, R, e1, fun v B' H' g r => by simp only [RepD] at r; subst r; exact k B' H' g⟩
  | _ => simp at e2
/-- truth -/
def truB : D → Option Bool
  | .non => some false
  | .bl b => some b
  | .int i => some (i != 0)
  | .str x => if x.length ≤ sizeLine then some ((x.length : Int) != 0) else none
  | .lst ds => some !ds.isEmpty
  | .tup ds => some !ds.isEmpty
  | .dic ds => some !ds.isEmpty
  | _ => none
def tru (g : PF) : BF := fun ρ => (g ρ).bind truB
theorem empty_eq {A C : Type} {l : List A} {m : List C} (h : l.length = m.length) : l.isEmpty = m.isEmpty := by
  cases l <;> cases m <;> simp at h ⊢
theorem RepKs.length {G : Gx} {B : Hp} : ∀ {ds : List (D × D)} {vs : List (Key × V)}, RepKs G B ds vs → vs.length = ds.length
  | [], vs, h => by simp only [RepKs] at h; subst h; rfl
  | (k, d) :: ds, vs, h => by
    simp only [RepKs] at h
    obtain ⟨q, v, r, rfl, _, h2, h3⟩ := h
    simp [RepKs.length h3]
theorem truV_of {G : Gx} {B H : Hp} {d : D} {v : V} {b : Bool} (s : Same B H) (r : RepW G B H d v) (e : truB d = some b) : TruV G.K v H b := by
  cases d with
  | non => simp only [truB, Option.some.injEq] at e; subst e; simp only [RepW, RepD] at r; subst r; rfl
  | bl x => simp only [truB, Option.some.injEq] at e; subst e; simp only [RepW, RepD] at r; subst r; rfl
  | int x => simp only [truB, Option.some.injEq] at e; subst e; simp only [RepW, RepD] at r; subst r; rfl
  | str x =>
    simp only [truB] at e
    split at e
    · simp only [RepW, RepD] at r; subst r; simp at e; exact ⟨by assumption, by simp [← e]⟩
    · cases e
  | lst ds =>
    simp only [truB, Option.some.injEq] at e; subst e
    obtain ⟨a, vs, rfl, h1, h2⟩ := r
    exact .inl ⟨vs, SqL.of h1, by rw [empty_eq h2.length]⟩
  | tup ds =>
    simp only [truB, Option.some.injEq] at e; subst e
    simp only [RepW, RepD] at r
    obtain ⟨a, vs, rfl, h1, h2⟩ := r
    exact .inr (.inl ⟨vs, Same.sqT s h1, by rw [empty_eq h2.length]⟩)
  | dic ds =>
    simp only [truB, Option.some.injEq] at e; subst e
    obtain ⟨a, vs, rfl, h1, h2⟩ := r
    exact .inr (.inr ⟨vs, h1, by rw [empty_eq h2.length]⟩)
  | _ => simp [truB] at e
theorem qt_tru {g : PF} (h : QW X a g) (he : ∀ whole, isTrue a X.env whole = (do let v ← whole; standAt a.pos; holding [v] (truthy v)) := by intro _; rfl) : QT X a (tru g) :=
  pt_imp (pt_truth h he) fun σ H Q ⟨ρ, B, As, o, R, e, k⟩ => by
    obtain ⟨x, e1, e2⟩ := Option.bind_eq_some_iff.mp e
    exact ⟨ρ, B, As, x, R, e1, fun v B' H' g r => ⟨o, truV_of g.sub r e2, k B' H' g⟩⟩
end tests
end Q

namespace Q
open PySem PySem.Spec PyProof.Rows L2

/-! ### + -/
section cat
variable {prog : Program} {w : World} {A : Around} {s : Shared} {E : Value → Shared → Prop}
theorem cat_tup0 {t b : Addr} {ws : List Value} {Q : Value → Shared → Prop} (ht : IsTup s.heap t #[]) (hb : IsTup s.heap b ws.toArray)
    (h1 : Q (.ref b) s) : wpAny (model prog w) A (binaryOp .Add (.ref t) (.ref b)) Q E s := by
  obtain ⟨⟨cls, dd, data, sl⟩, ho, hc, n, hd⟩ := id ht
  obtain ⟨⟨cls2, dd2, data2, sl2⟩, ho2, hc2, n2, hd2⟩ := id hb
  simp only at hc hd hc2 hd2
  subst hc hd hc2 hd2
  exact concat_meets ⟨_, ho, rfl⟩ ⟨_, ho2, rfl⟩ noFill_tuple_add seq_tuple_add PySem.F.slot_tuple_add PySem.F.entry_tuple_add (PySem.F.args_tuple_add_2 _ _)
      (tuple_addW0 t b #[] ws.toArray n n2 dd dd2 sl sl2 (by rfl)) ⟨ho, ho2, h1⟩
end cat
variable {X : Cx}
/-- t + u of tuples, any -/
theorem op_catT0 : OpR X (binaryOp .Add) (fun x y H Q => ∃ a b ys, x = .ref a ∧ y = .ref b ∧ SqT X.K H a [] ∧ SqT X.K H b ys ∧ Q (.ref b) H) := by
  intro pins s σ H x y v u Q I rx ry h
  obtain ⟨a, b, ys, rfl, rfl, ha, hb, q⟩ := h
  cases rx
  cases ry
  obtain ⟨its, r1, p1, _⟩ := I.tuple ha
  obtain ⟨its2, r2, p2, _⟩ := I.tuple hb
  cases r1
  exact cat_tup0 p1 p2 ⟨.ref b, H, I, rfl, q⟩

def addO : D → D → Option O
  | .int i, .int j => some (.fz (.int (i + j)))
  | .str x, .str y => if x.length + y.length ≤ sizeLine then some (.fz (.str (x ++ y))) else none
  | .lst xs, .lst ys => if xs.length + ys.length ≤ sizeLine then some (.ls (xs ++ ys)) else none
  | .tup xs, .tup ys => if xs.length + ys.length ≤ sizeLine then some (.fz (.tup (xs ++ ys))) else none
  | _, _ => none
theorem rw_int {G : Gx} {B H : Hp} {i : Int} {v : V} (h : RepW G B H (.int i) v) : v = .int i := by simpa only [RepW, RepD] using h
theorem rw_str {G : Gx} {B H : Hp} {i : Str} {v : V} (h : RepW G B H (.str i) v) : v = .str i := by simpa only [RepW, RepD] using h
theorem rw_bl {G : Gx} {B H : Hp} {i : Bool} {v : V} (h : RepW G B H (.bl i) v) : v = .bl i := by simpa only [RepW, RepD] using h
theorem rw_non {G : Gx} {B H : Hp} {v : V} (h : RepW G B H .non v) : v = .non := by simpa only [RepW, RepD] using h
theorem rw_tup {G : Gx} {B H : Hp} {ds : List D} {v : V} (s : Same B H) (h : RepW G B H (.tup ds) v) : ∃ a vs, v = .ref a ∧ SqT G.K B a vs ∧ SqT G.K H a vs ∧ RepDs G B ds vs := by
  simp only [RepW, RepD] at h
  obtain ⟨a, vs, h1, h2, h3⟩ := h
  exact ⟨a, vs, h1, h2, Same.sqT s h2, h3⟩
theorem RepDs.nil_iff {G : Gx} {B : Hp} {ds : List D} {vs : List V} (h : RepDs G B ds vs) : vs = [] ↔ ds = [] := by
  have := h.length
  constructor <;> intro e <;> subst e <;> simp at this <;> first | exact this | exact List.length_eq_zero_iff.mp this.symm
theorem u_add : UOp X (binaryOp .Add) addO := by
  intro pins s σ H x y v u Q I rx ry ⟨B, d1, d2, o, sub, w1, w2, e, k⟩
  unfold addO at e
  split at e
  · cases e; cases rw_int w1; cases rw_int w2
    exact op_add pins s σ H _ _ v u Q I rx ry ⟨_, _, rfl, rfl, k _ B H [] (.val sub rfl)⟩
  · split at e
    · cases e; cases rw_str w1; cases rw_str w2
      exact op_add_str pins s σ H _ _ v u Q I rx ry ⟨_, _, rfl, rfl, by assumption, k _ B H [] (.val sub rfl)⟩
    · cases e
  · split at e
    · rename_i hz
      cases e
      obtain ⟨a, vs, rfl, h1, h2⟩ := w1
      obtain ⟨b, ws, rfl, h3, h4⟩ := w2
      exact op_cat pins s σ H _ _ v u Q I rx ry ⟨a, b, vs, ws, rfl, rfl, h1, h3, by rw [h2.length, h4.length]; exact hz, fun p hp => k _ B _ [p] (.lst sub hp (h2.append h4))⟩
    · cases e
  · split at e
    · rename_i xs ys hz
      cases e
      obtain ⟨a, vs, rfl, g1, h1, h2⟩ := rw_tup sub w1
      obtain ⟨b, ws, rfl, g3, h3, h4⟩ := rw_tup sub w2
      by_cases hx : vs = []
      · obtain rfl := h2.nil_iff.mp hx
        subst hx
        exact op_catT0 pins s σ H _ _ v u Q I rx ry ⟨a, b, ws, rfl, rfl, h1, h3, k _ B H [] (.val sub ⟨b, ws, rfl, g3, by simpa using h4⟩)⟩
      · refine op_catT pins s σ H _ _ v u Q I rx ry ⟨a, b, vs, ws, rfl, rfl, h1, h3, hx, by rw [h2.length, h4.length]; exact hz, fun z => ?_, fun z p hp => k _ _ _ [] (.tup sub hp (h2.append h4))⟩
        obtain rfl := h4.nil_iff.mp z
        exact k _ B H [] (.val sub ⟨a, vs, rfl, g1, by simpa using h2⟩)
    · cases e
  · cases e

/-! ### ints -/
def intO (f : Int → Int → Option Int) : D → D → Option O
  | .int i, .int j => (f i j).map fun k => .fz (.int k)
  | _, _ => none
theorem u_int {F : Value → Value → Sem Value} {C : Int → Int → Prop} {g : Int → Int → Int} {f : Int → Int → Option Int} (r : OpR X F (rI C fun i j => .int (g i j))) (h : ∀ i j k, f i j = some k → C i j ∧ k = g i j) : UOp X F (intO f) := by
  intro pins s σ H x y v u Q I rx ry ⟨B, d1, d2, o, sub, w1, w2, e, k⟩
  unfold intO at e
  split at e
  · obtain ⟨m, e1, rfl⟩ := Option.map_eq_some_iff.mp e
    obtain ⟨c, rfl⟩ := h _ _ _ e1
    cases rw_int w1; cases rw_int w2
    exact r pins s σ H _ _ v u Q I rx ry ⟨_, _, rfl, rfl, c, k _ B H [] (.val sub rfl)⟩
  · cases e
def mulI (i j : Int) : Option Int := if -2 ^ 64 < i ∧ i < 2 ^ 64 ∨ -2 ^ 64 < j ∧ j < 2 ^ 64 then some (i * j) else none
def divI (i j : Int) : Option Int := if 0 < j ∧ j < 1073741824 then some (i / j) else none
def modI (i j : Int) : Option Int := if 0 < j then some (i % j) else none
def powI (i j : Int) : Option Int := if 0 ≤ j ∧ j ≤ 1000000 ∧ i.natAbs < 2 ^ 64 then some (i ^ j.toNat) else none
abbrev mulO := intO mulI
abbrev divO := intO divI
abbrev modO := intO modI
abbrev powO := intO powI
def subO : D → D → Option O
  | .int i, .int j => some (.fz (.int (i - j)))
  | _, _ => none
theorem u_sub : UOp X (binaryOp .Sub) subO := by
  intro pins s σ H x y v u Q I rx ry ⟨B, d1, d2, o, sub, w1, w2, e, k⟩
  unfold subO at e
  split at e
  · cases e; cases rw_int w1; cases rw_int w2
    exact op_sub pins s σ H _ _ v u Q I rx ry ⟨_, _, rfl, rfl, k _ B H [] (.val sub rfl)⟩
  · cases e
theorem if_some {c : Prop} [Decidable c] {A : Type} {x y : A} (h : (if c then some x else none) = some y) : c ∧ y = x := by
  split at h
  · cases h; exact ⟨by assumption, rfl⟩
  · cases h
theorem u_mul : UOp X (binaryOp .Mult) mulO := u_int op_mul fun i j k h => by unfold mulI at h; exact ⟨(if_some h).1, (if_some h).2⟩
theorem u_div : UOp X (binaryOp .FloorDiv) divO := u_int op_fdiv fun i j k h => by unfold divI at h; exact ⟨(if_some h).1, (if_some h).2⟩
theorem u_mod : UOp X (binaryOp .Mod) modO := u_int op_mod fun i j k h => by unfold modI at h; exact ⟨(if_some h).1, (if_some h).2⟩
theorem u_pow : UOp X (binaryOp .Pow) powO := u_int op_pow fun i j k h => by unfold powI at h; exact ⟨(if_some h).1, (if_some h).2⟩
def negN (g : PF) : NF := fun ρ => (g ρ).bind fun | .int i => some (.fz (.int (-i))) | _ => none
theorem qn_neg {e : Expr} {g : PF} {pos : Pos} (h : QW X e g) : QN X (.UnaryOp .USub e pos) (negN g) := pe_imp (pe_un un_neg h) fun σ H Q ⟨ρ, B, As, o, R, e, k⟩ => by
  obtain ⟨x, e1, e2⟩ := Option.bind_eq_some_iff.mp e
  refine ⟨ρ, B, As, x, R, e1, fun v B' H' g r => ?_⟩
  split at e2
  · cases e2; cases rw_int r; exact ⟨_, rfl, k _ B' H' [] ((Fresh.val (G := gx X) (d := .int _) g.sub rfl).behind g)⟩
  · cases e2

/-! ### comparisons -/
def cmpI (p : Int → Int → Bool) : D → D → Option Bool
  | .int i, .int j => some (p i j)
  | _, _ => none
theorem u_cmpI {F : Value → Value → Sem Value} {p : Int → Int → Bool} (r : OpR X F (rI0 fun i j => .bl (p i j))) : UCm X F (cmpI p) := by
  intro pins s σ H x y v u Q I rx ry ⟨B, d1, d2, o, sub, w1, w2, e, k⟩
  unfold cmpI at e
  split at e
  · cases e; cases rw_int w1; cases rw_int w2
    exact r pins s σ H _ _ v u Q I rx ry ⟨_, _, rfl, rfl, k⟩
  · cases e
abbrev ltB := cmpI fun i j => decide (i < j)
abbrev leB := cmpI fun i j => decide (i ≤ j)
abbrev gtB := cmpI fun i j => decide (j < i)
abbrev geB := cmpI fun i j => decide (j ≤ i)
theorem u_lt : UCm X (compareOp .Lt) ltB := u_cmpI op_lt
theorem u_le : UCm X (compareOp .LtE) leB := u_cmpI op_le
theorem u_gt : UCm X (compareOp .Gt) gtB := u_cmpI op_gt
theorem u_ge : UCm X (compareOp .GtE) geB := u_cmpI op_ge

def scalD : D → D → Option Bool
  | .non, .non => some true | .non, .int _ => some false | .int _, .non => some false
  | .non, .bl _ => some false | .bl _, .non => some false | .non, .str _ => some false | .str _, .non => some false
  | .int i, .int j => some (decide (i = j)) | .bl i, .bl j => some (decide (i = j)) | .str i, .str j => some (decide (i = j))
  | .int _, .str _ => some false | .str _, .int _ => some false | .bl _, .str _ => some false | .str _, .bl _ => some false
  | _, _ => none
mutual
def toPy : D → Option PyData
  | .non => some .none
  | .bl b => some (.bool b)
  | .int i => some (.int i)
  | .str x => some (.str x)
  | .tup ds => (toPys ds).map .tuple
  | .lst ds => (toPys ds).map .list
  | _ => none
def toPys : List D → Option (List PyData)
  | [] => some []
  | d :: ds => (toPy d).bind fun x => (toPys ds).map (x :: ·)
end
section topy
variable {G : Gx} {B H : Hp} (sub : Same B H)
include sub
mutual
theorem dp_of : ∀ {d : D} {p : PyData} {v : V}, RepD G B d v → toPy d = some p → Dp G.K H v p
  | .non, p, v, r, e => by simp only [toPy, Option.some.injEq] at e; subst e; simp only [RepD] at r; subst r; exact .non
  | .bl b, p, v, r, e => by simp only [toPy, Option.some.injEq] at e; subst e; simp only [RepD] at r; subst r; exact .bl b
  | .int b, p, v, r, e => by simp only [toPy, Option.some.injEq] at e; subst e; simp only [RepD] at r; subst r; exact .int b
  | .str b, p, v, r, e => by simp only [toPy, Option.some.injEq] at e; subst e; simp only [RepD] at r; subst r; exact .str b
  | .tup ds, p, v, r, e => by
    simp only [toPy, Option.map_eq_some_iff] at e
    obtain ⟨ps, e1, rfl⟩ := e
    simp only [RepD] at r
    obtain ⟨a, vs, rfl, h1, h2⟩ := r
    exact .tup (Same.sqT sub h1) (dps_of h2 e1)
  | .lst ds, p, v, r, e => by
    simp only [toPy, Option.map_eq_some_iff] at e
    obtain ⟨ps, e1, rfl⟩ := e
    simp only [RepD] at r
    obtain ⟨a, vs, rfl, h1, h2⟩ := r
    exact .lst (SqL.of (sub _ _ h1)) (dps_of h2 e1)
  | .dic _, p, v, r, e => by simp [toPy] at e
  | .obj _ _, p, v, r, e => by simp [toPy] at e
  | .scr _, p, v, r, e => by simp [toPy] at e
theorem dps_of : ∀ {ds : List D} {ps : List PyData} {vs : List V}, RepDs G B ds vs → toPys ds = some ps → DpAll G.K H vs ps
  | [], ps, vs, r, e => by simp only [toPys, Option.some.injEq] at e; subst e; simp only [RepDs] at r; subst r; exact .nil
  | d :: ds, ps, vs, r, e => by
    simp only [toPys] at e
    obtain ⟨x, e1, e2⟩ := Option.bind_eq_some_iff.mp e
    obtain ⟨y, e3, rfl⟩ := Option.map_eq_some_iff.mp e2
    simp only [RepDs] at r
    obtain ⟨v, t, rfl, h1, h2⟩ := r
    exact .cons (dp_of h1 e1) (dps_of h2 e3)
end
end topy
theorem dpw_of {G : Gx} {B H : Hp} (sub : Same B H) {d : D} {p : PyData} {v : V} (r : RepW G B H d v) (e : toPy d = some p) : Dp G.K H v p := by
  cases d with
  | lst ds =>
    simp only [toPy, Option.map_eq_some_iff] at e
    obtain ⟨ps, e1, rfl⟩ := e
    obtain ⟨a, vs, rfl, h1, h2⟩ := r
    exact .lst (SqL.of h1) (dps_of sub h2 e1)
  | dic ds => simp [toPy] at e
  | obj _ _ => simp [toPy] at e
  | _ => exact dp_of sub r e
def eqB (d e : D) : Option Bool := match scalD d e with
  | some b => some b
  | none => (toPy d).bind fun x => (toPy e).bind fun y => if SeqAt.shaped x = true ∧ SeqAt.shaped y = true then some (PyData.eqv x y) else none
def neB (d e : D) : Option Bool := (eqB d e).map (! ·)
theorem scal_of {G : Gx} {B H : Hp} {d e : D} {x y : V} {b : Bool} (h : scalD d e = some b) (w1 : RepW G B H d x) (w2 : RepW G B H e y) : scal x y = true ∧ decide (x = y) = b := by
  unfold scalD at h
  split at h <;> first
    | (cases h; simp only [RepW, RepD] at w1 w2; subst w1 w2; exact ⟨rfl, by simp⟩)
    | (cases h)
theorem u_eq (hu : X.A.units + 64 < cLine) : UCm X (compareOp .Eq) eqB := by
  intro pins s σ H x y v u Q I rx ry ⟨B, d1, d2, o, sub, w1, w2, e, k⟩
  unfold eqB at e
  split at e
  · rename_i b hb
    cases e
    obtain ⟨h1, h2⟩ := scal_of hb w1 w2
    exact op_eq pins s σ H _ _ v u Q I rx ry ⟨h1, by rw [h2]; exact k⟩
  · obtain ⟨p, e1, e⟩ := Option.bind_eq_some_iff.mp e
    obtain ⟨q, e2, e⟩ := Option.bind_eq_some_iff.mp e
    obtain ⟨⟨s1, s2⟩, rfl⟩ := if_some e
    exact op_eqD hu pins s σ H _ _ v u Q I rx ry ⟨p, q, dpw_of sub w1 e1, dpw_of sub w2 e2, s1, s2, k⟩
theorem u_ne (hu : X.A.units + 64 < cLine) : UCm X (compareOp .NotEq) neB := by
  intro pins s σ H x y v u Q I rx ry ⟨B, d1, d2, o, sub, w1, w2, e0, k⟩
  obtain ⟨o, e, rfl⟩ := Option.map_eq_some_iff.mp e0
  unfold eqB at e
  split at e
  · rename_i b hb
    cases e
    obtain ⟨h1, h2⟩ := scal_of hb w1 w2
    exact op_ne pins s σ H _ _ v u Q I rx ry ⟨h1, by rw [h2]; exact k⟩
  · obtain ⟨p, e1, e⟩ := Option.bind_eq_some_iff.mp e
    obtain ⟨q, e2, e⟩ := Option.bind_eq_some_iff.mp e
    obtain ⟨⟨s1, s2⟩, rfl⟩ := if_some e
    exact op_neD hu pins s σ H _ _ v u Q I rx ry ⟨p, q, dpw_of sub w1 e1, dpw_of sub w2 e2, s1, s2, k⟩

/-- is None, is True, is False -/
def isNon : D → Bool
  | .non => true
  | _ => false
def isO (d e : D) : Option Bool := match e with
  | .non => some (isNon d)
  | .bl b => match d with
    | .bl a => some (a == b)
    | _ => none
  | _ => none
def isNotO (d e : D) : Option Bool := (isO d e).map (! ·)
theorem rep_non {G : Gx} {B H : Hp} {d : D} {v : V} (h : RepW G B H d v) : decide (v = .non) = isNon d := by
  cases d <;> simp only [RepW, RepD] at h
  case lst ds => obtain ⟨a, vs, rfl, _⟩ := h; simp [isNon]
  case tup ds => obtain ⟨a, vs, rfl, _⟩ := h; simp [isNon]
  case dic ds => obtain ⟨a, vs, rfl, _⟩ := h; simp [isNon]
  case obj ds => obtain ⟨a, C, dx, vs, rfl, _⟩ := h; simp [isNon]
  case scr ds => obtain ⟨a, rfl, _⟩ := h; simp [isNon]
  all_goals subst h; simp [isNon]
theorem u_is : UCm X (compareOp .Is) isO := by
  intro pins s σ H x y v u Q I rx ry ⟨B, d1, d2, o, sub, w1, w2, e, k⟩
  have h := rep_non w1
  unfold isO at e
  split at e
  · cases e; cases rw_non w2
    exact op_isN pins s σ H _ _ v u Q I rx ry ⟨rfl, by rw [h]; exact k⟩
  · split at e
    · cases e; cases rw_bl w1; cases rw_bl w2
      cases rx; cases ry
      exact is_bool ⟨.bl _, H, I, rfl, k⟩
    · cases e
  · cases e
theorem u_isnot : UCm X (compareOp .IsNot) isNotO := by
  intro pins s σ H x y v u Q I rx ry ⟨B, d1, d2, o, sub, w1, w2, e0, k⟩
  obtain ⟨o, e, rfl⟩ := Option.map_eq_some_iff.mp e0
  have h := rep_non w1
  unfold isO at e
  split at e
  · cases e; cases rw_non w2
    exact op_notN pins s σ H _ _ v u Q I rx ry ⟨rfl, by rw [h]; exact k⟩
  · split at e
    · cases e; cases rw_bl w1; cases rw_bl w2
      cases rx; cases ry
      exact isnot_bool ⟨.bl _, H, I, rfl, k⟩
    · cases e
  · cases e

/-! ### in -/
def eqF : D → D → Option Bool
  | .non, .non => some true | .non, .bl _ => some false | .non, .int _ => some false | .non, .str _ => some false
  | .bl a, .bl b => some (a == b) | .bl _, .non => some false | .bl _, .str _ => some false
  | .int a, .int b => some (a == b) | .int _, .non => some false | .int _, .str _ => some false
  | .str a, .str b => some (a == b) | .str _, .non => some false | .str _, .bl _ => some false | .str _, .int _ => some false
  | _, _ => none
def inF (x : D) : List D → Option Bool
  | [] => some false
  | d :: ds => (eqF d x).bind fun b => (inF x ds).map fun c => b || c
def inO : D → D → Option Bool
  | x, .lst ds => inF x ds
  | x, .tup ds => inF x ds
  | .str x, .str y => some (!(Builtin.Str.occurrences y x 0 y.length 1).isEmpty)
  | _, _ => none
def ninO (d e : D) : Option Bool := (inO d e).map (! ·)
theorem eqF_of {G : Gx} {B H : Hp} {d x : D} {v y : V} {b : Bool} (h : eqF d x = some b) (r : RepD G B d v) (w : RepW G B H x y) : flatV v = true ∧ flatV y = true ∧ eqV v y = b := by
  unfold eqF at h
  split at h <;> first
    | (cases h; simp only [RepW, RepD] at r w; subst r w; exact ⟨rfl, rfl, rfl⟩)
    | (cases h)
theorem inF_of {G : Gx} {B H : Hp} {x : D} {y : V} (w : RepW G B H x y) : ∀ {ds : List D} {vs : List V} {b : Bool}, inF x ds = some b → RepDs G B ds vs → vs.all flatV = true ∧ inV y vs = b ∧ (ds ≠ [] → flatV y = true)
  | [], vs, b, h, r => by simp only [inF, Option.some.injEq] at h; simp only [RepDs] at r; subst h r; exact ⟨rfl, rfl, fun z => absurd rfl z⟩
  | d :: ds, vs, b, h, r => by
    simp only [inF] at h
    obtain ⟨c, e1, e2⟩ := Option.bind_eq_some_iff.mp h
    obtain ⟨c', e3, rfl⟩ := Option.map_eq_some_iff.mp e2
    simp only [RepDs] at r
    obtain ⟨v, t, rfl, h1, h2⟩ := r
    obtain ⟨f1, f2, f3⟩ := eqF_of e1 h1 w
    obtain ⟨k1, k2, _⟩ := inF_of w e3 h2
    refine ⟨by simp [f1, k1], ?_, fun _ => f2⟩
    unfold inV at k2 ⊢
    rw [List.any_cons, f3, k2]
def flatD : D → Bool
  | .non => true | .bl _ => true | .int _ => true | .str _ => true | _ => false
theorem flatD_of {G : Gx} {B H : Hp} {x : D} {y : V} (w : RepW G B H x y) (h : flatD x = true) : flatV y = true := by
  cases x <;> simp only [flatD, Bool.false_eq_true] at h <;> (simp only [RepW, RepD] at w; subst w; rfl)
def inS (d e : D) : Option Bool := if flatD d = true then inO d e else none
def ninS (d e : D) : Option Bool := (inS d e).map (! ·)
theorem u_in : UCm X (compareOp .In) inS := by
  intro pins s σ H x y v u Q I rx ry ⟨B, d1, d2, o, sub, w1, w2, e, k⟩
  unfold inS at e
  split at e
  · rename_i hf
    have hy := flatD_of w1 hf
    unfold inO at e
    split at e
    · obtain ⟨a, vs, rfl, h1, h2⟩ := w2
      obtain ⟨k1, k2, _⟩ := inF_of w1 e h2
      exact op_in_seq pins s σ H _ _ v u Q I rx ry ⟨a, vs, rfl, .inl (SqL.of h1), hy, k1, by simp only [k2]; exact k⟩
    · obtain ⟨a, vs, rfl, _, h1, h2⟩ := rw_tup sub w2
      obtain ⟨k1, k2, _⟩ := inF_of w1 e h2
      exact op_in_seq pins s σ H _ _ v u Q I rx ry ⟨a, vs, rfl, .inr h1, hy, k1, by simp only [k2]; exact k⟩
    · cases e; cases rw_str w1; cases rw_str w2
      exact op_in_str pins s σ H _ _ v u Q I rx ry ⟨_, _, rfl, rfl, k⟩
    · cases e
  · cases e
theorem u_nin : UCm X (compareOp .NotIn) ninS := by
  intro pins s σ H x y v u Q I rx ry ⟨B, d1, d2, o, sub, w1, w2, e0, k⟩
  obtain ⟨o, e, rfl⟩ := Option.map_eq_some_iff.mp e0
  unfold inS at e
  split at e
  · rename_i hf
    have hy := flatD_of w1 hf
    unfold inO at e
    split at e
    · obtain ⟨a, vs, rfl, h1, h2⟩ := w2
      obtain ⟨k1, k2, _⟩ := inF_of w1 e h2
      exact op_notIn_seq pins s σ H _ _ v u Q I rx ry ⟨a, vs, rfl, .inl (SqL.of h1), hy, k1, by simp only [k2]; exact k⟩
    · obtain ⟨a, vs, rfl, _, h1, h2⟩ := rw_tup sub w2
      obtain ⟨k1, k2, _⟩ := inF_of w1 e h2
      exact op_notIn_seq pins s σ H _ _ v u Q I rx ry ⟨a, vs, rfl, .inr h1, hy, k1, by simp only [k2]; exact k⟩
    · cases e; cases rw_str w1; cases rw_str w2
      exact op_notin_str pins s σ H _ _ v u Q I rx ry ⟨_, _, rfl, rfl, k⟩
    · cases e
  · cases e

/-! ### xs[i] -/
def ixD : D → D → Option D
  | .lst ds, .int i => atI ds i
  | .tup ds, .int i => atI ds i
  | .scr ns, .int i => (atI ns i).map D.int
  | _, _ => none
def ix (ga gi : PF) : PF := fun ρ => (ga ρ).bind fun x => (gi ρ).bind fun y => ixD x y
def rI2 (G : Gx) (f : D → D → Option D) : R2 := fun x y H Q => ∃ B d1 d2 d, Same B H ∧ RepW G B H d1 x ∧ RepW G B H d2 y ∧ f d1 d2 = some d ∧ ∀ v, RepD G B d v → Q v H
theorem atI_len {A C : Type} {xs : List A} {ys : List C} {i : Int} (h : ys.length = xs.length) {x : A} (e : atI xs i = some x) : ∃ j : Nat, xs[j]? = some x ∧ ∀ y, ys[j]? = some y → atI ys i = some y := by
  unfold atI at e ⊢
  obtain ⟨j, e1, e2⟩ := Option.bind_eq_some_iff.mp e
  exact ⟨j, e2, fun y q => by rw [h, e1]; exact q⟩
theorem atI_rep {G : Gx} {B : Hp} {ds : List D} {vs : List V} {i : Int} {d : D} (r : RepDs G B ds vs) (e : atI ds i = some d) : ∃ v, atI vs i = some v ∧ RepD G B d v := by
  obtain ⟨j, e1, e2⟩ := atI_len r.length e
  obtain ⟨v, h1, h2⟩ := r.get e1
  exact ⟨v, e2 v h1, h2⟩
theorem u_ixL : IxR X (rI2 (gx X) ixD) := by
  intro value slice pins s σ H x y v u Q I rx ry ⟨B, d1, d2, d, sub, w1, w2, e, k⟩ hs
  unfold ixD at e
  split at e
  · cases rw_int w2
    obtain ⟨a, vs, rfl, h1, h2⟩ := w1
    obtain ⟨z, e1, e2⟩ := atI_rep h2 e
    exact ix_list value slice pins s σ H _ _ v u Q I rx ry ⟨a, vs, _, z, rfl, rfl, SqL.of h1, e1, k z e2⟩ hs
  · cases rw_int w2
    obtain ⟨a, vs, rfl, _, h1, h2⟩ := rw_tup sub w1
    obtain ⟨z, e1, e2⟩ := atI_rep h2 e
    exact ix_tup value slice pins s σ H _ _ v u Q I rx ry ⟨a, vs, _, z, rfl, rfl, h1, e1, k z e2⟩ hs
  · cases rw_int w2
    rename_i ns i
    obtain ⟨n, e1, rfl⟩ := Option.map_eq_some_iff.mp e
    simp only [RepW, RepD] at w1
    obtain ⟨a, rfl, h1⟩ := w1
    obtain ⟨j, e2, e3⟩ := atI_len (ys := ns.map V.int) (by simp) e1
    exact ix_list value slice pins s σ H _ _ v u Q I rx ry ⟨a, ns.map V.int, _, .int n, rfl, rfl, Same.sqL sub h1, e3 _ (by simp [e2]), k _ rfl⟩ hs
  · cases e
theorem qd_ix {a b : Expr} {ga gb : PF} {pos : Pos} (ha : QW X a ga) (hb : QW X b gb) (hs : PlainIx b := by exact fun _ _ => rfl) : QD X (.Subscript a b pos) (ix ga gb) := pe_imp (pe_ix u_ixL ha hb hs) fun σ H Q ⟨ρ, B, As, o, R, e, k⟩ => by
  obtain ⟨x, y, e1, e2, e3⟩ := two e
  exact ⟨ρ, B, As, x, R, e1, fun v1 B1 H1 g1 w1 => ⟨ρ, B1, As, y, R.grow g1, e2, fun v2 B2 H2 g2 w2 => ⟨B2, x, y, o, g2.sub, w1.grow g2, w2, e3, fun v r => k v B2 H2 (g1.trans g2) r⟩⟩⟩
def ixS : D → D → Option D
  | .str x, .int i => if 0 ≤ i ∧ i < 2 ^ 63 ∧ i < x.length then (x.cps[i.toNat]?).map fun c => .str ⟨#[c]⟩ else none
  | _, _ => none
def ixs (ga gi : PF) : PF := fun ρ => (ga ρ).bind fun x => (gi ρ).bind fun y => ixS x y
theorem qd_ixs {a b : Expr} {ga gb : PF} {pos : Pos} (ha : QW X a ga) (hb : QW X b gb) (hs : PlainIxT b := by exact fun _ _ => rfl) : QD X (.Subscript a b pos) (ixs ga gb) := pe_imp (pe_item_str ha hb hs) fun σ H Q ⟨ρ, B, As, o, R, e, k⟩ => by
  obtain ⟨x, y, e1, e2, e3⟩ := two e
  refine ⟨ρ, B, As, x, R, e1, fun v1 B1 H1 g1 w1 => ⟨ρ, B1, As, y, R.grow g1, e2, fun v2 B2 H2 g2 w2 => ?_⟩⟩
  unfold ixS at e3
  split at e3
  · split at e3
    · rename_i hc
      obtain ⟨c, e4, rfl⟩ := Option.map_eq_some_iff.mp e3
      cases rw_str w1; cases rw_int w2
      exact ⟨_, _, c, rfl, rfl, hc.1, hc.2.1, hc.2.2, e4, k _ B2 H2 (g1.trans g2) rfl⟩
    · cases e3
  · cases e3
end Q

namespace Q
open PySem PySem.Spec PyProof.Rows L2

/-! ### argument lists -/
def evs : List PF → Ev → Option (List D)
  | [], _ => some []
  | g :: gs, ρ => (g ρ).bind fun d => (evs gs ρ).map (d :: ·)
def RepWs (G : Gx) (B H : Hp) : List D → List V → Prop
  | [], vs => vs = []
  | d :: ds, vs => ∃ v r, vs = v :: r ∧ RepW G B H d v ∧ RepWs G B H ds r
def tWs (G : Gx) (gs : List PF) : TA := fun σ H Q => ∃ ρ B As ds, Rel G B H σ ρ As ∧ evs gs ρ = some ds ∧ ∀ vs B' H', Grow B H B' H' → RepWs G B' H' ds vs → Q vs H'
def tDs (G : Gx) (gs : List PF) : TA := fun σ H Q => ∃ ρ B As ds, Rel G B H σ ρ As ∧ evs gs ρ = some ds ∧ ∀ vs B' H', Grow B H B' H' → RepDs G B' ds vs → Q vs H'
abbrev QWs (X : Cx) (es : List Expr) (gs : List PF) : Prop := PA X es (tWs (gx X) gs)
abbrev QDs (X : Cx) (es : List Expr) (gs : List PF) : Prop := PA X es (tDs (gx X) gs)
theorem evs_len : ∀ {gs : List PF} {ρ : Ev} {ds : List D}, evs gs ρ = some ds → ds.length = gs.length
  | [], ρ, ds, h => by simp only [evs, Option.some.injEq] at h; subst h; rfl
  | g :: gs, ρ, ds, h => by
    simp only [evs] at h
    obtain ⟨d, e1, e2⟩ := Option.bind_eq_some_iff.mp h
    obtain ⟨r, e3, rfl⟩ := Option.map_eq_some_iff.mp e2
    simp [evs_len e3]
section args
variable {X : Cx} {e : Expr} {es : List Expr} {g : PF} {gs : List PF}
theorem qws_nil : QWs X [] [] := pa_imp pa_nil fun σ H Q ⟨ρ, B, As, ds, R, e, k⟩ => by
  simp only [evs, Option.some.injEq] at e; subst e; exact k [] B H (.refl R.sub) rfl
theorem qds_nil : QDs X [] [] := pa_imp pa_nil fun σ H Q ⟨ρ, B, As, ds, R, e, k⟩ => by
  simp only [evs, Option.some.injEq] at e; subst e; exact k [] B H (.refl R.sub) rfl
theorem qws_cons (h : QW X e g) (t : QWs X es gs) (hs : starEach (e :: es) X.env = (false, eval e X.env) :: starEach es X.env := by rfl) : QWs X (e :: es) (g :: gs) := pa_imp (pa_cons h t hs) fun σ H Q ⟨ρ, B, As, ds, R, e, k⟩ => by
  simp only [evs] at e
  obtain ⟨d, e1, e2⟩ := Option.bind_eq_some_iff.mp e
  obtain ⟨r, e3, rfl⟩ := Option.map_eq_some_iff.mp e2
  exact ⟨ρ, B, As, d, R, e1, fun v B1 H1 g1 w1 => ⟨ρ, B1, As, r, R.grow g1, e3, fun vs B2 H2 g2 w2 => k (v :: vs) B2 H2 (g1.trans g2) ⟨v, vs, rfl, w1.grow g2, w2⟩⟩⟩
theorem qds_cons (h : QD X e g) (t : QDs X es gs) (hs : starEach (e :: es) X.env = (false, eval e X.env) :: starEach es X.env := by rfl) : QDs X (e :: es) (g :: gs) := pa_imp (pa_cons h t hs) fun σ H Q ⟨ρ, B, As, ds, R, e, k⟩ => by
  simp only [evs] at e
  obtain ⟨d, e1, e2⟩ := Option.bind_eq_some_iff.mp e
  obtain ⟨r, e3, rfl⟩ := Option.map_eq_some_iff.mp e2
  exact ⟨ρ, B, As, d, R, e1, fun v B1 H1 g1 w1 => ⟨ρ, B1, As, r, R.grow g1, e3, fun vs B2 H2 g2 w2 => k (v :: vs) B2 H2 (g1.trans g2) ⟨v, vs, rfl, w1.mono g2.bb, w2⟩⟩⟩
end args

/-! ### displays -/
section disp
variable {X : Cx} {es : List Expr} {gs : List PF} {pos : Pos}
def tupF (gs : List PF) : PF := fun ρ => (evs gs ρ).map .tup
def lstN (gs : List PF) : NF := fun ρ => (evs gs ρ).map .ls
theorem qd_tup {x1} (h : QDs X es gs) (hl : gs.length ≤ 1000 := by decide) : QD X (.Tuple es x1 pos) (tupF gs) := pe_imp (pe_tup h) fun σ H Q ⟨ρ, B, As, d, R, e, k⟩ => by
  obtain ⟨ds, e1, rfl⟩ := Option.map_eq_some_iff.mp e
  refine ⟨ρ, B, As, ds, R, e1, fun vs B1 H1 g1 w1 => ⟨?_, fun p hp => ?_⟩⟩
  · rw [w1.length, evs_len e1]; exact Nat.le_of_lt (small1000 hl)
  · have f := Fresh.tup g1.sub hp w1
    exact k _ _ _ (g1.trans f.g) (by have := f.rep; simp only [RepO] at this; exact this.2)
theorem qn_lst (h : QDs X es gs) (hl : gs.length ≤ 1000 := by decide) : QN X (.List es pos) (lstN gs) := pe_imp (pe_lst h) fun σ H Q ⟨ρ, B, As, d, R, e, k⟩ => by
  obtain ⟨ds, e1, rfl⟩ := Option.map_eq_some_iff.mp e
  refine ⟨ρ, B, As, ds, R, e1, fun vs B1 H1 g1 w1 => ⟨?_, fun p hp => ?_⟩⟩
  · rw [w1.length, evs_len e1]; exact Nat.le_of_lt (small1000 hl)
  · exact k _ _ _ _ ((Fresh.lst g1.sub hp w1).behind g1)
end disp

/-! ### built-in calls -/
def rCall (G : Gx) (f : List D → Option O) : List V → Hp → VK → Prop := fun xs H Q => ∃ B ds o, Same B H ∧ RepWs G B H ds xs ∧ f ds = some o ∧ ∀ v B' H' own, Fresh G B H B' H' o v own → Q v H'
abbrev UCall (X : Cx) (F : Value) (f : List D → Option O) : Prop := CallR X F (rCall (gx X) f)
def calN (f : List D → Option O) (gs : List PF) : NF := fun ρ => (evs gs ρ).bind f
section calls
variable {X : Cx} {e : Expr} {es : List Expr} {gs : List PF} {pos p : Pos} {id T : String} {x : Str} {f : List D → Option O}
theorem call_of {G : Gx} {σ : L2.St} {H : Hp} {Q : VK} (h : tN G (calN f gs) σ H Q) : tCB (rCall G f) (tWs G gs) σ H Q := by
  obtain ⟨ρ, B, As, o, R, e, k⟩ := h
  obtain ⟨ds, e1, e2⟩ := Option.bind_eq_some_iff.mp e
  exact ⟨ρ, B, As, ds, R, e1, fun vs B1 H1 g1 w1 => ⟨B1, ds, o, g1.sub, w1, e2, fun v B2 H2 own fr => k v B2 H2 own (fr.behind g1)⟩⟩
theorem qn_callB (u : UCall X (.builtin id) f) (hg : Gl X x) (hm : X.mg x = none) (hv : bootBuiltins x = some (.builtin id)) (ha : QWs X (e :: es) gs) (hn : x ≠ "__name__" := by decide) (hdb : (x == ("__debug__" : Str)) = false := by decide)
    (he : starEach (e :: es) X.env = (false, eval e X.env) :: starEach es X.env := by rfl) (hpl : (backTo pos (starEach es X.env)).any (·.1) = false := by rfl) : QN X (.Call (.Name x p) (e :: es) [] pos) (calN f gs) :=
  pe_imp (pe_callB u hg hm hv ha hn hdb he hpl) fun _ _ _ h => call_of h
theorem qn_callTy (u : UCall X (.type T) f) (hg : Gl X x) (hm : X.mg x = none) (hv : bootBuiltins x = some (.type T)) (ha : QWs X (e :: es) gs) (hn : x ≠ "__name__" := by decide) (hdb : (x == ("__debug__" : Str)) = false := by decide)
    (he : starEach (e :: es) X.env = (false, eval e X.env) :: starEach es X.env := by rfl) (hpl : (backTo pos (starEach es X.env)).any (·.1) = false := by rfl) : QN X (.Call (.Name x p) (e :: es) [] pos) (calN f gs) :=
  pe_imp (pe_callTy u hg hm hv ha hn hdb he hpl) fun _ _ _ h => call_of h
theorem RepWs.one {G : Gx} {B H : Hp} {d : D} {vs : List V} (h : RepWs G B H [d] vs) : ∃ v, vs = [v] ∧ RepW G B H d v := by
  obtain ⟨v, r, rfl, h1, h2⟩ := h
  simp only [RepWs] at h2; subst h2
  exact ⟨v, rfl, h1⟩
theorem RepWs.two {G : Gx} {B H : Hp} {d d' : D} {vs : List V} (h : RepWs G B H [d, d'] vs) : ∃ v w, vs = [v, w] ∧ RepW G B H d v ∧ RepW G B H d' w := by
  obtain ⟨v, r, rfl, h1, h2⟩ := h
  obtain ⟨w, rfl, h3⟩ := RepWs.one h2
  exact ⟨v, w, rfl, h1, h3⟩
def lenO : List D → Option O
  | [.lst ds] => some (.fz (.int ds.length))
  | [.tup ds] => some (.fz (.int ds.length))
  | [.scr ns] => some (.fz (.int ns.length))
  | [.dic ds] => some (.fz (.int ds.length))
  | [.str x] => if x.length ≤ sizeLine then some (.fz (.int x.length)) else none
  | _ => none
theorem u_len : UCall X (.builtin "len") lenO := by
  intro pins s σ H xs us Q I r ⟨B, ds, o, sub, w, e, k⟩
  unfold lenO at e
  split at e
  · cases e; obtain ⟨v, rfl, a, vs, rfl, h1, h2⟩ := w.one
    exact call_len_seq pins s σ H _ us Q I r ⟨a, vs, rfl, .inl (SqL.of h1), by rw [h2.length]; exact k _ B H [] (.val sub rfl)⟩
  · cases e; obtain ⟨v, rfl, h⟩ := w.one
    obtain ⟨a, vs, rfl, _, h1, h2⟩ := rw_tup sub h
    exact call_len_seq pins s σ H _ us Q I r ⟨a, vs, rfl, .inr h1, by rw [h2.length]; exact k _ B H [] (.val sub rfl)⟩
  · cases e; obtain ⟨v, rfl, h⟩ := w.one
    simp only [RepW, RepD] at h
    obtain ⟨a, rfl, h1⟩ := h
    exact call_len_seq pins s σ H _ us Q I r ⟨a, _, rfl, .inl (Same.sqL sub h1), by rw [List.length_map]; exact k _ B H [] (.val sub rfl)⟩
  · cases e; obtain ⟨v, rfl, a, vs, rfl, h1, h2⟩ := w.one
    exact call_lenD pins s σ H _ us Q I r ⟨a, vs, rfl, h1, by rw [h2.length]; exact k _ B H [] (.val sub rfl)⟩
  · obtain ⟨hz, rfl⟩ := if_some e; obtain ⟨v, rfl, h⟩ := w.one
    cases rw_str h
    exact call_len_str pins s σ H _ us Q I r ⟨_, rfl, hz, k _ B H [] (.val sub rfl)⟩
  · cases e
def intC : List D → Option O
  | [.int i] => some (.fz (.int i))
  | [.bl b] => some (.fz (.int (if b then 1 else 0)))
  | _ => none
theorem u_int1 : UCall X (.type "int") intC := by
  intro pins s σ H xs us Q I r ⟨B, ds, o, sub, w, e, k⟩
  unfold intC at e
  split at e
  · cases e; obtain ⟨v, rfl, h⟩ := w.one
    cases rw_int h
    exact call_int1 pins s σ H _ us Q I r (.inl ⟨_, rfl, k _ B H [] (.val sub rfl)⟩)
  · cases e; obtain ⟨v, rfl, h⟩ := w.one
    cases rw_bl h
    exact call_int1 pins s σ H _ us Q I r (.inr ⟨_, rfl, k _ B H [] (.val sub rfl)⟩)
  · cases e
def strC : List D → Option O
  | [.int i] => if i.natAbs.log2 < 1920 then some (.fz (.str (toString i))) else none
  | _ => none
theorem u_str1 : UCall X (.type "str") strC := by
  intro pins s σ H xs us Q I r ⟨B, ds, o, sub, w, e, k⟩
  unfold strC at e
  split at e
  · obtain ⟨hz, rfl⟩ := if_some e; obtain ⟨v, rfl, h⟩ := w.one
    cases rw_int h
    exact call_str_int pins s σ H _ us Q I r ⟨_, rfl, hz, k _ B H [] (.val sub rfl)⟩
  · cases e
def listC : List D → Option O
  | [.lst ds] => some (.ls ds)
  | [.tup ds] => some (.ls ds)
  | _ => none
theorem u_list : UCall X (.type "list") listC := by
  intro pins s σ H xs us Q I r ⟨B, ds, o, sub, w, e, k⟩
  unfold listC at e
  split at e
  · cases e; obtain ⟨v, rfl, a, vs, rfl, h1, h2⟩ := w.one
    exact call_list_of pins s σ H _ us Q I r ⟨a, vs, rfl, .inl (SqL.of h1), fun l hl => k _ _ _ _ (.lst sub hl h2)⟩
  · cases e; obtain ⟨v, rfl, h⟩ := w.one
    obtain ⟨a, vs, rfl, _, h1, h2⟩ := rw_tup sub h
    exact call_list_of pins s σ H _ us Q I r ⟨a, vs, rfl, .inr h1, fun l hl => k _ _ _ _ (.lst sub hl h2)⟩
  · cases e
def tupleC : List D → Option O
  | [.lst ds] => some (.fz (.tup ds))
  | [.tup ds] => some (.fz (.tup ds))
  | _ => none
theorem u_tuple : UCall X (.type "tuple") tupleC := by
  intro pins s σ H xs us Q I r ⟨B, ds, o, sub, w, e, k⟩
  unfold tupleC at e
  split at e
  · cases e; obtain ⟨v, rfl, a, vs, rfl, h1, h2⟩ := w.one
    exact call_tuple_of pins s σ H _ us Q I r ⟨a, vs, rfl, .inl ⟨SqL.of h1, fun l hl => k _ _ _ _ (.tup sub hl h2)⟩⟩
  · cases e; obtain ⟨v, rfl, h⟩ := w.one
    obtain ⟨a, vs, rfl, h0, h1, h2⟩ := rw_tup sub h
    exact call_tuple_of pins s σ H _ us Q I r ⟨a, vs, rfl, .inr ⟨h1, k _ B H [] (.val sub ⟨a, vs, rfl, h0, h2⟩)⟩⟩
  · cases e
def dBls : List D → Option (List Bool)
  | [] => some []
  | .bl b :: ds => (dBls ds).map (b :: ·)
  | _ => none
def dInts : List D → Option (List Int)
  | [] => some []
  | .int b :: ds => (dInts ds).map (b :: ·)
  | _ => none
theorem dBls_eq : ∀ {ds : List D} {bs : List Bool}, dBls ds = some bs → ds = bs.map D.bl
  | [], bs, h => by simp only [dBls, Option.some.injEq] at h; subst h; rfl
  | d :: ds, bs, h => by
    cases d <;> simp only [dBls, Option.map_eq_some_iff, reduceCtorEq] at h
    obtain ⟨r, e1, rfl⟩ := h
    rw [dBls_eq e1]; rfl
theorem dInts_eq : ∀ {ds : List D} {bs : List Int}, dInts ds = some bs → ds = bs.map D.int
  | [], bs, h => by simp only [dInts, Option.some.injEq] at h; subst h; rfl
  | d :: ds, bs, h => by
    cases d <;> simp only [dInts, Option.map_eq_some_iff, reduceCtorEq] at h
    obtain ⟨r, e1, rfl⟩ := h
    rw [dInts_eq e1]; rfl
theorem dInts_map (ns : List Int) : dInts (ns.map D.int) = some ns := by
  induction ns with
  | nil => rfl
  | cons n ns ih => simp [dInts, ih]
theorem dBls_map (ns : List Bool) : dBls (ns.map D.bl) = some ns := by
  induction ns with
  | nil => rfl
  | cons n ns ih => simp [dBls, ih]
theorem RepDs.inj_ints {G : Gx} {B : Hp} : ∀ {ns : List Int} {vs : List V}, RepDs G B (ns.map D.int) vs → vs = ns.map V.int
  | [], vs, h => by simpa only [List.map_nil, RepDs] using h
  | n :: ns, vs, h => by
    simp only [List.map_cons, RepDs, RepD] at h
    obtain ⟨v, r, rfl, rfl, h⟩ := h
    rw [RepDs.inj_ints h]; rfl
theorem RepDs.inj_bls {G : Gx} {B : Hp} : ∀ {ns : List Bool} {vs : List V}, RepDs G B (ns.map D.bl) vs → vs = ns.map V.bl
  | [], vs, h => by simpa only [List.map_nil, RepDs] using h
  | n :: ns, vs, h => by
    simp only [List.map_cons, RepDs, RepD] at h
    obtain ⟨v, r, rfl, rfl, h⟩ := h
    rw [RepDs.inj_bls h]; rfl
def allC : List D → Option O
  | [.lst ds] => (dBls ds).map fun bs => .fz (.bl (bs.all _root_.id))
  | _ => none
theorem u_all (hc : X.calm = true) : UCall X (.builtin "all") allC := by
  intro pins s σ H xs us Q I r ⟨B, ds, o, sub, w, e, k⟩
  unfold allC at e
  split at e
  · obtain ⟨bs, e1, rfl⟩ := Option.map_eq_some_iff.mp e
    obtain ⟨v, rfl, a, vs, rfl, h1, h2⟩ := w.one
    cases dBls_eq e1
    cases h2.inj_bls
    exact cr_all hc pins s σ H _ us Q I r ⟨a, bs, rfl, SqL.of h1, k _ B H [] (.val sub rfl)⟩
  · cases e
def anyC : List D → Option O
  | [.lst ds] => (dBls ds).map fun bs => .fz (.bl (bs.any _root_.id))
  | _ => none
theorem u_any (hc : X.calm = true) : UCall X (.builtin "any") anyC := by
  intro pins s σ H xs us Q I r ⟨B, ds, o, sub, w, e, k⟩
  unfold anyC at e
  split at e
  · obtain ⟨bs, e1, rfl⟩ := Option.map_eq_some_iff.mp e
    obtain ⟨v, rfl, a, vs, rfl, h1, h2⟩ := w.one
    cases dBls_eq e1
    cases h2.inj_bls
    exact cr_any hc pins s σ H _ us Q I r ⟨a, bs, rfl, SqL.of h1, k _ B H [] (.val sub rfl)⟩
  · cases e
def maxL : List Int → Int
  | [] => 0
  | n :: ns => ns.foldl max n
theorem foldl_max : ∀ (ns : List Int) (n : Int), n ≤ ns.foldl max n ∧ (∀ y ∈ ns, y ≤ ns.foldl max n) ∧ (ns.foldl max n = n ∨ ns.foldl max n ∈ ns)
  | [], n => by simp
  | m :: ns, n => by
    obtain ⟨h1, h2, h3⟩ := foldl_max ns (max n m)
    simp only [List.foldl_cons]
    refine ⟨by omega, fun y hy => ?_, ?_⟩
    · rcases List.mem_cons.mp hy with rfl | hy
      · omega
      · exact h2 y hy
    · rcases h3 with h3 | h3
      · rw [h3]
        rcases Int.le_total n m with q | q
        · right; rw [Int.max_eq_right q]; simp
        · left; exact Int.max_eq_left q
      · right; simp [h3]
theorem maxL_spec {ns : List Int} {m : Int} (hm : m ∈ ns) (hu : ∀ y ∈ ns, y ≤ m) : m = maxL ns := by
  cases ns with
  | nil => cases hm
  | cons n ns =>
    obtain ⟨h1, h2, h3⟩ := foldl_max ns n
    show m = ns.foldl max n
    have a : ns.foldl max n ≤ m := by
      rcases h3 with h3 | h3
      · rw [h3]; exact hu n (by simp)
      · exact hu _ (by simp [h3])
    have b : m ≤ ns.foldl max n := by
      rcases List.mem_cons.mp hm with rfl | q
      · exact h1
      · exact h2 m q
    omega
def maxC : List D → Option O
  | [.lst ds] => (dInts ds).bind fun bs => if 0 < bs.length then some (.fz (.int (maxL bs))) else none
  | [.int i, .int j] => some (.fz (.int (if j > i then j else i)))
  | _ => none
theorem u_max (hc : X.calm = true) : UCall X (.builtin "max") maxC := by
  intro pins s σ H xs us Q I r ⟨B, ds, o, sub, w, e, k⟩
  unfold maxC at e
  split at e
  · obtain ⟨bs, e1, e2⟩ := Option.bind_eq_some_iff.mp e
    obtain ⟨hz, rfl⟩ := if_some e2
    obtain ⟨v, rfl, a, vs, rfl, h1, h2⟩ := w.one
    cases dInts_eq e1
    cases h2.inj_ints
    exact cr_max hc pins s σ H _ us Q I r ⟨a, bs, rfl, SqL.of h1, hz, fun m hm hu => k _ B H [] (.val sub (by rw [maxL_spec hm hu]; rfl))⟩
  · cases e
    obtain ⟨v, z, rfl, h1, h2⟩ := w.two
    cases rw_int h1; cases rw_int h2
    exact call_max2 hc pins s σ H _ us Q I r ⟨_, _, rfl, k _ B H [] (.val sub rfl)⟩
  · cases e
def minL : List Int → Int
  | [] => 0
  | n :: ns => ns.foldl min n
theorem foldl_min : ∀ (ns : List Int) (n : Int), ns.foldl min n ≤ n ∧ (∀ y ∈ ns, ns.foldl min n ≤ y) ∧ (ns.foldl min n = n ∨ ns.foldl min n ∈ ns)
  | [], n => by simp
  | m :: ns, n => by
    obtain ⟨h1, h2, h3⟩ := foldl_min ns (min n m)
    simp only [List.foldl_cons]
    refine ⟨by omega, fun y hy => ?_, ?_⟩
    · rcases List.mem_cons.mp hy with rfl | hy
      · omega
      · exact h2 y hy
    · rcases h3 with h3 | h3
      · rw [h3]
        rcases Int.le_total n m with q | q
        · left; exact Int.min_eq_left q
        · right; rw [Int.min_eq_right q]; simp
      · right; simp [h3]
theorem minL_spec {ns : List Int} {m : Int} (hm : m ∈ ns) (hu : ∀ y ∈ ns, m ≤ y) : m = minL ns := by
  cases ns with
  | nil => cases hm
  | cons n ns =>
    obtain ⟨h1, h2, h3⟩ := foldl_min ns n
    show m = ns.foldl min n
    have a : m ≤ ns.foldl min n := by
      rcases h3 with h3 | h3
      · rw [h3]; exact hu n (by simp)
      · exact hu _ (by simp [h3])
    have b : ns.foldl min n ≤ m := by
      rcases List.mem_cons.mp hm with rfl | q
      · exact h1
      · exact h2 m q
    omega
def minC : List D → Option O
  | [.lst ds] => (dInts ds).bind fun bs => if 0 < bs.length then some (.fz (.int (minL bs))) else none
  | [.int i, .int j] => some (.fz (.int (if j < i then j else i)))
  | _ => none
theorem u_min (hc : X.calm = true) : UCall X (.builtin "min") minC := by
  intro pins s σ H xs us Q I r ⟨B, ds, o, sub, w, e, k⟩
  unfold minC at e
  split at e
  · obtain ⟨bs, e1, e2⟩ := Option.bind_eq_some_iff.mp e
    obtain ⟨hz, rfl⟩ := if_some e2
    obtain ⟨v, rfl, a, vs, rfl, h1, h2⟩ := w.one
    cases dInts_eq e1
    cases h2.inj_ints
    exact cr_min hc pins s σ H _ us Q I r ⟨a, bs, rfl, SqL.of h1, hz, fun m hm hu => k _ B H [] (.val sub (by rw [minL_spec hm hu]; rfl))⟩
  · cases e
    obtain ⟨v, z, rfl, h1, h2⟩ := w.two
    cases rw_int h1; cases rw_int h2
    exact call_min2 hc pins s σ H _ us Q I r ⟨_, _, rfl, k _ B H [] (.val sub rfl)⟩
  · cases e
/-- the sorted list of dInts -/
def sortI (ns : List Int) : List Int := ns.mergeSort (fun a b => decide (a ≤ b))
theorem sortI_eq {ns ms : List Int} (hp : ms.Perm ns) (hs : ms.Pairwise (· ≤ ·)) : ms = sortI ns := by
  have p2 : (sortI ns).Perm ns := List.mergeSort_perm ns _
  have s2 : (sortI ns).Pairwise (· ≤ ·) := by
    have := List.pairwise_mergeSort (le := fun a b : Int => decide (a ≤ b)) (fun a b c h1 h2 => by simp at *; omega) (fun a b => by simp; omega) ns
    exact this.imp (fun h => by simpa using h)
  exact List.Perm.eq_of_pairwise (fun a b _ _ h1 h2 => Int.le_antisymm h1 h2) hs s2 (hp.trans p2.symm)
def sortC : List D → Option O
  | [.lst ds] => (dInts ds).map fun bs => .ls ((sortI bs).map D.int)
  | _ => none
theorem u_sorted : UCall X (.builtin "sorted") sortC := by
  intro pins s σ H xs us Q I r ⟨B, ds, o, sub, w, e, k⟩
  unfold sortC at e
  split at e
  · obtain ⟨bs, e1, rfl⟩ := Option.map_eq_some_iff.mp e
    obtain ⟨v, rfl, a, vs, rfl, h1, h2⟩ := w.one
    cases dInts_eq e1
    cases h2.inj_ints
    exact cr_sortedI pins s σ H _ us Q I r ⟨a, bs, rfl, SqL.of h1, fun ns' p hp hs hn => by
      have q := sortI_eq hp hs
      subst q
      exact k _ _ _ _ (Fresh.lst sub hn RepDs.ints)⟩
  · cases e
end calls

/-! ### isinstance -/
def tyN : D → Option String
  | .non => some "NoneType" | .bl _ => some "bool" | .int _ => some "int" | .str _ => some "str" | .tup _ => some "tuple" | .lst _ => some "list" | .dic _ => some "dict" | .scr _ => none | .obj _ _ => none
def subT (t T : String) : Option Bool :=
  if T ∈ ["bool", "int", "str", "tuple", "list", "dict"] then some (t == T || (t == "bool" && T == "int")) else none
def isiB (T : String) (g : PF) : BF := fun ρ => (g ρ).bind fun d => (tyN d).bind fun t => subT t T
theorem kit_of {K : PySem.W.Frag} {t T : String} {b : Bool} (ht : t ∈ ["NoneType", "bool", "int", "str", "tuple", "list", "dict"]) (h : subT t T = some b) : PySem.W.kitOne K (.type t) (.type T) = some b := by
  unfold subT at h
  split at h
  · rename_i hT
    simp only [List.mem_cons, List.not_mem_nil, or_false] at ht hT
    rcases ht with rfl | rfl | rfl | rfl | rfl | rfl | rfl <;> rcases hT with rfl | rfl | rfl | rfl | rfl | rfl <;> (cases h; rfl)
  · cases h
section isi
variable {X : Cx} {e : Expr} {g : PF} {pos p p2 : Pos} {T : String} {xT : Str}
theorem qd_isi (hg : Gl X "isinstance") (hm : X.mg "isinstance" = none) (hgT : Gl X xT) (hmT : X.mg xT = none) (hv : bootBuiltins xT = some (.type T)) (ha : QW X e g) (hn : xT ≠ "__name__" := by decide) (hdb : (xT == ("__debug__" : Str)) = false := by decide)
    (hs2 : starEach [e, .Name xT p2] X.env = (false, eval e X.env) :: starEach [.Name xT p2] X.env := by rfl) (hpl : (backTo pos (starEach [.Name xT p2] X.env)).any (·.1) = false := by rfl) :
    QD X (.Call (.Name "isinstance" p) [e, .Name xT p2] [] pos) (asB (isiB T g)) := by
  have hb : bootBuiltins "isinstance" = some (.builtin "isinstance") := by decide +kernel
  refine pe_imp (pe_callB call_isi hg hm hb (pa_cons ha (pa_cons (pe_bltn hgT hmT hv (v := .ty T) rfl hn hdb) pa_nil) hs2) (by decide) (by decide) hs2 hpl) fun σ H Q h => ?_
  obtain ⟨ρ, B, As, b, R, e1, k⟩ := bl_of h
  obtain ⟨d, e2, e3⟩ := Option.bind_eq_some_iff.mp e1
  obtain ⟨t, e4, e5⟩ := Option.bind_eq_some_iff.mp e3
  refine ⟨ρ, B, As, d, R, e2, fun v B' H' g' w => ?_⟩
  refine ⟨v, .ty T, .type t, .type T, b, rfl, .ty T, ?_, kit_of ?_ e5, k B' H' g'⟩
  · cases d <;> simp only [tyN, Option.some.injEq, reduceCtorEq] at e4
    · subst e4; cases rw_non w; exact .base .non
    · subst e4; cases rw_bl w; exact .base (.bl _)
    · subst e4; cases rw_int w; exact .base (.int _)
    · subst e4; cases rw_str w; exact .base (.str _)
    · subst e4
      obtain ⟨a, vs, rfl, _, h1, h2⟩ := rw_tup g'.sub w
      rcases h1 with (h1 | ⟨o, h1⟩) | ⟨o, its, n, h1, h3, _⟩
      · exact .base (.tup h1)
      · exact .fTuple h1
      · exact .kTuple h1 h3
    · subst e4
      obtain ⟨a, vs, rfl, h1, h2⟩ := w
      exact .base (.lst h1)
    · subst e4
      obtain ⟨a, vs, rfl, h1, h2⟩ := w
      exact .base (.dK h1)
  · cases d <;> simp only [tyN, Option.some.injEq, reduceCtorEq] at e4 <;> (subst e4; decide)
end isi

/-! ### slices -/
def QO (X : Cx) (o : Option Expr) (g : Ev → Option (Option Int)) : Prop := ∃ t, PO X o t ∧ ∀ σ H Q, (∃ ρ B As i, Rel (gx X) B H σ ρ As ∧ g ρ = some i ∧ ∀ B' H', Grow B H B' H' → Q i H') → t σ H Q
section slice
variable {X : Cx} {e : Expr} {lo hi : Option Expr} {pos p2 : Pos} {ga g : PF} {gl gh : Ev → Option (Option Int)}
def noI : Ev → Option (Option Int) := fun _ => some none
def someI (g : PF) : Ev → Option (Option Int) := fun ρ => (g ρ).bind fun | .int i => some (some i) | _ => none
theorem qo_none : QO X none noI := ⟨_, po_none, fun σ H Q ⟨ρ, B, As, i, R, e, k⟩ => by cases e; exact k B H (.refl R.sub)⟩
theorem qo_some (h : QW X e g) : QO X (some e) (someI g) := ⟨_, po_some h, fun σ H Q ⟨ρ, B, As, i, R, e, k⟩ => by
  obtain ⟨d, e1, e2⟩ := Option.bind_eq_some_iff.mp e
  refine ⟨ρ, B, As, d, R, e1, fun v B' H' g w => ?_⟩
  split at e2
  · cases e2; cases rw_int w; exact ⟨_, rfl, k B' H' g⟩
  · cases e2⟩
def cutD (ds : List D) (lo hi : Option Int) : List D := (ds.drop (HT.sIx ds.length 0 lo)).take (HT.sIx ds.length ds.length hi - HT.sIx ds.length 0 lo)
def slcO : D → Option Int → Option Int → Option O
  | .lst ds, lo, hi => some (.ls (cutD ds lo hi))
  | .tup ds, lo, hi => some (.fz (.tup (cutD ds lo hi)))
  | .str x, lo, hi => if x.length ≤ sizeLine then some (.fz (.str (cutS x lo hi))) else none
  | _, _, _ => none
def slcN (ga : PF) (gl gh : Ev → Option (Option Int)) : NF := fun ρ => (ga ρ).bind fun x => (gl ρ).bind fun l => (gh ρ).bind fun h => slcO x l h
def rSlU (G : Gx) (f : D → Option Int → Option Int → Option O) : V → Option Int → Option Int → Hp → VK → Prop := fun x lo hi H Q => ∃ B d o, Same B H ∧ RepW G B H d x ∧ f d lo hi = some o ∧ ∀ v B' H' own, Fresh G B H B' H' o v own → Q v H'
theorem cut_rep {G : Gx} {B : Hp} {ds : List D} {vs : List V} {lo hi : Option Int} (h : RepDs G B ds vs) : RepDs G B (cutD ds lo hi) (cutV vs lo hi) := by
  unfold cutD cutV
  rw [h.length]
  exact (h.drop _).take _
theorem u_slc : SlR X (rSlU (gx X) slcO) := by
  intro pins s σ H x v vl vu lo hi sl Q I rx hs pl pu ⟨B, d, o, sub, w, e, k⟩
  unfold slcO at e
  split at e
  · cases e
    obtain ⟨a, vs, rfl, h1, h2⟩ := w
    exact sl_list pins s σ H _ v vl vu lo hi sl Q I rx hs pl pu ⟨a, vs, rfl, SqL.of h1, fun p hp => k _ _ _ _ (.lst sub hp (cut_rep h2))⟩
  · cases e
    rename_i ds
    have w0 := w
    obtain ⟨a, vs, rfl, _, h1, h2⟩ := rw_tup sub w
    refine sl_tupA pins s σ H _ v vl vu lo hi sl Q I rx hs pl pu ⟨a, vs, rfl, h1, fun hw => ?_, fun hw p hp => k _ _ _ _ (.tup sub hp (cut_rep h2))⟩
    refine k _ B H [] (.val sub ?_)
    have : cutD ds lo hi = ds := by
      rw [h2.length] at hw
      unfold cutD
      rw [hw.1, hw.2]; simp
    rw [this]; exact w0
  · obtain ⟨hz, rfl⟩ := if_some e
    cases rw_str w
    exact sl_str pins s σ H _ v vl vu lo hi sl Q I rx hs pl pu ⟨_, rfl, hz, k _ B H [] (.val sub rfl)⟩
  · cases e
theorem qn_slc (ha : QW X e ga) (hl : QO X lo gl) (hh : QO X hi gh) : QN X (.Subscript e (.Slice lo hi none p2) pos) (slcN ga gl gh) := by
  obtain ⟨tl, pl, kl⟩ := hl
  obtain ⟨th, ph, kh⟩ := hh
  refine pe_imp (pe_slice u_slc ha pl ph) fun σ H Q ⟨ρ, B, As, o, R, e, k⟩ => ?_
  obtain ⟨x, e1, e⟩ := Option.bind_eq_some_iff.mp e
  obtain ⟨l, e2, e⟩ := Option.bind_eq_some_iff.mp e
  obtain ⟨h, e3, e4⟩ := Option.bind_eq_some_iff.mp e
  refine ⟨ρ, B, As, x, R, e1, fun v B1 H1 g1 w1 => ?_⟩
  refine kl σ H1 _ ⟨ρ, B1, As, l, R.grow g1, e2, fun B2 H2 g2 => ?_⟩
  refine kh σ H2 _ ⟨ρ, B2, As, h, (R.grow g1).grow g2, e3, fun B3 H3 g3 => ?_⟩
  exact ⟨B3, x, o, g3.sub, (w1.grow g2).grow g3, e4, fun v B4 H4 own f => k v B4 H4 own (f.behind ((g1.trans g2).trans g3))⟩
end slice
end Q

namespace Q
open PySem PySem.Spec PyProof.Rows L2

/-! ### what a def does, by value -/
abbrev FS := List O → Option (O × List O)
def spF (G : Gx) (n : Nat) (f : FS) : Sp := fun vs H Q _ => ∃ B os own o os', Same B H ∧ Tabs G H ∧ os.length = n ∧ RepOs G B H os vs own ∧ own.Nodup ∧ (∀ a ∈ own, B a = none ∧ H a ≠ none) ∧ f os = some (o, os') ∧
  ∀ v B' H' o1 o2, Step B H own B' H' (o1 ++ o2) → RepO G B' H' o v o1 → RepOs G B' H' os' vs o2 → (o1 ++ o2).Nodup → (∀ a ∈ o1 ++ o2, B' a = none ∧ H' a ≠ none) → Q v H'
theorem RepOs.length {G : Gx} {B H : Hp} : ∀ {os : List O} {vs : List V} {own : List Addr}, RepOs G B H os vs own → vs.length = os.length
  | [], vs, own, h => by simp only [RepOs] at h; simp [h.1]
  | o :: os, vs, own, h => by
    simp only [RepOs] at h
    obtain ⟨v, r, o1, o2, rfl, rfl, _, h2⟩ := h
    simp [RepOs.length h2]
theorem RepDs.os {G : Gx} {B H : Hp} : ∀ {ds : List D} {vs : List V}, RepDs G B ds vs → RepOs G B H (ds.map O.fz) vs []
  | [], vs, h => by simp only [RepDs] at h; subst h; simp [RepOs]
  | d :: ds, vs, h => by
    simp only [RepDs] at h
    obtain ⟨v, r, rfl, h1, h2⟩ := h
    exact ⟨v, r, [], [], rfl, rfl, ⟨rfl, h1⟩, RepDs.os h2⟩
/-- a def of the module, known by value -/
structure QFn (P : Program) (w : World) (K : PySem.W.Frag) (mg : Str → Option Value) (base : Heap) (x : Str) (k n : Nat) (f : FS) : Prop where
  ex : ∃ fa fd ps, mg x = some (.ref fa) ∧ PySem.W.keepIn K (.ref fa) = true ∧ Binds K fd ps [] ∧ FnOk P w K mg base CX0 k fa fd ps (spF ⟨K, mg⟩ n f)
theorem Step.grow {B H B' H' : Hp} {As : List Addr} (s : Step B H [] B' H' As) : Grow B H B' H' :=
  ⟨fun a o h => (s.keep a o h (by simp)).1, s.bb, s.sub, fun a h => by
    cases q : H a with
    | none => exact absurd q h
    | some o => exact (s.keep a o q (by simp)).2⟩
section call
variable {X : Cx} {e : Expr} {es : List Expr} {gs : List PF} {pos p : Pos} {x : Str} {f : FS} {k n : Nat}
def callN (f : FS) (gs : List PF) : NF := fun ρ => (evs gs ρ).bind fun ds => (f (ds.map .fz)).map (·.1)
theorem spF_pure {G : Gx} {n : Nat} {f : FS} {B H : Hp} {ds : List D} {vs : List V} {o : O} {Q : VK} {E : XK} (sub : Same B H) (tb : Tabs G H) (hl : ds.length = n) (r : RepDs G B ds vs) (e : (f (ds.map .fz)).map (·.1) = some o)
    (k : ∀ v B' H' own, Fresh G B H B' H' o v own → Q v H') : spF G n f vs H Q E := by
  obtain ⟨⟨o', os'⟩, e1, e2⟩ := Option.map_eq_some_iff.mp e
  cases e2
  refine ⟨B, _, [], o', os', sub, tb, by simpa using hl, r.os, List.nodup_nil, by simp, e1, fun v B' H' o1 o2 st ro _ nd ap => ?_⟩
  refine k v B' H' o1 ⟨st.grow, ro, (List.nodup_append.mp nd).1, fun a h => ⟨?_, ap a (List.mem_append_left _ h)⟩⟩
  exact (st.own a (List.mem_append_left _ h)).elim (fun z => nomatch z) fun z => z
theorem qn_call (F : QFn X.prog X.w X.K X.mg X.base x k n f) (hr : Room k X.A) (hg : Gl X x) (hn : gs.length = n) (ha : QDs X (e :: es) gs) (hdb : (x == ("__debug__" : Str)) = false := by decide)
    (he : starEach (e :: es) X.env = (false, eval e X.env) :: starEach es X.env := by rfl) (hpl : (backTo pos (starEach es X.env)).any (·.1) = false := by rfl) : QN X (.Call (.Name x p) (e :: es) [] pos) (callN f gs) := by
  obtain ⟨fa, fd, ps, hm, hk, hb, F⟩ := F.ex
  refine pe_imp (pe_call (dvs := []) F hr hg hm hk hb .nil pass0 ha hdb he hpl) fun σ H Q ⟨ρ, B, As, o, R, e, k⟩ => ?_
  obtain ⟨ds, e1, e2⟩ := Option.bind_eq_some_iff.mp e
  refine ⟨ρ, B, As, ds, R, e1, fun vs B1 H1 g1 w1 => ?_⟩
  show spF _ n f (vs ++ []) H1 Q E0
  rw [List.append_nil]
  exact spF_pure g1.sub (R.tb.same g1.hh) ((evs_len e1).trans hn) w1 e2 fun v B2 H2 own fr => k v B2 H2 own (fr.behind g1)
theorem qn_call0 (F : QFn X.prog X.w X.K X.mg X.base x k 0 f) (hr : Room k X.A) (hg : Gl X x) (hdb : (x == ("__debug__" : Str)) = false := by decide) : QN X (.Call (.Name x p) [] [] pos) (callN f []) := by
  obtain ⟨fa, fd, ps, hm, hk, hb, F⟩ := F.ex
  refine pe_imp (pe_call0 (dvs := []) F hr hg hm hk hb .nil pass0 hdb) fun σ H Q ⟨ρ, B, As, o, R, e, k⟩ => ?_
  obtain ⟨ds, e1, e2⟩ := Option.bind_eq_some_iff.mp e
  simp only [evs, Option.some.injEq] at e1
  subst e1
  exact spF_pure (E := E0) (ds := []) R.sub R.tb rfl rfl e2 fun v B2 H2 own fr => k v B2 H2 own fr
end call

/-! ### calls that take owned things and hand them back -/
inductive Arg where
  | v (g : PF) | m (i : Nat)
def takeA : List Arg → Ev → Ev → Option (List O × Ev)
  | [], ρ, κ => some ([], κ)
  | .v g :: as, ρ, κ => (g ρ).bind fun d => (takeA as ρ κ).map fun r => (.fz d :: r.1, r.2)
  | .m i :: as, ρ, κ => (κ[i]?.join).bind fun o => (takeA as ρ (κ.set i none)).map fun r => (o :: r.1, r.2)
def putA : List Arg → List O → Ev → Option Ev
  | [], [], κ => some κ
  | .v _ :: as, _ :: os, κ => putA as os κ
  | .m i :: as, o :: os, κ => match κ[i]? with
    | some none => putA as os (κ.set i (some o))
    | _ => none
  | _, _, _ => none
def Moved : List Arg → List V → L2.St → Prop
  | .m i :: as, v :: vs, σ => σ[i]? = some (some v) ∧ Moved as vs σ
  | .v _ :: as, _ :: vs, σ => Moved as vs σ
  | _, _, _ => True
def tA (G : Gx) (as : List Arg) : TA := fun σ H Q => ∃ ρ κ B As AsK os κ', Rel G B H σ ρ As ∧ RepEnv G B H κ σ AsK ∧ (∀ a ∈ AsK, a ∈ As) ∧ takeA as ρ κ = some (os, κ') ∧
  ∀ vs B' H' own As1, Grow B H B' H' → RepOs G B' H' os vs own → RepEnv G B' H' κ' σ As1 → (own ++ As1).Perm AsK → Moved as vs σ → Q vs H'
abbrev QAs (X : Cx) (es : List Expr) (as : List Arg) : Prop := PA X es (tA (gx X) as)
theorem Rel.keep {G : Gx} {B H B' H' : Hp} {σ : L2.St} {ρ : Ev} {As : List Addr} (r : Rel G B H σ ρ As) (g : Grow B H B' H') {a : Addr} (h : a ∈ As) : H' a = H a := (r.env.dat a h).same g.hh
theorem takeA_len : ∀ {as : List Arg} {ρ κ : Ev} {os : List O} {κ' : Ev}, takeA as ρ κ = some (os, κ') → os.length = as.length
  | [], ρ, κ, os, κ', h => by simp only [takeA, Option.some.injEq, Prod.mk.injEq] at h; rw [← h.1]; rfl
  | .v g :: as, ρ, κ, os, κ', h => by
    simp only [takeA] at h
    obtain ⟨d, e1, e2⟩ := Option.bind_eq_some_iff.mp h
    obtain ⟨⟨os2, κ2⟩, e3, e4⟩ := Option.map_eq_some_iff.mp e2
    cases e4
    simp [takeA_len e3]
  | .m i :: as, ρ, κ, os, κ', h => by
    simp only [takeA] at h
    obtain ⟨d, e1, e2⟩ := Option.bind_eq_some_iff.mp h
    obtain ⟨⟨os2, κ2⟩, e3, e4⟩ := Option.map_eq_some_iff.mp e2
    cases e4
    simp [takeA_len e3]
theorem join_some {A : Type} {l : List (Option A)} {i : Nat} {o : A} (h : l[i]?.join = some o) : l[i]? = some (some o) := by
  cases q : l[i]? with
  | none => rw [q] at h; simp at h
  | some x => rw [q] at h; simp at h; rw [h]
section margs
variable {X : Cx} {e : Expr} {es : List Expr} {g : PF} {as : List Arg}
theorem qas_nil : QAs X [] [] := pa_imp pa_nil fun σ H Q ⟨ρ, κ, B, As, AsK, os, κ', R, RK, sb, e, k⟩ => by
  simp only [takeA, Option.some.injEq, Prod.mk.injEq] at e
  obtain ⟨rfl, rfl⟩ := e
  exact k [] B H [] AsK (.refl R.sub) ⟨rfl, rfl⟩ RK (List.Perm.refl _) trivial
theorem qas_v (h : QD X e g) (t : QAs X es as) (hs : starEach (e :: es) X.env = (false, eval e X.env) :: starEach es X.env := by rfl) : QAs X (e :: es) (.v g :: as) := pa_imp (pa_cons h t hs) fun σ H Q ⟨ρ, κ, B, As, AsK, os, κ', R, RK, sb, e, k⟩ => by
  simp only [takeA] at e
  obtain ⟨d, e1, e2⟩ := Option.bind_eq_some_iff.mp e
  obtain ⟨⟨os2, κ2⟩, e3, e4⟩ := Option.map_eq_some_iff.mp e2
  cases e4
  refine ⟨ρ, B, As, d, R, e1, fun v B1 H1 g1 w1 => ⟨ρ, κ, B1, As, AsK, os2, κ2, R.grow g1, RK.frame g1.bb fun a h => R.keep g1 (sb a h), sb, e3, fun vs B2 H2 own As1 g2 r2 k2 pm mv => ?_⟩⟩
  exact k (v :: vs) B2 H2 own As1 (g1.trans g2) ⟨v, vs, [], own, rfl, rfl, ⟨rfl, w1.mono g2.bb⟩, r2⟩ k2 pm mv
theorem qas_m {i : Nat} {x : Str} {pos : Pos} (t : QAs X es as) (hN : X.N[i]? = some x := by rfl) (hv : Vis X.env.scope x := by first | exact Or.inl rfl | exact Or.inr (Or.inl rfl) | exact Or.inr (Or.inr rfl)) (hd : (x == ("__debug__" : Str)) = false := by decide)
    (hcd : (x == ("__classdict__" : Str)) = false := by decide) (hs : starEach (.Name x pos :: es) X.env = (false, eval (.Name x pos) X.env) :: starEach es X.env := by rfl) : QAs X (.Name x pos :: es) (.m i :: as) :=
  pa_imp (pa_cons (pe_var (i := i) hN hv hd hcd) t hs) fun σ H Q ⟨ρ, κ, B, As, AsK, os, κ', R, RK, sb, e, k⟩ => by
  simp only [takeA] at e
  obtain ⟨o, e1, e2⟩ := Option.bind_eq_some_iff.mp e
  obtain ⟨⟨os2, κ2⟩, e3, e4⟩ := Option.map_eq_some_iff.mp e2
  cases e4
  obtain ⟨v, own, As1, h1, h2, h3, h4⟩ := RK.out (join_some e1)
  have own_in : ∀ a ∈ own, a ∈ AsK := fun a h => h4.mem_iff.mp (List.mem_append_left _ h)
  have as_in : ∀ a ∈ As1, a ∈ AsK := fun a h => h4.mem_iff.mp (List.mem_append_right _ h)
  refine ⟨v, h1, ρ, κ.set i none, B, As, As1, os2, κ2, R, h3, fun a h => sb a (as_in a h), e3, fun vs B2 H2 own2 As2 g2 r2 k2 pm mv => ?_⟩
  refine k (v :: vs) B2 H2 (own ++ own2) As2 g2 ⟨v, vs, own, own2, rfl, rfl, h2.frame g2.bb (fun a h => R.keep g2 (sb a (own_in a h))), r2⟩ k2 ?_ ⟨h1, mv⟩
  rw [List.append_assoc]
  exact (List.Perm.append_left _ pm).trans h4
end margs
theorem putA_rep {G : Gx} {B H : Hp} {σ : L2.St} : ∀ {as : List Arg} {os : List O} {vs : List V} {κ ρ' : Ev} {o2 As1 : List Addr}, RepEnv G B H κ σ As1 → RepOs G B H os vs o2 → Moved as vs σ → putA as os κ = some ρ' →
    ∃ As' L, RepEnv G B H ρ' σ As' ∧ L.Sublist o2 ∧ As'.Perm (L ++ As1)
  | [], [], vs, κ, ρ', o2, As1, h, r, m, e => by
    simp only [putA, Option.some.injEq] at e; subst e
    exact ⟨As1, [], h, List.nil_sublist _, List.Perm.refl _⟩
  | [], _ :: _, vs, κ, ρ', o2, As1, h, r, m, e => by simp [putA] at e
  | .v _ :: _, [], vs, κ, ρ', o2, As1, h, r, m, e => by simp [putA] at e
  | .m _ :: _, [], vs, κ, ρ', o2, As1, h, r, m, e => by simp [putA] at e
  | .v g :: as, o :: os, vs, κ, ρ', o2, As1, h, r, m, e => by
    simp only [putA] at e
    simp only [RepOs] at r
    obtain ⟨v, t, p1, p2, rfl, rfl, r1, r2⟩ := r
    obtain ⟨As', L, h1, h2, h3⟩ := putA_rep h r2 m e
    exact ⟨As', L, h1, h2.trans (List.sublist_append_right _ _), h3⟩
  | .m i :: as, o :: os, vs, κ, ρ', o2, As1, h, r, m, e => by
    simp only [putA] at e
    split at e
    · rename_i q
      simp only [RepOs] at r
      obtain ⟨v, t, p1, p2, rfl, rfl, r1, r2⟩ := r
      obtain ⟨m1, m2⟩ := m
      obtain ⟨As2, k1, k2⟩ := h.put q m1 r1
      obtain ⟨As', L, h1, h2, h3⟩ := putA_rep k1 r2 m2 e
      refine ⟨As', p1 ++ L, h1, List.Sublist.append_left h2 _, h3.trans ?_⟩
      calc (L ++ As2).Perm (L ++ (p1 ++ As1)) := List.Perm.append_left _ k2
        _ |>.Perm ((L ++ p1) ++ As1) := by rw [List.append_assoc]
        _ |>.Perm ((p1 ++ L) ++ As1) := List.Perm.append_right _ List.perm_append_comm
    · cases e
def callE (f : FS) (as : List Arg) : EF := fun ρ => (takeA as ρ ρ).bind fun r => (f r.1).bind fun q => (putA as q.2 r.2).map fun ρ' => (q.1, ρ')
theorem spF_move {G : Gx} {n : Nat} {f : FS} {σ : L2.St} {H : Hp} {as : List Arg} {Q : VK} {E : XK} (hn : as.length = n) (h : tE G (callE f as) σ H Q) : tA G as σ H fun vs H1 => spF G n f vs H1 Q E := by
  obtain ⟨ρ, B, As, o, ρ', R, e, k⟩ := h
  obtain ⟨⟨os, κ⟩, e1, e⟩ := Option.bind_eq_some_iff.mp e
  obtain ⟨⟨o', os'⟩, e2, e⟩ := Option.bind_eq_some_iff.mp e
  obtain ⟨ρ2, e3, e4⟩ := Option.map_eq_some_iff.mp e
  cases e4
  refine ⟨ρ, ρ, B, As, As, os, κ, R, R.env, fun _ h => h, e1, fun vs B1 H1 own As1 g1 r1 k1 pm mv => ?_⟩
  have R1 := R.grow g1
  have nd : (own ++ As1).Nodup := pm.symm.nodup R.nd
  have own_in : ∀ a ∈ own, a ∈ As := fun a h => pm.mem_iff.mp (List.mem_append_left _ h)
  have as_in : ∀ a ∈ As1, a ∈ As := fun a h => pm.mem_iff.mp (List.mem_append_right _ h)
  refine ⟨B1, os, own, o', os', g1.sub, R1.tb, (takeA_len e1).trans hn, r1, (List.nodup_append.mp nd).1, fun a h => R1.ap a (own_in a h), e2, fun v B2 H2 o1 o2 st ro ros nd2 ap => ?_⟩
  have dj : ∀ a ∈ As1, a ∉ own := fun a h z => (List.nodup_append.mp nd).2.2 a z a h rfl
  have apart : ∀ a ∈ As1, H2 a = H1 a ∧ B2 a = B1 a ∧ a ∉ o1 ++ o2 := fun a h => st.apart (R1.env.dat a (as_in a h)) (dj a h)
  have k2 : RepEnv G B2 H2 κ σ As1 := k1.frame st.bb fun a h => (apart a h).1
  obtain ⟨As', L, h1, h2, h3⟩ := putA_rep k2 ros mv e3
  have mem : ∀ a, a ∈ As' ↔ a ∈ L ∨ a ∈ As1 := fun a => by rw [h3.mem_iff, List.mem_append]
  have L_in : ∀ a ∈ L, a ∈ o2 := fun a h => h2.subset h
  have ndAs' : As'.Nodup := h3.symm.nodup (List.nodup_append.mpr ⟨h2.nodup (List.nodup_append.mp nd2).2.1, (List.nodup_append.mp nd).2.1, fun a ha b hb z => (apart b hb).2.2 (z ▸ List.mem_append_right _ (L_in a ha))⟩)
  have apAs' : ∀ a ∈ As', B2 a = none ∧ H2 a ≠ none := fun a h => by
    rcases (mem a).mp h with z | z
    · exact ap a (List.mem_append_right _ (L_in a z))
    · exact ⟨(apart a z).2.1.trans (R1.ap a (as_in a z)).1, by rw [(apart a z).1]; exact (R1.ap a (as_in a z)).2⟩
  refine k v B2 H2 As' o1 ?_ ⟨st.sub, R1.tb.to st.tb, ndAs', apAs', h1⟩ ⟨ro, List.nodup_append.mpr ⟨(List.nodup_append.mp nd2).1, ndAs', fun a ha b hb z => ?_⟩, fun a h => ap a (List.mem_append_left _ h)⟩
  · refine (g1.step As).trans ⟨st.bb, st.sub, fun a o h hn => st.keep a o h fun z => hn (own_in a z), fun a h => ?_, st.there, st.tb⟩
    rcases List.mem_append.mp h with h | h
    · exact (st.own a (List.mem_append_left _ h)).imp (own_in a) fun z => z
    · rcases (mem a).mp h with z | z
      · exact (st.own a (List.mem_append_right _ (L_in a z))).imp (own_in a) fun z => z
      · exact .inl (as_in a z)
  · subst z
    rcases (mem a).mp hb with z | z
    · exact (List.nodup_append.mp nd2).2.2 a ha a (L_in a z) rfl
    · exact (apart a z).2.2 (List.mem_append_left _ ha)
section call2
variable {X : Cx} {e : Expr} {es : List Expr} {as : List Arg} {pos p : Pos} {x : Str} {f : FS} {k n : Nat}
theorem qe_call (F : QFn X.prog X.w X.K X.mg X.base x k n f) (hr : Room k X.A) (hg : Gl X x) (hn : as.length = n) (ha : QAs X (e :: es) as) (hdb : (x == ("__debug__" : Str)) = false := by decide)
    (he : starEach (e :: es) X.env = (false, eval e X.env) :: starEach es X.env := by rfl) (hpl : (backTo pos (starEach es X.env)).any (·.1) = false := by rfl) : QE X (.Call (.Name x p) (e :: es) [] pos) (callE f as) := by
  obtain ⟨fa, fd, ps, hm, hk, hb, F⟩ := F.ex
  refine pe_imp (pe_call (dvs := []) F hr hg hm hk hb .nil pass0 ha hdb he hpl) fun σ H Q h => ?_
  have := spF_move (E := E0) hn h
  show tA (gx X) as σ H fun vs H1 => spF _ n f (vs ++ []) H1 Q E0
  simpa only [List.append_nil] using this
end call2

/-! ### what is walked -/
/-- from the heap Hs on, J walks ds -/
structure Yl (G : Gx) (B Hs : Hp) (J : It) (ds : List D) : Prop where
  go : ∀ i H, Same Hs H → i < ds.length → J.go i H
  stop : ∀ i H, Same Hs H → ds.length ≤ i → J.stop i H
  yld : ∀ i H x H', Same Hs H → J.yld i H x H' → H' = H ∧ ∀ d, ds[i]? = some d → RepD G B d x
abbrev IF := Ev → Option (List D)
/-- frozen -/
def tI (G : Gx) (g : IF) : TI := fun σ H R => ∃ ρ B As ds, Rel G B H σ ρ As ∧ g ρ = some ds ∧ ∀ J B' H', Grow B H B' H' → Yl G B' B' J ds → R J H'
/-- looked at -/
def tIw (G : Gx) (g : IF) : TI := fun σ H R => ∃ ρ B As ds, Rel G B H σ ρ As ∧ g ρ = some ds ∧ ∀ J B' H', Grow B H B' H' → Yl G B' H' J ds → R J H'
abbrev QI (X : Cx) (tg e : Expr) (g : IF) : Prop := ∃ t, PI X tg e t ∧ ∀ σ H R, tI (gx X) g σ H R → t σ H R
abbrev QIw (X : Cx) (tg e : Expr) (g : IF) : Prop := ∃ t, PI X tg e t ∧ ∀ σ H R, tIw (gx X) g σ H R → t σ H R
theorem Yl.w {G : Gx} {B H : Hp} {J : It} {ds : List D} (s : Same B H) (y : Yl G B B J ds) : Yl G B H J ds :=
  ⟨fun i H1 h => y.go i H1 (s.trans h), fun i H1 h => y.stop i H1 (s.trans h), fun i H1 x H2 h => y.yld i H1 x H2 (s.trans h)⟩
section iters
variable {X : Cx} {tg e a b : Expr} {g ga gb : PF} {gI : IF} {p pos : Pos}
theorem QI.w (h : QI X tg e gI) : QIw X tg e gI := let ⟨t, h1, h2⟩ := h; ⟨t, h1, fun σ H R ⟨ρ, B, As, ds, r, e, k⟩ => h2 σ H R ⟨ρ, B, As, ds, r, e, fun J B' H' g y => k J B' H' g (y.w g.sub)⟩⟩
def itL (g : PF) : IF := fun ρ => (g ρ).bind fun | .lst ds => some ds | _ => none
def itT (g : PF) : IF := fun ρ => (g ρ).bind fun | .tup ds => some ds | _ => none
def itR1 (g : PF) : IF := fun ρ => (g ρ).bind fun | .int n => if -2 ^ 62 ≤ n ∧ n < 2 ^ 62 then some ((List.range n.toNat).map fun k => .int ((k : Nat) : Int)) else none | _ => none
def itR2 (ga gb : PF) : IF := fun ρ => (ga ρ).bind fun x => (gb ρ).bind fun y => match x, y with
  | .int i, .int j => if -2 ^ 62 ≤ i ∧ i < 2 ^ 62 ∧ -2 ^ 62 ≤ j ∧ j < 2 ^ 62 then some ((List.range (j - i).toNat).map fun k => .int (i + ((k : Nat) : Int))) else none
  | _, _ => none
def itS (g : PF) : IF := fun ρ => (g ρ).bind fun | .str x => some (x.cps.toList.map fun c => .str ⟨#[c]⟩) | _ => none
theorem yl_list {G : Gx} {B H : Hp} {K : PySem.W.Frag} {a : Addr} {vs : List V} {ds : List D} (h : H a = some (.lst vs)) (r : RepDs G B ds vs) : Yl G B H (Itl K a) ds := by
  refine ⟨fun i H1 s hi => ?_, fun i H1 s hi => ⟨vs, SqL.of (s _ _ h), by rw [r.length]; exact hi⟩, fun i H1 x H2 s ⟨e1, e2⟩ => ⟨e1, fun d hd => ?_⟩⟩
  · obtain ⟨v, h1, _⟩ := r.get (List.getElem?_eq_getElem hi)
    exact ⟨vs, v, SqL.of (s _ _ h), h1⟩
  · obtain ⟨v, h1, h2⟩ := r.get hd
    have := e2 vs (SqL.of (s _ _ h))
    rw [this] at h1; cases h1; exact h2
theorem yl_tup {G : Gx} {B H : Hp} {K : PySem.W.Frag} {a : Addr} {vs : List V} {ds : List D} (h : SqT K H a vs) (r : RepDs G B ds vs) : Yl G B H (Itt K a) ds := by
  refine ⟨fun i H1 s hi => ?_, fun i H1 s hi => ⟨vs, Same.sqT s h, by rw [r.length]; exact hi⟩, fun i H1 x H2 s ⟨e1, e2⟩ => ⟨e1, fun d hd => ?_⟩⟩
  · obtain ⟨v, h1, _⟩ := r.get (List.getElem?_eq_getElem hi)
    exact ⟨vs, v, Same.sqT s h, h1⟩
  · obtain ⟨v, h1, h2⟩ := r.get hd
    have := e2 vs (Same.sqT s h)
    rw [this] at h1; cases h1; exact h2
theorem qi_list (h : QD X e g) : QI X tg e (itL g) := ⟨_, pi_list h, fun σ H R ⟨ρ, B, As, ds, r, e, k⟩ => by
  obtain ⟨d, e1, e2⟩ := Option.bind_eq_some_iff.mp e
  refine ⟨ρ, B, As, d, r, e1, fun v B1 H1 g1 w => ?_⟩
  split at e2
  · cases e2
    simp only [RepD] at w
    obtain ⟨a, vs, rfl, h1, h2⟩ := w
    exact ⟨a, rfl, ⟨vs, SqL.of (g1.sub _ _ h1)⟩, k _ B1 H1 g1 (yl_list h1 h2)⟩
  · cases e2⟩
theorem qiw_list (h : QW X e g) : QIw X tg e (itL g) := ⟨_, pi_list h, fun σ H R ⟨ρ, B, As, ds, r, e, k⟩ => by
  obtain ⟨d, e1, e2⟩ := Option.bind_eq_some_iff.mp e
  refine ⟨ρ, B, As, d, r, e1, fun v B1 H1 g1 w => ?_⟩
  split at e2
  · cases e2
    obtain ⟨a, vs, rfl, h1, h2⟩ := w
    exact ⟨a, rfl, ⟨vs, SqL.of h1⟩, k _ B1 H1 g1 (yl_list h1 h2)⟩
  · cases e2⟩
theorem qi_tup (h : QD X e g) : QI X tg e (itT g) := ⟨_, pi_tup h, fun σ H R ⟨ρ, B, As, ds, r, e, k⟩ => by
  obtain ⟨d, e1, e2⟩ := Option.bind_eq_some_iff.mp e
  refine ⟨ρ, B, As, d, r, e1, fun v B1 H1 g1 w => ?_⟩
  split at e2
  · cases e2
    simp only [RepD] at w
    obtain ⟨a, vs, rfl, h1, h2⟩ := w
    exact ⟨a, rfl, ⟨vs, Same.sqT g1.sub h1⟩, k _ B1 H1 g1 (yl_tup h1 h2)⟩
  · cases e2⟩
theorem yl_rng {G : Gx} {B Hs : Hp} {lo : Int} {n : Nat} : Yl G B Hs (Itr lo n) ((List.range n).map fun k => .int (lo + ((k : Nat) : Int))) := by
  refine ⟨fun i H s hi => show i < n by simpa using hi, fun i H s hi => show n ≤ i by simpa using hi, fun i H x H' s ⟨e1, e2⟩ => ⟨e1, fun d hd => ?_⟩⟩
  rw [List.getElem?_map] at hd
  obtain ⟨j, h1, rfl⟩ := Option.map_eq_some_iff.mp hd
  rw [List.getElem?_range] at h1
  · cases h1; exact e2
  · rcases Nat.lt_or_ge i n with q | q
    · exact q
    · rw [List.getElem?_eq_none_iff.mpr (by simpa using q)] at h1; cases h1
theorem qi_rng1 (hg : Gl X "range") (hm : X.mg "range" = none) (h : QW X a ga) (hs : starEach [a] X.env = [(false, eval a X.env)] := by rfl) : QI X tg (.Call (.Name "range" p) [a] [] pos) (itR1 ga) :=
  ⟨_, pi_range1 hg hm (qws_cons h qws_nil hs) hs, fun σ H R ⟨ρ, B, As, ds, r, e, k⟩ => by
  obtain ⟨d, e1, e2⟩ := Option.bind_eq_some_iff.mp e
  refine ⟨ρ, B, As, [d], r, by simp [evs, e1], fun vs B1 H1 g1 w => ?_⟩
  obtain ⟨v, rfl, w1⟩ := w.one
  split at e2
  · obtain ⟨hz, rfl⟩ := if_some e2
    cases rw_int w1
    refine ⟨_, rfl, hz.1, hz.2, k _ B1 H1 g1 ?_⟩
    have := yl_rng (G := gx X) (B := B1) (Hs := B1) (lo := 0) (n := Int.toNat (by assumption))
    simpa only [Int.zero_add] using this
  · cases e2⟩
theorem qi_rng2 (hg : Gl X "range") (hm : X.mg "range" = none) (ha : QW X a ga) (hb : QW X b gb) (hs : starEach [a, b] X.env = [(false, eval a X.env), (false, eval b X.env)] := by rfl) (hs1 : starEach [b] X.env = [(false, eval b X.env)] := by rfl) : QI X tg (.Call (.Name "range" p) [a, b] [] pos) (itR2 ga gb) :=
  ⟨_, pi_range2 hg hm (qws_cons ha (qws_cons hb qws_nil (by rw [hs1]; rfl)) (by rw [hs, hs1])) hs hs1, fun σ H R ⟨ρ, B, As, ds, r, e, k⟩ => by
  obtain ⟨x, y, e1, e2, e3⟩ := two e
  refine ⟨ρ, B, As, [x, y], r, by simp [evs, e1, e2], fun vs B1 H1 g1 w => ?_⟩
  obtain ⟨v, z, rfl, w1, w2⟩ := w.two
  split at e3
  · obtain ⟨hz, rfl⟩ := if_some e3
    cases rw_int w1; cases rw_int w2
    exact ⟨_, _, rfl, hz, k _ B1 H1 g1 yl_rng⟩
  · cases e3⟩
theorem qi_str (h : QW X e g) : QI X tg e (itS g) := ⟨_, pi_str h, fun σ H R ⟨ρ, B, As, ds, r, e, k⟩ => by
  obtain ⟨d, e1, e2⟩ := Option.bind_eq_some_iff.mp e
  refine ⟨ρ, B, As, d, r, e1, fun v B1 H1 g1 w => ?_⟩
  split at e2
  · cases e2
    cases rw_str w
    refine ⟨_, rfl, k _ B1 H1 g1 ⟨fun i H s hi => by simpa [Its] using hi, fun i H s hi => by simpa [Its] using hi, fun i H x H' s ⟨h1, c, h2, h3⟩ => ⟨h1, fun d hd => ?_⟩⟩⟩
    rw [List.getElem?_map] at hd
    obtain ⟨j, h4, rfl⟩ := Option.map_eq_some_iff.mp hd
    rw [Array.getElem?_toList, h2] at h4
    cases h4; exact h3
  · cases e2⟩
end iters
end Q

namespace Q
open PySem PySem.Spec PyProof.Rows L2

/-! ### environments, more -/
section env2
variable {G : Gx} {B H : Hp}
theorem set_out {A : Type} {l : List A} {i : Nat} {x : A} (h : l.length ≤ i) : l.set i x = l := by
  apply List.ext_getElem?
  intro j
  rw [List.getElem?_set]
  split
  · rename_i e; subst e
    rw [if_neg (by omega), List.getElem?_eq_none_iff.mpr h]
  · rfl
theorem RepEnv.clear {ρ : Ev} {σ : L2.St} {As : List Addr} (i : Nat) (x : Option V) (h : RepEnv G B H ρ σ As) : ∃ As1, RepEnv G B H (ρ.set i none) (σ.set i x) As1 ∧ As1.Sublist As := by
  obtain ⟨As1, h1, h2⟩ := h.drop i
  rcases Nat.lt_or_ge i ρ.length with q | q
  · exact ⟨As1, h1.any x (by rw [List.getElem?_set_self q]), h2⟩
  · refine ⟨As1, ?_, h2⟩
    rw [set_out (l := σ) (by rw [h.length]; exact q)]
    exact h1
/-- a name is given a thing -/
theorem RepEnv.assign {ρ : Ev} {σ : L2.St} {As own : List Addr} {o : O} {v : V} (i : Nat) (h : RepEnv G B H ρ σ As) (r : RepO G B H o v own) (nd : (own ++ As).Nodup) :
    ∃ As', RepEnv G B H (ρ.set i (some o)) (σ.set i (some v)) As' ∧ As'.Nodup ∧ ∀ a ∈ As', a ∈ own ++ As := by
  rcases Nat.lt_or_ge i ρ.length with q | q
  · obtain ⟨As1, h1, h2⟩ := h.clear i (some v)
    obtain ⟨As', h3, h4⟩ := h1.put (i := i) (o := o) (v := v) (own := own) (by rw [List.getElem?_set_self q]) (by rw [List.getElem?_set_self (by rw [h.length]; exact q)]) r
    rw [List.set_set] at h3
    exact ⟨As', h3, h4.symm.nodup (nd.sublist (List.Sublist.append_left h2 _)), fun a z => (List.Sublist.append_left h2 own).subset (h4.mem_iff.mp z)⟩
  · rw [set_out q, set_out (l := σ) (by rw [h.length]; exact q)]
    exact ⟨As, h, (List.nodup_append.mp nd).2.1, fun a z => List.mem_append_right _ z⟩
def wipeE (ρ : Ev) : List Nat → Ev
  | [] => ρ
  | v :: vs => (wipeE ρ vs).set v none
theorem RepEnv.wipe {ρ : Ev} {σ : L2.St} {As : List Addr} (h : RepEnv G B H ρ σ As) : ∀ vs : List Nat, ∃ As1, RepEnv G B H (wipeE ρ vs) (L2.wipe σ vs) As1 ∧ As1.Sublist As
  | [] => ⟨As, h, List.Sublist.refl _⟩
  | v :: vs => by
    obtain ⟨As1, h1, h2⟩ := h.wipe vs
    obtain ⟨As2, h3, h4⟩ := h1.clear v none
    exact ⟨As2, h3, h4.trans h2⟩
theorem wipe_in {σ : L2.St} {i : Nat} : ∀ {vs : List Nat}, i ∈ vs → (L2.wipe σ vs)[i]? = if i < σ.length then some none else none
  | [], h => by simp at h
  | v :: vs, h => by
    show ((L2.wipe σ vs).set v none)[i]? = _
    rw [List.getElem?_set, wipe_length]
    split
    · rename_i e; subst e; rfl
    · rename_i e
      rcases List.mem_cons.mp h with z | z
      · exact absurd z.symm e
      · exact wipe_in z
theorem wipe_same {σ σ2 : L2.St} {vs sl : List Nat} (hs : ∀ i ∈ sl, i ∈ vs) (k : ∀ i, i ∉ sl → σ2[i]? = (L2.wipe σ vs)[i]?) (hl : σ2.length = (L2.wipe σ vs).length) : L2.wipe σ2 vs = L2.wipe σ vs := by
  apply List.ext_getElem?
  intro i
  by_cases h : i ∈ vs
  · rw [wipe_in h, wipe_in h, hl, wipe_length]
  · rw [L2.wipe_out h]
    exact k i fun z => h (hs i z)
theorem wipeE_in {ρ : Ev} {i : Nat} : ∀ {vs : List Nat}, i ∈ vs → (wipeE ρ vs)[i]? = if i < ρ.length then some none else none
  | [], h => by simp at h
  | v :: vs, h => by
    show ((wipeE ρ vs).set v none)[i]? = _
    have hl : (wipeE ρ vs).length = ρ.length := by
      clear h; induction vs with
      | nil => rfl
      | cons a vs ih => show ((wipeE ρ vs).set a none).length = _; rw [List.length_set, ih]
    rw [List.getElem?_set, hl]
    split
    · rename_i e; subst e; rfl
    · rename_i e
      rcases List.mem_cons.mp h with z | z
      · exact absurd z.symm e
      · exact wipeE_in z
theorem wipe_set {σ : L2.St} {i : Nat} {x : Option V} (vs : List Nat) : True := trivial
/-- slots that are empty may hold any value -/
theorem RepEnv.anys {ρ : Ev} {σ σ' : L2.St} {As : List Addr} (h : RepEnv G B H ρ σ As) (hl : σ'.length = σ.length) (k : ∀ i : Nat, ρ[i]? ≠ some none → σ'[i]? = σ[i]?) : RepEnv G B H ρ σ' As := by
  induction ρ generalizing σ σ' As with
  | nil => simp only [RepEnv] at h ⊢; obtain ⟨rfl, h2⟩ := h; exact ⟨List.length_eq_zero_iff.mp hl, h2⟩
  | cons x ρ ih =>
    cases x with
    | none =>
      simp only [RepEnv] at h ⊢
      obtain ⟨y, r, rfl, h⟩ := h
      cases σ' with
      | nil => simp at hl
      | cons z t => exact ⟨z, t, rfl, ih h (by simpa using hl) fun i q => by have := k (i + 1) (by simpa using q); simpa using this⟩
    | some o =>
      simp only [RepEnv] at h ⊢
      obtain ⟨v, r, o1, o2, rfl, rfl, h1, h2⟩ := h
      cases σ' with
      | nil => simp at hl
      | cons z t =>
        have h0 := k 0 (by simp)
        simp at h0; subst h0
        exact ⟨v, t, o1, o2, rfl, rfl, h1, ih h2 (by simpa using hl) fun i q => by have := k (i + 1) (by simpa using q); simpa using this⟩
end env2
theorem Rel.sublist {G : Gx} {B H : Hp} {σ σ' : L2.St} {ρ ρ' : Ev} {As As' : List Addr} (r : Rel G B H σ ρ As) (e : RepEnv G B H ρ' σ' As') (s : As'.Sublist As) : Rel G B H σ' ρ' As' :=
  ⟨r.sub, r.tb, r.nd.sublist s, fun a h => r.ap a (s.subset h), e⟩
/-- an owned thing is frozen for good -/
theorem Apart.freeze {G : Gx} {B H B' H' : Hp} {o : O} {v : V} {own As As' : List Addr} {σ : L2.St} {ρ : Ev} (st : Step B H As B' H' (own ++ As')) (r : Rel G B' H' σ ρ As') (a : Apart G B' H' o v own As') :
    Step B H As (frz B' H' own) H' As' ∧ Rel G (frz B' H' own) H' σ ρ As' ∧ RepD G (frz B' H' own) o.fr v := by
  have bb : Same B' (frz B' H' own) := frz_bb fun b h => (a.ap b h).1
  have dj : ∀ b ∈ As', b ∉ own := fun b h z => (List.nodup_append.mp a.nd).2.2 b z b h rfl
  refine ⟨⟨st.bb.trans bb, frz_sub st.sub, fun b o h hn => ?_, fun b h => st.own b (List.mem_append_right _ h), st.there, st.tb⟩, ⟨frz_sub r.sub, r.tb, r.nd, fun b h => ?_, r.env.frame bb fun _ _ => rfl⟩, a.rep.freeze bb fun b h => frz_in h⟩
  · obtain ⟨h1, h2⟩ := st.keep b o h hn
    refine ⟨h1, ?_⟩
    rw [frz_out fun z => ?_]
    · exact h2
    · exact (st.own b (List.mem_append_left _ z)).elim hn fun q => by rw [h] at q; cases q
  · rw [frz_out (dj b h)]; exact r.ap b h

/-! ### targets -/
abbrev TgF := D → Ev → Option Ev
def tG (G : Gx) (sl : List Nat) (t : TgF) : TG := fun v σ H Q => ∃ ρ B As d ρ', Rel G B H σ ρ As ∧ RepD G B d v ∧ t d ρ = some ρ' ∧
  ∀ σ' As', Rel G B H σ' ρ' As' → (∀ a ∈ As', a ∈ As) → (∀ i, i ∉ sl → σ'[i]? = σ[i]?) → σ'.length = σ.length → Q σ' H
abbrev QG (X : Cx) (tg : Expr) (sl : List Nat) (t : TgF) : Prop := PG X tg (tG (gx X) sl t)
def goT : List TgF → List D → Ev → Option Ev
  | [], [], ρ => some ρ
  | t :: ts, d :: ds, ρ => (t d ρ).bind (goT ts ds)
  | _, _, _ => none
def tGs (G : Gx) (sl : List Nat) (ts : List TgF) : TGs := fun vs σ H Q => ∃ ρ B As ds ρ', Rel G B H σ ρ As ∧ RepDs G B ds vs ∧ goT ts ds ρ = some ρ' ∧
  ∀ σ' As', Rel G B H σ' ρ' As' → (∀ a ∈ As', a ∈ As) → (∀ i, i ∉ sl → σ'[i]? = σ[i]?) → σ'.length = σ.length → Q σ' H
abbrev QGs (X : Cx) (es : List Expr) (sl : List Nat) (ts : List TgF) : Prop := PGs X es (tGs (gx X) sl ts)
theorem pgs_imp {X : Cx} {es : List Expr} {t t' : TGs} (h : PGs X es t) (k : ∀ vs σ H Q, t' vs σ H Q → t vs σ H Q) : PGs X es t' := ⟨fun pins s σ H vs us Q I r q => h.run pins s σ H vs us Q I r (k _ _ _ _ q)⟩
section tgts
variable {X : Cx} {e : Expr} {es : List Expr} {t : TgF} {ts : List TgF} {sl sl' : List Nat} {pos : Pos}
def setT (i : Nat) : TgF := fun d ρ => some (ρ.set i (some (.fz d)))
theorem qg_name {i : Nat} {x : Str} (hN : X.N.Nodup) (hi : X.N[i]? = some x := by rfl) (hx : L2.Loc X.env.scope x := by first | exact Or.inl rfl | exact Or.inr rfl) (hf : X.fn x = true ∨ X.env.scope.names.lookup x = some .local := by first | exact .inl rfl | exact .inr rfl) : QG X (.Name x pos) [i] (setT i) :=
  pg_imp (pg_name (i := i) hN hi hx hf) fun v σ H Q ⟨ρ, B, As, d, ρ', R, r, e, k⟩ => by
    cases e
    obtain ⟨As', h1, h2, h3⟩ := R.env.assign i (o := .fz d) (v := v) (own := []) ⟨rfl, r⟩ R.nd
    refine k _ As' ⟨R.sub, R.tb, h2, fun a h => R.ap a (h3 a h), h1⟩ (fun a h => h3 a h) (fun j hj => ?_) (List.length_set ..)
    rw [List.getElem?_set_ne]
    intro z; exact hj (by simp [z])
theorem qgs_nil : QGs X [] [] [] := pgs_imp pgs_nil fun vs σ H Q ⟨ρ, B, As, ds, ρ', R, r, e, k⟩ => by
  cases ds with
  | nil =>
    simp only [goT, Option.some.injEq] at e; subst e
    simp only [RepDs] at r; subst r
    exact ⟨rfl, k σ As R (fun _ h => h) (fun _ _ => rfl) rfl⟩
  | cons d ds => simp [goT] at e
theorem qgs_cons (h : QG X e sl t) (hs : QGs X es sl' ts) (h1 : (assignEach (e :: es) X.env).map (·.2) = assign e X.env :: (assignEach es X.env).map (·.2) := by rfl) : QGs X (e :: es) (sl ++ sl') (t :: ts) :=
  pgs_imp (pgs_cons h hs h1) fun vs σ H Q ⟨ρ, B, As, ds, ρ', R, r, e, k⟩ => by
    cases ds with
    | nil => simp [goT] at e
    | cons d ds =>
      simp only [goT] at e
      obtain ⟨ρ1, e1, e2⟩ := Option.bind_eq_some_iff.mp e
      simp only [RepDs] at r
      obtain ⟨v, t', rfl, r1, r2⟩ := r
      refine ⟨v, t', rfl, ρ, B, As, d, ρ1, R, r1, e1, fun σ1 As1 R1 s1 k1 l1 => ⟨ρ1, B, As1, ds, ρ', R1, r2, e2, fun σ2 As2 R2 s2 k2 l2 => ?_⟩⟩
      exact k σ2 As2 R2 (fun a h => s1 a (s2 a h)) (fun i hi => (k2 i fun z => hi (List.mem_append_right _ z)).trans (k1 i fun z => hi (List.mem_append_left _ z))) (l2.trans l1)
def tupT (ts : List TgF) : TgF := fun d ρ => match d with | .tup ds => goT ts ds ρ | _ => none
def lstT (ts : List TgF) : TgF := fun d ρ => match d with | .lst ds => goT ts ds ρ | _ => none
theorem goT_len : ∀ {ts : List TgF} {ds : List D} {ρ ρ' : Ev}, goT ts ds ρ = some ρ' → ds.length = ts.length
  | [], [], _, _, _ => rfl
  | [], _ :: _, _, _, h => by simp [goT] at h
  | _ :: _, [], _, _, h => by simp [goT] at h
  | t :: ts, d :: ds, ρ, ρ', h => by
    simp only [goT] at h
    obtain ⟨ρ1, e1, e2⟩ := Option.bind_eq_some_iff.mp h
    simp [goT_len e2]
theorem qg_tup {k : Nat} (hc : X.calm = true) (h : QGs X es sl ts) (hn : (assignEach es X.env).length = ts.length := by rfl) (hst : (assignEach es X.env).findIdx? (·.1) = none := by rfl) : QG X (.Tuple es k pos) sl (tupT ts) :=
  pg_imp (pg_tup hc h hn hst) fun v σ H Q ⟨ρ, B, As, d, ρ', R, r, e, k⟩ => by
    unfold tupT at e
    split at e
    · simp only [RepD] at r
      obtain ⟨a, vs, rfl, h1, h2⟩ := r
      exact ⟨a, vs, rfl, Same.sqT R.sub h1, h2.length.trans (goT_len e), ρ, B, As, _, ρ', R, h2, e, k⟩
    · cases e
theorem qg_lst {k : Nat} (hc : X.calm = true) (h : QGs X es sl ts) (hn : (assignEach es X.env).length = ts.length := by rfl) (hst : (assignEach es X.env).findIdx? (·.1) = none := by rfl) : QG X (.Tuple es k pos) sl (lstT ts) :=
  pg_imp (pg_lst hc h hn hst) fun v σ H Q ⟨ρ, B, As, d, ρ', R, r, e, k⟩ => by
    unfold lstT at e
    split at e
    · simp only [RepD] at r
      obtain ⟨a, vs, rfl, h1, h2⟩ := r
      exact ⟨a, vs, rfl, SqL.of (R.sub _ _ h1), h2.length.trans (goT_len e), ρ, B, As, _, ρ', R, h2, e, k⟩
    · cases e
end tgts

/-! ### comprehensions -/
def lcGo (tgt : TgF) (gt : BF) (ge : PF) (ρ : Ev) : List D → Option (List D)
  | [] => some []
  | d :: ds => (tgt d ρ).bind fun ρ1 => (gt ρ1).bind fun b => if b = true then (ge ρ1).bind fun y => (lcGo tgt gt ge ρ ds).map (y :: ·) else lcGo tgt gt ge ρ ds
def lcN (gi : IF) (vs : List Nat) (tgt : TgF) (gt : BF) (ge : PF) : NF := fun ρ => (gi ρ).bind fun ds => if ds.length ≤ sizeLine then (lcGo tgt gt ge (wipeE ρ vs) ds).map .ls else none
theorem Grow.upd {B H B' H' : Hp} {p : Addr} {o : HO} (g : Grow B H B' H') (h : H p = none) (hb : B' p = none) : Grow B H B' (L2.upd H' p o) := by
  refine ⟨fun b u q => ?_, g.bb, fun b u q => ?_, g.old⟩
  · exact kept_tr (g.hh b u q) fun w e => kept_of (by rw [upd_ne (ne_of_none q h)]; exact e)
  · exact kept_tr (g.sub b u q) fun w e => kept_of (by rw [upd_ne (ne_of_none q hb)]; exact e)
def NoTab (H : Hp) (p : Addr) : Prop := ∀ ps, H p ≠ some (.tbl ps)
theorem NoTab.of_none {H : Hp} {p : Addr} (h : H p = none) : NoTab H p := fun ps z => by rw [h] at z; cases z
theorem NoTab.of_lst {H : Hp} {p : Addr} {vs : List V} (h : H p = some (.lst vs)) : NoTab H p := fun ps z => by rw [h] at z; cases z
theorem NoTab.tab {H : Hp} {p P : Addr} {o : HO} (h : NoTab H p) (t : GxR.TabG H P) : GxR.TabG (L2.upd H p o) P := by
  obtain ⟨ps, e, t⟩ := t
  refine ⟨ps, ?_, t⟩
  rw [upd_ne fun z => h ps (by rw [← z]; exact e)]; exact e
theorem Rel.upd {G : Gx} {B H : Hp} {σ : L2.St} {ρ : Ev} {As : List Addr} {p : Addr} {o : HO} (r : Rel G B H σ ρ As) (hb : B p = none) (ha : p ∉ As) (hp : NoTab H p) : Rel G B (L2.upd H p o) σ ρ As := by
  have ne : ∀ a ∈ As, a ≠ p := fun a h z => ha (z ▸ h)
  refine ⟨fun b u q => ?_, r.tb.to fun P t => hp.tab t, r.nd, fun a h => ⟨(r.ap a h).1, by rw [upd_ne (ne a h)]; exact (r.ap a h).2⟩, r.env.frame (.refl _) fun a h => upd_ne (ne a h)⟩
  exact kept_tr (r.sub b u q) fun w e => kept_of (by rw [upd_ne (ne_of_none q hb)]; exact e)
def tTs (G : Gx) (g : BF) := tT G g
abbrev QTs (X : Cx) (es : List Expr) (g : BF) : Prop := PTs X es (tT (gx X) g)
def yesB : BF := fun _ => some true
theorem qts_nil {X : Cx} : QTs X [] yesB := ⟨fun pins s σ H Q I ⟨ρ, B, As, b, R, e, k⟩ => by
  cases e
  exact (pts_nil (X := X)).run pins s σ H Q I (k B H (.refl R.sub))⟩
theorem qts_one {X : Cx} {e : Expr} {g : BF} (h : QT X e g) : QTs X [e] g := pts_one h
section lc
variable {X : Cx} {elt tg iter : Expr} {ifs : List Expr} {scope : Scope} {own : List (Str × Nat)} {pos : Pos} {gi : IF} {tgt : TgF} {gt : BF} {ge : PF} {sl : List Nat}
theorem lc_of {G : Gx} {ti : TI} (hi : ∀ σ H R, tIw G gi σ H R → ti σ H R) {vs : List Nat} (hsl : ∀ i ∈ sl, i ∈ vs) {σ : L2.St} {H : Hp} {Q : VK} (h : tN G (lcN gi vs tgt gt ge) σ H Q) :
    tLc ti (tG G sl tgt) (tT G gt) (tD G ge) vs σ H Q := by
  obtain ⟨ρ, B, As, o, R, e, k⟩ := h
  obtain ⟨ds, e1, e⟩ := Option.bind_eq_some_iff.mp e
  split at e
  case isFalse => cases e
  rename_i hz
  obtain ⟨fin, e2, rfl⟩ := Option.map_eq_some_iff.mp e
  refine hi σ H _ ⟨ρ, B, As, ds, R, e1, fun J B1 H1 g1 Y D hD => ?_⟩
  obtain ⟨As1, k1, s1⟩ := (R.grow g1).env.wipe vs
  have Rw : Rel G B1 H1 (L2.wipe σ vs) (wipeE ρ vs) As1 := (R.grow g1).sublist k1 s1
  have hB1 : B1 D = none := g1.sub.free hD
  refine ⟨fun i m H2 => m = ds.length - i ∧ i ≤ ds.length ∧ ∃ B2 acc done rest, Grow B1 H1 B2 H2 ∧ H2 D = some (.lst acc) ∧ B2 D = none ∧ RepDs G B2 done acc ∧ lcGo tgt gt ge (wipeE ρ vs) (ds.drop i) = some rest ∧ done ++ rest = fin ∧ done.length ≤ i,
    ⟨_, rfl, Nat.zero_le _, B1, [], [], fin, (Grow.refl g1.sub).upd hD hB1, upd_same, hB1, rfl, e2, rfl, Nat.zero_le _⟩, fun i m H2 ⟨hm, hi, B2, acc, done, rest, g2, hl, hb, ra, e3, e4, hd⟩ => ?_⟩
  by_cases hlt : i < ds.length
  · right
    have hdr : ds.drop i = ds[i] :: ds.drop (i + 1) := (List.drop_eq_getElem_cons hlt)
    rw [hdr] at e3
    simp only [lcGo] at e3
    obtain ⟨ρ1, t1, e3⟩ := Option.bind_eq_some_iff.mp e3
    obtain ⟨b, t2, e3⟩ := Option.bind_eq_some_iff.mp e3
    refine ⟨Y.go i H2 g2.hh hlt, fun H' => (ds.length - (i + 1) = ds.length - (i + 1) ∧ i + 1 ≤ ds.length ∧ ∃ B2 acc done rest, Grow B1 H1 B2 H' ∧ H' D = some (.lst acc) ∧ B2 D = none ∧ RepDs G B2 done acc ∧ lcGo tgt gt ge (wipeE ρ vs) (ds.drop (i + 1)) = some rest ∧ done ++ rest = fin ∧ done.length ≤ i + 1), fun H' z => ⟨_, by omega, z⟩, fun x H' hy => ?_⟩
    obtain ⟨rfl, rx⟩ := Y.yld i H2 x H' g2.hh hy
    have rx := rx ds[i] (List.getElem?_eq_getElem hlt)
    refine ⟨wipeE ρ vs, B2, As1, ds[i], ρ1, Rw.grow g2, rx.mono g2.bb, t1, fun σ2 As2 R2 _ ks ls => ⟨wipe_same hsl ks ls, ρ1, B2, As2, b, R2, t2, fun B3 H3 g3 => ?_⟩⟩
    have hD3 : H3 D = some (.lst acc) := g3.hh _ _ hl
    have hB3 : B3 D = none := (g3.old D (by rw [hl]; simp)).trans hb
    cases b with
    | false =>
      simp only [Bool.false_eq_true, if_false] at e3 ⊢
      exact ⟨trivial, hlt, B3, acc, done, rest, g2.trans g3, hD3, hB3, ra.mono g3.bb, e3, e4, by omega⟩
    | true =>
      simp only [if_true] at e3 ⊢
      obtain ⟨y, t3, e3⟩ := Option.bind_eq_some_iff.mp e3
      obtain ⟨rest', t4, rfl⟩ := Option.map_eq_some_iff.mp e3
      refine ⟨ρ1, B3, As2, y, R2.grow g3, t3, fun v B4 H4 g4 r4 => ?_⟩
      have hD4 : H4 D = some (.lst acc) := g4.hh _ _ hD3
      have hB4 : B4 D = none := (g4.old D (by rw [hD3]; simp)).trans hB3
      refine ⟨acc, hD4, ?_, trivial, hlt, B4, acc ++ [v], done ++ [y], rest', ((g2.trans g3).trans g4).upd hD hB4, upd_same, hB4, ((ra.mono g3.bb).mono g4.bb).append (RepDs.one r4), t4, by rw [← e4]; simp, by simp; omega⟩
      rw [ra.length]; omega
  · left
    have hi2 : i = ds.length := by omega
    subst hi2
    rw [List.drop_length] at e3
    simp only [lcGo, Option.some.injEq] at e3
    subst e3
    rw [List.append_nil] at e4; subst e4
    refine ⟨Y.stop _ H2 g2.hh (Nat.le_refl _), k (.ref D) B2 H2 [D] ⟨g1.trans g2, ⟨D, acc, rfl, rfl, hl, ra⟩, by simp, fun a h => ?_⟩⟩
    obtain rfl : a = D := by simpa using h
    exact ⟨Same.free g1.hh hD, hb, by rw [hl]; simp⟩
theorem qn_lc {vs : List Nat} (hc : X.calm = true) (hN : X.N.Nodup) (ok : BlkOk X.N X.env.scope scope own) (hi : QIw X tg iter gi)
    (hg : ∀ (s : Shared) (H : Hp) (C : Addr) (cl : List (Str × Addr)) (fp : List Addr), QG (X.blk s H scope (compEnvC scope cl C X.env) fp) tg sl tgt)
    (ht : ∀ (s : Shared) (H : Hp) (C : Addr) (cl : List (Str × Addr)) (fp : List Addr), QTs (X.blk s H scope (compEnvC scope cl C X.env) fp) ifs gt)
    (he : ∀ (s : Shared) (H : Hp) (C : Addr) (cl : List (Str × Addr)) (fp : List Addr), QD (X.blk s H scope (compEnvC scope cl C X.env) fp) elt ge)
    (hsl : ∀ i ∈ sl, i ∈ vs := by decide) (hvs : own.map (·.2) = vs := by rfl) (hf : ∀ x, foldedSetIterable iter X.env x = pure x := by intro _; rfl) : QN X (.ListComp elt [⟨tg, iter, ifs, 0⟩] scope pos) (lcN gi vs tgt gt ge) := by
  subst hvs
  obtain ⟨ti, h1, h2⟩ := hi
  exact pe_imp (pe_lc hc hN h1 ok hg ht he hf) fun σ H Q h => lc_of h2 hsl h
end lc
end Q

namespace Q
open PySem PySem.Spec PyProof.Rows L2

/-! ### statements -/
inductive Out where
  | nx | ret (o : O) | brk | ct
abbrev SF := Ev → Option (Out × Ev)
/-- the slots of π stay -/
def Keep (π : List Bool) (σ σ' : L2.St) : Prop := ∀ i : Nat, π[i]? = some true → σ'[i]? = σ[i]?
theorem Keep.refl {π : List Bool} {σ : L2.St} : Keep π σ σ := fun _ _ => rfl
theorem Keep.trans {π : List Bool} {σ σ1 σ2 : L2.St} (a : Keep π σ σ1) (b : Keep π σ1 σ2) : Keep π σ σ2 := fun i h => (b i h).trans (a i h)
def Post (G : Gx) (π : List Bool) (Dn : Ends) (σ : L2.St) (B H : Hp) (As : List Addr) (ρ' : Ev) : Out → Prop
  | .nx => ∀ σ' B' H' As', Step B H As B' H' As' → Rel G B' H' σ' ρ' As' → Keep π σ σ' → Dn.nx σ' H'
  | .brk => ∀ σ' B' H' As', Step B H As B' H' As' → Rel G B' H' σ' ρ' As' → Keep π σ σ' → Dn.bk σ' H'
  | .ct => ∀ σ' B' H' As', Step B H As B' H' As' → Rel G B' H' σ' ρ' As' → Keep π σ σ' → Dn.ct σ' H'
  | .ret o => ∀ v σ' B' H' As' own, Step B H As B' H' (own ++ As') → Rel G B' H' σ' ρ' As' → Apart G B' H' o v own As' → Keep π σ σ' → Dn.rt v H'
def tS (G : Gx) (π : List Bool) (ex : SF) : TS := fun Dn σ H => ∃ ρ B As out ρ', Rel G B H σ ρ As ∧ ex ρ = some (out, ρ') ∧ Post G π Dn σ B H As ρ' out
abbrev QS (X : Cx) (π : List Bool) (st : Stmt) (ex : SF) : Prop := PS X st (tS (gx X) π ex)
abbrev QSs (X : Cx) (π : List Bool) (st : List Stmt) (ex : SF) : Prop := PSs X st (tS (gx X) π ex)
theorem Post.later {G : Gx} {π : List Bool} {Dn : Ends} {σ σ1 : L2.St} {B H B1 H1 : Hp} {As As1 : List Addr} {ρ' : Ev} {out : Out} (p : Post G π Dn σ B H As ρ' out) (s : Step B H As B1 H1 As1) (k : Keep π σ σ1) : Post G π Dn σ1 B1 H1 As1 ρ' out := by
  cases out with
  | nx => exact fun σ' B' H' As' s' r k' => p σ' B' H' As' (s.trans s') r (k.trans k')
  | brk => exact fun σ' B' H' As' s' r k' => p σ' B' H' As' (s.trans s') r (k.trans k')
  | ct => exact fun σ' B' H' As' s' r k' => p σ' B' H' As' (s.trans s') r (k.trans k')
  | ret o => exact fun v σ' B' H' As' own s' r a k' => p v σ' B' H' As' own (s.trans s') r a (k.trans k')
section stmts
variable {X : Cx} {π : List Bool} {pos : Pos}
def skipS : SF := fun ρ => some (.nx, ρ)
def seqS (a b : SF) : SF := fun ρ => (a ρ).bind fun r => match r.1 with
  | .nx => b r.2
  | o => some (o, r.2)
def ifS (g : BF) (a b : SF) : SF := fun ρ => (g ρ).bind fun c => if c = true then a ρ else b ρ
theorem qss_nil : QSs X π [] skipS := pss_imp pss_nil fun Dn σ H ⟨ρ, B, As, out, ρ', R, e, p⟩ => by
  cases e
  exact p σ B H As (.refl R.sub As) R .refl
theorem qss_cons {st : Stmt} {rest : List Stmt} {a b : SF} (ha : QS X π st a) (hb : QSs X π rest b) : QSs X π (st :: rest) (seqS a b) := pss_imp (pss_cons ha hb) fun Dn σ H ⟨ρ, B, As, out, ρ', R, e, p⟩ => by
  obtain ⟨⟨o1, ρ1⟩, e1, e2⟩ := Option.bind_eq_some_iff.mp e
  refine ⟨ρ, B, As, o1, ρ1, R, e1, ?_⟩
  cases o1 with
  | nx => exact fun σ1 B1 H1 As1 s1 R1 k1 => ⟨ρ1, B1, As1, out, ρ', R1, e2, p.later s1 k1⟩
  | brk => cases e2; exact p
  | ct => cases e2; exact p
  | ret o => cases e2; exact p
theorem qss_one {st : Stmt} {a : SF} (ha : QS X π st a) : QSs X π [st] (seqS a skipS) := qss_cons ha qss_nil
theorem qs_if {c : Expr} {a b : List Stmt} {g : BF} {sa sb : SF} (hc : QT X c g) (ha : QSs X π a sa) (hb : QSs X π b sb) : QS X π (.If c a b pos) (ifS g sa sb) := ps_imp (ps_if hc ha hb) fun Dn σ H ⟨ρ, B, As, out, ρ', R, e, p⟩ => by
  obtain ⟨k, e1, e2⟩ := Option.bind_eq_some_iff.mp e
  refine ⟨ρ, B, As, k, R, e1, fun B1 H1 g1 => ?_⟩
  cases k with
  | true => simp only [if_true] at e2 ⊢; exact ⟨ρ, B1, As, out, ρ', R.grow g1, e2, p.later (g1.step As) .refl⟩
  | false => simp only [if_false, Bool.false_eq_true] at e2 ⊢; exact ⟨ρ, B1, As, out, ρ', R.grow g1, e2, p.later (g1.step As) .refl⟩
def retS (g : EF) : SF := fun ρ => (g ρ).map fun r => (.ret r.1, r.2)
theorem qs_ret {e : Expr} {g : EF} (h : QE X e g) : QS X π (.Return (some e) pos) (retS g) := ps_imp (ps_ret h) fun Dn σ H ⟨ρ, B, As, out, ρ', R, e, p⟩ => by
  obtain ⟨⟨o, ρ1⟩, e1, e2⟩ := Option.map_eq_some_iff.mp e
  cases e2
  exact ⟨ρ, B, As, o, ρ1, R, e1, fun v B' H' As' own s r a => p v σ B' H' As' own s r a .refl⟩
def retN : SF := fun ρ => some (.ret (.fz .non), ρ)
theorem qs_retN : QS X π (.Return none pos) retN := ps_imp ps_retN fun Dn σ H ⟨ρ, B, As, out, ρ', R, e, p⟩ => by
  cases e
  exact p .non σ B H As [] (.refl R.sub As) R (.fz rfl R.nd) .refl
theorem qs_pass : QS X π (.Pass pos) skipS := ps_imp ps_pass fun Dn σ H ⟨ρ, B, As, out, ρ', R, e, p⟩ => by
  cases e
  exact p σ B H As (.refl R.sub As) R .refl
def brkS : SF := fun ρ => some (.brk, ρ)
def ctS : SF := fun ρ => some (.ct, ρ)
theorem qs_break : QS X π (.Break pos) brkS := ps_imp ps_break fun Dn σ H ⟨ρ, B, As, out, ρ', R, e, p⟩ => by
  cases e
  exact p σ B H As (.refl R.sub As) R .refl
theorem qs_continue : QS X π (.Continue pos) ctS := ps_imp ps_continue fun Dn σ H ⟨ρ, B, As, out, ρ', R, e, p⟩ => by
  cases e
  exact p σ B H As (.refl R.sub As) R .refl
def exprS (g : EF) : SF := fun ρ => (g ρ).map fun r => (.nx, r.2)
theorem qs_expr {e : Expr} {g : EF} (h : QE X e g) (hs : swapsWith e none pos.line X.env = pure false := by rfl) : QS X π (.Expr e pos) (exprS g) := ps_imp (ps_expr h hs) fun Dn σ H ⟨ρ, B, As, out, ρ', R, e, p⟩ => by
  obtain ⟨⟨o, ρ1⟩, e1, e2⟩ := Option.map_eq_some_iff.mp e
  cases e2
  exact ⟨ρ, B, As, o, ρ1, R, e1, fun v B' H' As' own s r a => p σ B' H' As' (s.less fun _ h => List.mem_append_right _ h) r .refl⟩
/-- x = e -/
def setS (i : Nat) (g : EF) : SF := fun ρ => (g ρ).map fun r => (.nx, r.2.set i (some r.1))
theorem set_of {G : Gx} {Dn : Ends} {σ : L2.St} {H : Hp} {i : Nat} {g : EF} (hp : π[i]? ≠ some true) (h : tS G π (setS i g) Dn σ H) : tAsg (tE G g) (gName i) Dn σ H := by
  obtain ⟨ρ, B, As, out, ρ', R, e, p⟩ := h
  obtain ⟨⟨o, ρ1⟩, e1, e2⟩ := Option.map_eq_some_iff.mp e
  cases e2
  refine ⟨ρ, B, As, o, ρ1, R, e1, fun v B' H' As' own s r a => ?_⟩
  obtain ⟨As2, h1, h2, h3⟩ := r.env.assign i a.rep a.nd
  refine p _ B' H' As2 (s.less h3) ⟨r.sub, r.tb, h2, fun b hb => ?_, h1⟩ fun j hj => ?_
  · rcases List.mem_append.mp (h3 b hb) with z | z
    · exact a.ap b z
    · exact r.ap b z
  · rw [List.getElem?_set_ne]
    rintro rfl; exact hp hj
theorem qs_set {i : Nat} {x : Str} {e : Expr} {g : EF} {pos' : Pos} (hN : X.N.Nodup) (h : QE X e g) (hp : π[i]? ≠ some true := by decide) (hi : X.N[i]? = some x := by rfl) (hx : L2.Loc X.env.scope x := by first | exact Or.inl rfl | exact Or.inr rfl)
    (hs : swapsWith e (some (.Name x pos')) pos.line X.env = pure false := by rfl) (hf : X.fn x = true ∨ X.env.scope.names.lookup x = some .local := by first | exact .inl rfl | exact .inr rfl) : QS X π (.Assign [.Name x pos'] e pos) (setS i g) :=
  ps_imp (ps_set hN hi hx h hs hf) fun Dn σ H h => set_of hp h
/-- a target = e -/
def asgS (t : TgF) (g : EF) : SF := fun ρ => (g ρ).bind fun r => (t r.1.fr r.2).map fun ρ' => (.nx, ρ')
theorem qs_asg {tg e : Expr} {t : TgF} {sl : List Nat} {g : EF} (h : QE X e g) (ht : QG X tg sl t) (hp : ∀ i ∈ sl, π[i]? ≠ some true := by decide) (hs : swapsWithSole [tg] e pos.line X.env = pure false := by rfl) (hw : swappedStores [tg] e X.env = pure none := by rfl)
    (h1 : (assignEach [tg] X.env).map (·.2) = [assign tg X.env] := by rfl) : QS X π (.Assign [tg] e pos) (asgS t g) := ps_imp (ps_asg h ht hs hw h1) fun Dn σ H ⟨ρ, B, As, out, ρ', R, e, p⟩ => by
  obtain ⟨⟨o, ρ1⟩, e1, e2⟩ := Option.bind_eq_some_iff.mp e
  obtain ⟨ρ2, e3, e4⟩ := Option.map_eq_some_iff.mp e2
  cases e4
  refine ⟨ρ, B, As, o, ρ1, R, e1, fun v B' H' As' own s r a => ?_⟩
  obtain ⟨s2, r2, rv⟩ := a.freeze s r
  refine ⟨ρ1, _, As', o.fr, _, r2, rv, e3, fun σ3 As3 R3 s3 k3 l3 => p σ3 _ H' As3 (s2.less s3) R3 fun j hj => k3 j fun z => hp j z hj⟩
/-- x op= e, ints -/
def augS (i : Nat) (f : Int → Int → Int) (g : PF) : SF := fun ρ => (g ρ).bind fun d => match d, ρ[i]?.join with
  | .int b, some (.fz (.int a)) => some (.nx, ρ.set i (some (.fz (.int (f a b)))))
  | _, _ => none
theorem qs_aug {i : Nat} {x : Str} {e : Expr} {g : PF} {op : Operator} {f : Int → Int → Int} {pos' : Pos} (hN : X.N.Nodup) (ho : OpR X (inplaceOp op) (rI0 fun i j => .int (f i j))) (h : QD X e g) (hp : π[i]? ≠ some true := by decide) (hi : X.N[i]? = some x := by rfl)
    (hx : L2.Loc X.env.scope x := by first | exact Or.inl rfl | exact Or.inr rfl) (hf : X.fn x = true ∨ X.env.scope.names.lookup x = some .local := by first | exact .inl rfl | exact .inr rfl) : QS X π (.AugAssign (.Name x pos') op e pos) (augS i f g) :=
  ps_imp (ps_aug (ti := rI0 fun i j => .int (f i j)) hN hi hx h ho hf) fun Dn σ H ⟨ρ, B, As, out, ρ', R, e, p⟩ => by
  obtain ⟨d, e1, e2⟩ := Option.bind_eq_some_iff.mp e
  split at e2
  · rename_i b a q
    cases e2
    obtain ⟨v, own, As1, h1, h2, h3, h4⟩ := R.env.out (join_some q)
    simp only [RepO, RepD] at h2
    obtain ⟨rfl, rfl⟩ := h2
    refine ⟨_, h1, ρ, B, As, _, R, e1, fun w B' H' g' r => ?_⟩
    simp only [RepD] at r; subst r
    refine ⟨a, b, rfl, rfl, ?_⟩
    have R' := R.grow g'
    obtain ⟨As2, k1, k2, k3⟩ := R'.env.assign i (o := .fz (.int (f a b))) (v := .int (f a b)) (own := []) ⟨rfl, rfl⟩ R'.nd
    refine p _ B' H' As2 ((g'.step As).less fun a h => k3 a h) ⟨g'.sub, R'.tb, k2, fun a h => R'.ap a (k3 a h), k1⟩ fun j hj => ?_
    rw [List.getElem?_set_ne]
    rintro rfl; exact hp hj
  · cases e2
/-- freeze a slot ahead of a statement -/
def frzS (i : Nat) (ex : SF) : SF := fun ρ => match ρ[i]?.join with
  | some o => ex (ρ.set i (some (.fz o.fr)))
  | none => ex ρ
theorem frz_of {G : Gx} {i : Nat} {ex : SF} {Dn : Ends} {σ : L2.St} {H : Hp} (h : tS G π (frzS i ex) Dn σ H) : tS G π ex Dn σ H := by
  obtain ⟨ρ, B, As, out, ρ', R, e, p⟩ := h
  unfold frzS at e
  split at e
  · rename_i o q
    have q := join_some q
    obtain ⟨v, own, As1, h1, h2, h3, h4⟩ := R.env.out q
    have nd : (own ++ As1).Nodup := h4.symm.nodup R.nd
    have own_in : ∀ a ∈ own, a ∈ As := fun a h => h4.mem_iff.mp (List.mem_append_left _ h)
    have as_in : ∀ a ∈ As1, a ∈ As := fun a h => h4.mem_iff.mp (List.mem_append_right _ h)
    have bb : Same B (frz B H own) := frz_bb fun a h => (R.ap a (own_in a h)).1
    have rd : RepD G (frz B H own) o.fr v := h2.freeze bb fun a h => frz_in h
    have k3 : RepEnv G (frz B H own) H (ρ.set i none) σ As1 := h3.frame bb fun _ _ => rfl
    obtain ⟨As2, k4, k5⟩ := k3.put (i := i) (o := .fz o.fr) (v := v) (own := []) (by rw [List.getElem?_set_self (List.getElem?_eq_some_iff.mp q).1]) h1 ⟨rfl, rd⟩
    rw [List.set_set] at k4
    have dj : ∀ a ∈ As1, a ∉ own := fun a h z => (List.nodup_append.mp nd).2.2 a z a h rfl
    have R2 : Rel G (frz B H own) H σ (ρ.set i (some (.fz o.fr))) As2 := ⟨frz_sub R.sub, R.tb, k5.symm.nodup (List.nodup_append.mp nd).2.1, fun a h => by
      have h := k5.mem_iff.mp h
      rw [frz_out (dj a h)]; exact R.ap a (as_in a h), k4⟩
    refine ⟨_, _, As2, out, ρ', R2, e, p.later ⟨bb, frz_sub R.sub, fun a o h hn => ⟨kept_of h, frz_out fun z => hn (own_in a z)⟩, fun a h => .inl (as_in a (k5.mem_iff.mp h)), fun a h => h, fun _ t => t⟩ .refl⟩
  · exact ⟨ρ, B, As, out, ρ', R, e, p⟩
theorem qs_frz {st : Stmt} {ex : SF} {i : Nat} (h : QS X π st ex) : QS X π st (frzS i ex) := ps_imp h fun Dn σ H h => frz_of h
/-! ### loops -/
def forGo (tgt : TgF) (body : SF) : List D → SF
  | [], ρ => some (.nx, ρ)
  | d :: ds, ρ => (tgt d ρ).bind fun ρ1 => (body ρ1).bind fun r => match r.1 with
    | .nx => forGo tgt body ds r.2
    | .ct => forGo tgt body ds r.2
    | .brk => some (.nx, r.2)
    | .ret o => some (.ret o, r.2)
def forS (gi : IF) (tgt : TgF) (body : SF) : SF := fun ρ => (gi ρ).bind fun ds => forGo tgt body ds ρ
theorem for_of {G : Gx} {ti : TI} {gi : IF} {tgt : TgF} {body : SF} {sl : List Nat} (hi : ∀ σ H R, tI G gi σ H R → ti σ H R) (hp : ∀ i ∈ sl, π[i]? ≠ some true) {Dn : Ends} {σ : L2.St} {H : Hp} (h : tS G π (forS gi tgt body) Dn σ H) :
    tFor ti (tG G sl tgt) (tS G π body) Dn σ H := by
  obtain ⟨ρ, B, As, out, ρ', R, e, p⟩ := h
  obtain ⟨ds, e1, e2⟩ := Option.bind_eq_some_iff.mp e
  refine hi σ H _ ⟨ρ, B, As, ds, R, e1, fun J B1 H1 g1 Y => ?_⟩
  refine ⟨fun i m σ2 H2 => m = ds.length - i ∧ i ≤ ds.length ∧ ∃ B2 As2 ρ2, Step B1 H1 As B2 H2 As2 ∧ Keep π σ σ2 ∧ Rel G B2 H2 σ2 ρ2 As2 ∧ forGo tgt body (ds.drop i) ρ2 = some (out, ρ'),
    ⟨_, rfl, Nat.zero_le _, B1, As, ρ, .refl g1.sub As, .refl, R.grow g1, e2⟩, fun i m σ2 H2 ⟨hm, hi, B2, As2, ρ2, s2, k2, R2, e3⟩ => ?_⟩
  have sm : Same B1 H2 := s2.bb.trans R2.sub
  by_cases hlt : i < ds.length
  · right
    rw [List.drop_eq_getElem_cons hlt] at e3
    simp only [forGo] at e3
    obtain ⟨ρ3, t1, e3⟩ := Option.bind_eq_some_iff.mp e3
    obtain ⟨⟨o, ρ4⟩, t2, e3⟩ := Option.bind_eq_some_iff.mp e3
    refine ⟨Y.go i H2 sm hlt, fun σ' H' => (ds.length - (i + 1) = ds.length - (i + 1) ∧ i + 1 ≤ ds.length ∧ ∃ B2 As2 ρ2, Step B1 H1 As B2 H' As2 ∧ Keep π σ σ' ∧ Rel G B2 H' σ' ρ2 As2 ∧ forGo tgt body (ds.drop (i + 1)) ρ2 = some (out, ρ')), fun σ' H' z => ⟨_, by omega, z⟩, fun x H' hy => ?_⟩
    obtain ⟨rfl, rx⟩ := Y.yld i H2 x H' sm hy
    have rx := (rx ds[i] (List.getElem?_eq_getElem hlt)).mono s2.bb
    refine ⟨ρ2, B2, As2, ds[i], ρ3, R2, rx, t1, fun σ3 As3 R3 s3 k3 l3 => ⟨ρ3, B2, As3, o, ρ4, R3, t2, ?_⟩⟩
    have kk : Keep π σ σ3 := k2.trans fun j hj => k3 j fun z => hp j z hj
    have ss : Step B1 H1 As B2 H' As3 := s2.less s3
    cases o with
    | nx => exact fun σ5 B5 H5 As5 s5 R5 k5 => ⟨rfl, hlt, B5, As5, ρ4, ss.trans s5, kk.trans k5, R5, e3⟩
    | ct => exact fun σ5 B5 H5 As5 s5 R5 k5 => ⟨rfl, hlt, B5, As5, ρ4, ss.trans s5, kk.trans k5, R5, e3⟩
    | brk => cases e3; exact fun σ5 B5 H5 As5 s5 R5 k5 => p σ5 B5 H5 As5 ((g1.step As).trans (ss.trans s5)) R5 (kk.trans k5)
    | ret o => cases e3; exact fun v σ5 B5 H5 As5 own s5 R5 a5 k5 => p v σ5 B5 H5 As5 own ((g1.step As).trans (ss.trans s5)) R5 a5 (kk.trans k5)
  · left
    have hi2 : i = ds.length := by omega
    subst hi2
    rw [List.drop_length] at e3
    simp only [forGo] at e3
    cases e3
    exact ⟨Y.stop _ H2 sm (Nat.le_refl _), p σ2 B2 H2 As2 ((g1.step As).trans s2) R2 k2⟩
theorem qs_for {tg iter : Expr} {body : List Stmt} {gi : IF} {tgt : TgF} {sb : SF} {sl : List Nat} (hpo : PassesOwn (model X.prog X.w) X.A X.env X.xe) (hc : X.calm = true) (hi : QI X tg iter gi) (ht : QG X tg sl tgt) (hb : QSs X π body sb)
    (hp : ∀ i ∈ sl, π[i]? ≠ some true := by decide) (hf : ∀ x, foldedSetIterable iter X.env x = pure x := by intro _; rfl) : QS X π (.For tg iter body [] pos) (forS gi tgt sb) := by
  obtain ⟨ti, h1, h2⟩ := hi
  exact ps_imp (ps_for hpo hc h1 ht hb hf) fun Dn σ H h => for_of h2 hp h
def whileN (gc : BF) (body : SF) : Nat → SF
  | 0, _ => none
  | n + 1, ρ => (gc ρ).bind fun b => if b = true then (body ρ).bind fun r => match r.1 with
    | .nx => whileN gc body n r.2
    | .ct => whileN gc body n r.2
    | .brk => some (.nx, r.2)
    | .ret o => some (.ret o, r.2)
    else some (.nx, ρ)
open Classical in
noncomputable def whileS (gc : BF) (body : SF) : SF := fun ρ => if h : ∃ n, (whileN gc body n ρ).isSome then whileN gc body h.choose ρ else none
theorem whileN_up {gc : BF} {body : SF} : ∀ {n m : Nat} {ρ : Ev} {r : Out × Ev}, whileN gc body n ρ = some r → n ≤ m → whileN gc body m ρ = some r
  | 0, m, ρ, r, h, _ => by simp [whileN] at h
  | n + 1, 0, ρ, r, h, hl => by omega
  | n + 1, m + 1, ρ, r, h, hl => by
    simp only [whileN] at h ⊢
    obtain ⟨b, e1, e2⟩ := Option.bind_eq_some_iff.mp h
    rw [e1]
    show (if b = true then _ else _) = _
    split
    · rename_i hb
      rw [if_pos hb] at e2
      obtain ⟨⟨o, ρ1⟩, e3, e4⟩ := Option.bind_eq_some_iff.mp e2
      rw [e3]
      cases o with
      | nx => exact whileN_up (n := n) (m := m) e4 (by omega)
      | ct => exact whileN_up (n := n) (m := m) e4 (by omega)
      | brk => exact e4
      | ret o => exact e4
    · rename_i hb
      rw [if_neg hb] at e2; exact e2
theorem whileS_of {gc : BF} {body : SF} {n : Nat} {ρ : Ev} {r : Out × Ev} (h : whileN gc body n ρ = some r) : whileS gc body ρ = some r := by
  have hx : ∃ n, (whileN gc body n ρ).isSome := ⟨n, by rw [h]; rfl⟩
  unfold whileS
  rw [dif_pos hx]
  obtain ⟨q, hq⟩ := Option.isSome_iff_exists.mp hx.choose_spec
  rw [hq]
  have a := whileN_up h (Nat.le_max_left n hx.choose)
  have b := whileN_up hq (Nat.le_max_right n hx.choose)
  rw [a] at b; exact b.symm
theorem whileS_ex {gc : BF} {body : SF} {ρ : Ev} {r : Out × Ev} (h : whileS gc body ρ = some r) : ∃ n, whileN gc body n ρ = some r := by
  unfold whileS at h
  split at h
  · exact ⟨_, h⟩
  · cases h
/-- one turn -/
theorem whileS_step {gc : BF} {body : SF} {ρ : Ev} {r : Out × Ev} (h : ((gc ρ).bind fun b => if b = true then (body ρ).bind fun r => match r.1 with
    | .nx => whileS gc body r.2
    | .ct => whileS gc body r.2
    | .brk => some (.nx, r.2)
    | .ret o => some (.ret o, r.2)
    else some (.nx, ρ)) = some r) : whileS gc body ρ = some r := by
  obtain ⟨b, e1, e2⟩ := Option.bind_eq_some_iff.mp h
  split at e2
  · rename_i hb
    subst hb
    obtain ⟨⟨o, ρ1⟩, e3, e4⟩ := Option.bind_eq_some_iff.mp e2
    cases o with
    | nx =>
      obtain ⟨n, hn⟩ := whileS_ex e4
      refine whileS_of (n := n + 1) ?_
      simp only [whileN, e1, e3, Option.bind_some, if_true]
      exact hn
    | ct =>
      obtain ⟨n, hn⟩ := whileS_ex e4
      refine whileS_of (n := n + 1) ?_
      simp only [whileN, e1, e3, Option.bind_some, if_true]
      exact hn
    | brk =>
      refine whileS_of (n := 1) ?_
      simp only [whileN, e1, e3, Option.bind_some, if_true]
      exact e4
    | ret o =>
      refine whileS_of (n := 1) ?_
      simp only [whileN, e1, e3, Option.bind_some, if_true]
      exact e4
  · rename_i hb
    refine whileS_of (n := 1) ?_
    simp only [whileN, e1, Option.bind_some]
    rw [if_neg hb]; exact e2
theorem while_of {G : Gx} {gc : BF} {body : SF} {Dn : Ends} {σ : L2.St} {H : Hp} (h : tS G π (whileS gc body) Dn σ H) : tWhile (tT G gc) (tS G π body) Dn σ H := by
  obtain ⟨ρ, B, As, out, ρ', R, e, p⟩ := h
  obtain ⟨n, e1⟩ := whileS_ex e
  refine ⟨fun m σ2 H2 => ∃ B2 As2 ρ2, Step B H As B2 H2 As2 ∧ Keep π σ σ2 ∧ Rel G B2 H2 σ2 ρ2 As2 ∧ whileN gc body m ρ2 = some (out, ρ'), ⟨n, B, As, ρ, .refl R.sub As, .refl, R, e1⟩, fun m σ2 H2 ⟨B2, As2, ρ2, s2, k2, R2, e2⟩ => ?_⟩
  cases m with
  | zero => simp [whileN] at e2
  | succ m =>
    simp only [whileN] at e2
    obtain ⟨b, t1, e2⟩ := Option.bind_eq_some_iff.mp e2
    refine ⟨ρ2, B2, As2, b, R2, t1, fun B3 H3 g3 => ?_⟩
    have s3 : Step B H As B3 H3 As2 := s2.trans (g3.step As2)
    cases b with
    | false =>
      simp only [Bool.false_eq_true, if_false] at e2 ⊢
      cases e2
      exact p σ2 B3 H3 As2 s3 (R2.grow g3) k2
    | true =>
      simp only [if_true] at e2 ⊢
      obtain ⟨⟨o, ρ4⟩, t2, e2⟩ := Option.bind_eq_some_iff.mp e2
      refine ⟨fun σ' H' => ∃ B2 As2 ρ2, Step B H As B2 H' As2 ∧ Keep π σ σ' ∧ Rel G B2 H' σ' ρ2 As2 ∧ whileN gc body m ρ2 = some (out, ρ'), fun σ' H' z => ⟨m, by omega, z⟩, ρ2, B3, As2, o, ρ4, R2.grow g3, t2, ?_⟩
      cases o with
      | nx => exact fun σ5 B5 H5 As5 s5 R5 k5 => ⟨B5, As5, ρ4, s3.trans s5, k2.trans k5, R5, e2⟩
      | ct => exact fun σ5 B5 H5 As5 s5 R5 k5 => ⟨B5, As5, ρ4, s3.trans s5, k2.trans k5, R5, e2⟩
      | brk => cases e2; exact fun σ5 B5 H5 As5 s5 R5 k5 => p σ5 B5 H5 As5 (s3.trans s5) R5 (k2.trans k5)
      | ret o => cases e2; exact fun v σ5 B5 H5 As5 own s5 R5 a5 k5 => p v σ5 B5 H5 As5 own (s3.trans s5) R5 a5 (k2.trans k5)
theorem qs_while {c : Expr} {body : List Stmt} {gc : BF} {sb : SF} (hpo : PassesOwn (model X.prog X.w) X.A X.env X.xe) (hc : QT X c gc) (hb : QSs X π body sb) : QS X π (.While c body [] pos) (whileS gc sb) :=
  ps_imp (ps_while hpo hc hb) fun Dn σ H h => while_of h
end stmts

/-! ### changes of an owned slot -/
/-- what stands at slot i becomes o2, at the same place -/
theorem Rel.change {G : Gx} {B H H' : Hp} {σ : L2.St} {ρ : Ev} {As : List Addr} {i : Nat} {o o2 : O} (R : Rel G B H σ ρ As) (q : ρ[i]? = some (some o))
    (f : ∀ v own, σ[i]? = some (some v) → RepO G B H o v own → (∀ a ∈ own, a ∈ As) → RepO G B H' o2 v own ∧ (∀ b, b ∉ own → H' b = H b) ∧ (∀ b ∈ own, H' b ≠ none)) :
    ∃ As2, Rel G B H' σ (ρ.set i (some o2)) As2 ∧ Step B H As B H' As2 := by
  obtain ⟨v, own, As1, h1, h2, h3, h4⟩ := R.env.out q
  have nd : (own ++ As1).Nodup := h4.symm.nodup R.nd
  have own_in : ∀ a ∈ own, a ∈ As := fun a h => h4.mem_iff.mp (List.mem_append_left _ h)
  have as_in : ∀ a ∈ As1, a ∈ As := fun a h => h4.mem_iff.mp (List.mem_append_right _ h)
  obtain ⟨f1, f2, f3⟩ := f v own h1 h2 own_in
  have dj : ∀ a ∈ As1, a ∉ own := fun a h z => (List.nodup_append.mp nd).2.2 a z a h rfl
  have k3 : RepEnv G B H' (ρ.set i none) σ As1 := h3.frame (.refl _) fun a h => f2 a (dj a h)
  obtain ⟨As2, k4, k5⟩ := k3.put (i := i) (o := o2) (by rw [List.getElem?_set_self (List.getElem?_eq_some_iff.mp q).1]) h1 f1
  rw [List.set_set] at k4
  have perm : As2.Perm As := k5.trans h4
  have ne : ∀ a, H a ≠ none → H' a ≠ none := fun a h => by
    by_cases z : a ∈ own
    · exact f3 a z
    · rw [f2 a z]; exact h
  have sub : Same B H' := fun a u h => kept_tr (R.sub a u h) fun w e => kept_of (by
    rw [f2 a fun z => ?_]
    · exact e
    · have := (R.ap a (own_in a z)).1
      rw [h] at this; cases this)
  have tb : ∀ P, GxR.TabG H P → GxR.TabG H' P := fun P ⟨ps, e, t⟩ => by
    refine ⟨ps, ?_, t⟩
    rw [f2 P fun z => ?_]
    · exact e
    · obtain ⟨u, e2, n⟩ := h2.dat P z
      rw [e] at e2; cases e2; cases n
  refine ⟨As2, ⟨sub, R.tb.to tb, perm.symm.nodup R.nd, fun a h => ?_, k4⟩, ⟨.refl _, sub, fun a u h hn => ⟨kept_of ?_, rfl⟩, fun a h => .inl (perm.mem_iff.mp h), ne, tb⟩⟩
  · have := R.ap a (perm.mem_iff.mp h)
    exact ⟨this.1, ne a this.2⟩
  · rw [f2 a fun z => hn (own_in a z)]; exact h
section change
variable {X : Cx} {π : List Bool}
def isLs : O → Bool
  | .ls _ => true
  | _ => false
/-- x.append(e) -/
def appS (i : Nat) (g : EF) : SF := fun ρ => (ρ[i]?.join).bind fun o0 => if isLs o0 = true then (g ρ).bind fun r => (r.2[i]?.join).bind fun o => match o with
  | .ls ds => if ds.length < sizeLine then some (.nx, r.2.set i (some (.ls (ds ++ [r.1.fr])))) else none
  | _ => none
  else none
theorem qs_append {i : Nat} {x : Str} {e : Expr} {g : EF} {p1 p2 p3 p4 : Pos} (h : QE X e g) (hN : X.N[i]? = some x := by rfl) (hv : Vis X.env.scope x := by first | exact Or.inl rfl | exact Or.inr (Or.inl rfl) | exact Or.inr (Or.inr rfl)) (hd : (x == ("__debug__" : Str)) = false := by decide)
    (hcd : (x == ("__classdict__" : Str)) = false := by decide)
    (hbase : attributeBase (.Name x p1) "append" X.env (eval (.Name x p1) X.env) = eval (.Name x p1) X.env := by rfl)
    (hfew : ((backTo p3 (starEach (e :: []) X.env)).all (fun x => !x.1) && (backToKw p3 (keywordEach [] X.env)).all (fun x => x.1.isSome)
      && decide ((e :: []).length + ([] : List Keyword).length + (if ([] : List Keyword).isEmpty then 0 else 1) < 30)) = true := by rfl)
    (hline : (p2.endLine == p3.line) = true := by rfl) (hs : starEach (e :: []) X.env = (false, eval e X.env) :: starEach [] X.env := by rfl) (hplain : (backTo p3 (starEach [] X.env)).any (·.1) = false := by rfl)
    (hsw : swapsWith (.Call (.Attribute (.Name x p1) "append" p2) [e] [] p3) none p4.line X.env = pure false := by rfl) :
    QS X π (.Expr (.Call (.Attribute (.Name x p1) "append" p2) [e] [] p3) p4) (appS i g) :=
  ps_imp (ps_expr (pe_bm PySem.F.plainAttrs_list PySem.F.slot_list_append PySem.F.type_list_append mt_append (pe_var (i := i) hN hv hd hcd) (pa_cons h pa_nil hs) hbase hfew hline hs hplain) hsw) fun Dn σ H ⟨ρ, B, As, out, ρ', R, e, p⟩ => by
  obtain ⟨o0, q0, e⟩ := Option.bind_eq_some_iff.mp e
  split at e
  case isFalse => cases e
  rename_i hls
  obtain ⟨⟨oe, ρ1⟩, e1, e⟩ := Option.bind_eq_some_iff.mp e
  obtain ⟨o, q1, e⟩ := Option.bind_eq_some_iff.mp e
  cases o0 <;> simp only [isLs, Bool.false_eq_true] at hls
  rename_i ds0
  obtain ⟨v0, own0, As0, a1, a2, _, _⟩ := R.env.out (join_some q0)
  simp only [RepO] at a2
  obtain ⟨l, vs0, rfl, rfl, a3, a4⟩ := a2
  refine ⟨_, a1, Or.inl ⟨rfl, vs0, SqL.of a3⟩, ρ, B, As, oe, ρ1, R, e1, fun v B1 H1 As1 own s1 R1 ap => ?_⟩
  obtain ⟨s2, R2, rv⟩ := ap.freeze s1 R1
  split at e
  · rename_i ds
    obtain ⟨hz, e⟩ := if_some e
    cases e
    obtain ⟨v2, own2, _, b1, b2, _, _⟩ := R2.env.out (join_some q1)
    have : v2 = .ref l := by rw [a1] at b1; cases b1; rfl
    subst this
    simp only [RepO] at b2
    obtain ⟨l', vs, hl', rfl, b3, b4⟩ := b2
    cases hl'
    obtain ⟨As3, R3, s3⟩ := R2.change (H' := upd H1 l (.lst (vs ++ [v]))) (o2 := .ls (ds ++ [oe.fr])) (join_some q1) fun w ow c1 c2 c3 => by
      simp only [RepO] at c2
      obtain ⟨l2, vs2, rfl, rfl, c4, c5⟩ := c2
      rw [a1] at c1; cases c1
      refine ⟨⟨l, vs ++ [v], rfl, rfl, upd_same, b4.append (RepDs.one rv)⟩, fun b hb => upd_ne (by simpa using hb), fun b hb => ?_⟩
      obtain rfl : b = l := by simpa using hb
      rw [upd_same]; simp
    exact ⟨l, vs, v, rfl, rfl, b3, by rw [b4.length]; exact hz, p σ _ _ As3 (s2.trans s3) R3 .refl⟩
  · cases e
/-- x[i] = e -/
def stoS (i : Nat) (gi : PF) (g : EF) : SF := fun ρ => (g ρ).bind fun r => (gi r.2).bind fun k => (r.2[i]?.join).bind fun o => match o, k with
  | .ls ds, .int j => (L2.ixN ds.length j).map fun n => (.nx, r.2.set i (some (.ls (ds.set n r.1.fr))))
  | _, _ => none
theorem qs_store {i : Nat} {x : Str} {e ei : Expr} {g : EF} {gi : PF} {p1 p2 pos : Pos} (h : QE X e g) (hi : QD X ei gi) (hN : X.N[i]? = some x := by rfl) (hv : Vis X.env.scope x := by first | exact Or.inl rfl | exact Or.inr (Or.inl rfl) | exact Or.inr (Or.inr rfl)) (hd : (x == ("__debug__" : Str)) = false := by decide)
    (hcd : (x == ("__classdict__" : Str)) = false := by decide)
    (ha : ∀ v, assign (.Subscript (.Name x p1) ei p2) X.env v = (do let ov ← holding [v] (eval (.Name x p1) X.env); let iv ← holding [v, ov] (eval ei X.env); standAt p2; holding [v, ov, iv] (setItem ov iv v); release [v, ov, iv] []) := by intro _; rfl)
    (hs : swapsWithSole [.Subscript (.Name x p1) ei p2] e pos.line X.env = pure false := by rfl) (hw : swappedStores [.Subscript (.Name x p1) ei p2] e X.env = pure none := by rfl)
    (h1 : (assignEach [.Subscript (.Name x p1) ei p2] X.env).map (·.2) = [assign (.Subscript (.Name x p1) ei p2) X.env] := by rfl) :
    QS X π (.Assign [.Subscript (.Name x p1) ei p2] e pos) (stoS i gi g) :=
  ps_imp (ps_asg h (pg_sub (pe_var (i := i) hN hv hd hcd) hi set_list ha) hs hw h1) fun Dn σ H ⟨ρ, B, As, out, ρ', R, e, p⟩ => by
  obtain ⟨⟨oe, ρ1⟩, e1, e⟩ := Option.bind_eq_some_iff.mp e
  obtain ⟨k, e2, e⟩ := Option.bind_eq_some_iff.mp e
  obtain ⟨o, q1, e⟩ := Option.bind_eq_some_iff.mp e
  refine ⟨ρ, B, As, oe, ρ1, R, e1, fun v B1 H1 As1 own s1 R1 ap => ?_⟩
  obtain ⟨s2, R2, rv⟩ := ap.freeze s1 R1
  split at e
  · rename_i ds j _
    obtain ⟨n, e3, e⟩ := Option.map_eq_some_iff.mp e
    cases e
    obtain ⟨v2, own2, _, b1, b2, _, _⟩ := R2.env.out (join_some q1)
    simp only [RepO] at b2
    obtain ⟨l, vs, rfl, rfl, b3, b4⟩ := b2
    refine ⟨_, b1, ρ1, _, As1, .int j, R2, e2, fun w B3 H3 g3 rw => ?_⟩
    simp only [RepD] at rw; subst rw
    have R3 := R2.grow g3
    have hl3 : H3 l = some (.lst vs) := g3.hh _ _ b3
    have b5 := b4.mono g3.bb
    obtain ⟨As4, R4, s4⟩ := R3.change (H' := upd H3 l (.lst (vs.set n v))) (o2 := .ls (ds.set n oe.fr)) (join_some q1) fun w ow c1 c2 c3 => by
      simp only [RepO] at c2
      obtain ⟨l2, vs2, rfl, rfl, c4, c5⟩ := c2
      rw [b1] at c1; cases c1
      refine ⟨⟨l, vs.set n v, rfl, rfl, upd_same, b5.set n (rv.mono g3.bb)⟩, fun b hb => upd_ne (by simpa using hb), fun b hb => ?_⟩
      obtain rfl : b = l := by simpa using hb
      rw [upd_same]; simp
    exact ⟨l, vs, j, n, rfl, rfl, hl3, by rw [b4.length]; exact e3, p σ _ _ As4 ((s2.trans (g3.step As1)).trans s4) R4 .refl⟩
  · cases e
end change

/-! ### a def -/
def outs : List Bool → List O → Ev → Option (List O)
  | [], [], _ => some []
  | true :: π, _ :: os, some o :: ρ => (outs π os ρ).map (o :: ·)
  | false :: π, .fz d :: os, _ :: ρ => (outs π os ρ).map (.fz d :: ·)
  | _, _, _ => none
def fnF (m : Nat) (π : List Bool) (ex : SF) : FS := fun os => if os.length = π.length then (ex (os.map some ++ List.replicate (m - os.length) none)).bind fun r => match r.1 with
  | .ret o => (outs π os r.2).map fun os' => (o, os')
  | .nx => (outs π os r.2).map fun os' => (.fz .non, os')
  | _ => none
  else none
theorem outs_rep {G : Gx} {B H B' H' : Hp} (bb : Same B B') : ∀ {π : List Bool} {os os' : List O} {vs : List V} {own As' : List Addr} {ρ' : Ev} {σ' : L2.St}, RepOs G B H os vs own → RepEnv G B' H' ρ' σ' As' → (∀ i : Nat, π[i]? = some true → ∀ v, vs[i]? = some v → σ'[i]? = some (some v)) →
    outs π os ρ' = some os' → ∃ own2, RepOs G B' H' os' vs own2 ∧ own2.Sublist As'
  | [], [], os', vs, own, As', ρ', σ', r, re, k, e => by
    simp only [outs, Option.some.injEq] at e; subst e
    simp only [RepOs] at r
    exact ⟨[], ⟨r.1, rfl⟩, List.nil_sublist _⟩
  | [], _ :: _, os', vs, own, As', ρ', σ', r, re, k, e => by simp [outs] at e
  | true :: π, [], os', vs, own, As', ρ', σ', r, re, k, e => by simp [outs] at e
  | false :: π, [], os', vs, own, As', ρ', σ', r, re, k, e => by simp [outs] at e
  | true :: π, o0 :: os, os', vs, own, As', [], σ', r, re, k, e => by simp [outs] at e
  | true :: π, o0 :: os, os', vs, own, As', none :: ρ', σ', r, re, k, e => by simp [outs] at e
  | true :: π, o0 :: os, os', vs, own, As', some o :: ρ', σ', r, re, k, e => by
    simp only [outs, Option.map_eq_some_iff] at e
    obtain ⟨os2, e1, rfl⟩ := e
    simp only [RepOs] at r
    obtain ⟨v, t, o1, o2, rfl, rfl, r1, r2⟩ := r
    simp only [RepEnv] at re
    obtain ⟨w, s, p1, p2, rfl, rfl, g1, g2⟩ := re
    have h0 := k 0 rfl v rfl
    simp at h0; subst h0
    obtain ⟨own2, h1, h2⟩ := outs_rep bb r2 g2 (fun i hi v hv => by have := k (i + 1) (by simpa using hi) v (by simpa using hv); simpa using this) e1
    exact ⟨p1 ++ own2, ⟨w, t, p1, own2, rfl, rfl, g1, h1⟩, List.Sublist.append_left h2 _⟩
  | false :: π, .fz d :: os, os', vs, own, As', [], σ', r, re, k, e => by simp [outs] at e
  | false :: π, .fz d :: os, os', vs, own, As', x :: ρ', σ', r, re, k, e => by
    simp only [outs, Option.map_eq_some_iff] at e
    obtain ⟨os2, e1, rfl⟩ := e
    simp only [RepOs, RepO] at r
    obtain ⟨v, t, o1, o2, rfl, rfl, ⟨rfl, r1⟩, r2⟩ := r
    cases x with
    | none =>
      simp only [RepEnv] at re
      obtain ⟨w, s, rfl, g2⟩ := re
      obtain ⟨own2, h1, h2⟩ := outs_rep bb r2 g2 (fun i hi v hv => by have := k (i + 1) (by simpa using hi) v (by simpa using hv); simpa using this) e1
      exact ⟨own2, ⟨v, t, [], own2, rfl, rfl, ⟨rfl, r1.mono bb⟩, h1⟩, h2⟩
    | some o =>
      simp only [RepEnv] at re
      obtain ⟨w, s, p1, p2, rfl, rfl, g1, g2⟩ := re
      obtain ⟨own2, h1, h2⟩ := outs_rep bb r2 g2 (fun i hi v hv => by have := k (i + 1) (by simpa using hi) v (by simpa using hv); simpa using this) e1
      exact ⟨own2, ⟨v, t, [], own2, rfl, rfl, ⟨rfl, r1.mono bb⟩, h1⟩, h2.trans (List.sublist_append_right _ _)⟩
  | false :: π, .ls _ :: os, os', vs, own, As', ρ', σ', r, re, k, e => by simp [outs] at e
  | false :: π, .ns _ :: os, os', vs, own, As', ρ', σ', r, re, k, e => by simp [outs] at e
  | false :: π, .ob _ _ :: os, os', vs, own, As', ρ', σ', r, re, k, e => by simp [outs] at e
  | false :: π, .dc _ :: os, os', vs, own, As', ρ', σ', r, re, k, e => by simp [outs] at e
theorem RepEnv.nones {G : Gx} {B H : Hp} : ∀ n : Nat, RepEnv G B H (List.replicate n none) (List.replicate n none) []
  | 0 => ⟨rfl, rfl⟩
  | n + 1 => ⟨none, _, rfl, RepEnv.nones n⟩
theorem RepOs.env {G : Gx} {B H : Hp} {n : Nat} : ∀ {os : List O} {vs : List V} {own : List Addr}, RepOs G B H os vs own → RepEnv G B H (os.map some ++ List.replicate n none) (vs.map some ++ List.replicate n none) own
  | [], vs, own, h => by
    simp only [RepOs] at h
    obtain ⟨rfl, rfl⟩ := h
    exact RepEnv.nones n
  | o :: os, vs, own, h => by
    simp only [RepOs] at h
    obtain ⟨v, t, o1, o2, rfl, rfl, h1, h2⟩ := h
    exact ⟨v, _, o1, o2, rfl, rfl, h1, RepOs.env h2⟩
theorem qfn {P : Program} {w : World} {K : PySem.W.Frag} {mg : Str → Option Value} {base : Heap} {x qual : Str} {st : Stmt} {f : Addr} {fd : FuncData} {N ps : List Str} {k : Nat} {π : List Bool} {ex : SF}
    (F : Fun K x qual st f fd) (S : FnScope N ps (defScope st)) (hm : mg x = some (.ref f)) (hb : Binds K fd ps []) (hπ : π.length = ps.length)
    (body : ∀ (cdv : Value) (A : Around) (outer : List Env) (s : Shared) (H : Hp) (E : XK), Room k (A.deeper (envOfC qual (defScope st) s.heap.objs.size f cdv)) → QSs (cxOf CX0 P w K mg base N qual (defScope st) f cdv A outer s H E).nox π (defBody st) ex) :
    QFn P w K mg base x (k + 1) ps.length (fnF N.length π ex) := by
  refine ⟨f, fd, ps, hm, F.kp, hb, F.ok S (fun vs H Q E h => ?_) (fun cdv A outer s H vs Q E hr h => ?_)⟩
  · obtain ⟨B, os, own, o, os', sub, _, hl, r, _⟩ := h
    rw [r.length, hl]
  · obtain ⟨B, os, own, o, os', sub, tb, hl, r, nd, ap, e, k⟩ := h
    refine ⟨_, body cdv A outer s H E hr, ?_⟩
    unfold fnF at e
    split at e
    case isFalse => cases e
    obtain ⟨⟨out, ρ'⟩, e1, e2⟩ := Option.bind_eq_some_iff.mp e
    have hst : L2.start N vs = vs.map some ++ List.replicate (N.length - os.length) none := by unfold L2.start; rw [r.length]
    rw [hst]
    refine ⟨_, B, own, out, ρ', ⟨sub, tb, nd, ap, r.env⟩, e1, ?_⟩
    have kp : ∀ σ' : L2.St, Keep π (vs.map some ++ List.replicate (N.length - os.length) none) σ' → ∀ i : Nat, π[i]? = some true → ∀ v, vs[i]? = some v → σ'[i]? = some (some v) := fun σ' hk i hi v hv => by
      rw [hk i hi, List.getElem?_append_left (by rw [List.length_map]; exact (List.getElem?_eq_some_iff.mp hv).1), List.getElem?_map, hv]; rfl
    cases out with
    | ret o2 =>
      obtain ⟨os2, e3, e4⟩ := Option.map_eq_some_iff.mp e2
      cases e4
      refine fun v σ' B' H' As' own1 s' R' a' k' => ?_
      obtain ⟨own2, h1, h2⟩ := outs_rep s'.bb r R'.env (kp σ' k') e3
      have sub2 : (own1 ++ own2).Sublist (own1 ++ As') := List.Sublist.append_left h2 _
      refine k v B' H' own1 own2 (s'.less fun _ h => sub2.subset h) a'.rep h1 (a'.nd.sublist sub2) fun b hb => ?_
      rcases List.mem_append.mp hb with z | z
      · exact a'.ap b z
      · exact R'.ap b (h2.subset z)
    | nx =>
      obtain ⟨os2, e3, e4⟩ := Option.map_eq_some_iff.mp e2
      cases e4
      refine fun σ' B' H' As' s' R' k' => ?_
      obtain ⟨own2, h1, h2⟩ := outs_rep s'.bb r R'.env (kp σ' k') e3
      exact k .non B' H' [] own2 (s'.less fun _ h => h2.subset h) ⟨rfl, rfl⟩ h1 (R'.nd.sublist h2) fun b hb => R'.ap b (h2.subset hb)
    | brk => cases e2
    | ct => cases e2
end Q

namespace Q
open PySem PySem.Spec PyProof.Rows L2

theorem tE_fresh {G : Gx} {g : NF} {σ : L2.St} {H : Hp} {Q : VK} (h : tE G (freshE g) σ H Q) : tN G g σ H Q := by
  obtain ⟨ρ, B, As, d, ρ', R, e1, k⟩ := h
  obtain ⟨o, e2, e3⟩ := Option.map_eq_some_iff.mp e1
  cases e3
  refine ⟨ρ, B, As, d, R, e2, fun v B' H' own f => ?_⟩
  have dj : ∀ a ∈ own, ∀ b ∈ As, a ≠ b := fun a ha b hb z => (R.ap b hb).2 (z ▸ (f.ap a ha).1)
  refine k v B' H' As own ⟨f.g.bb, f.g.sub, fun a o h hn => ⟨f.g.hh a o h, f.g.old a (by simp [h])⟩, fun a h => ?_, fun a h => Same.ne f.g.hh h, fun P t => f.g.hh.tab t⟩ (R.grow f.g) ⟨f.rep, List.nodup_append.mpr ⟨f.nd, R.nd, dj⟩, fun a h => ⟨(f.ap a h).2.1, (f.ap a h).2.2⟩⟩
  rcases List.mem_append.mp h with h | h
  · exact .inr (f.ap a h).1
  · exact .inl h
section setlc
variable {X : Cx} {π : List Bool} {elt tg iter : Expr} {ifs : List Expr} {scope : Scope} {own : List (Str × Nat)} {pos spos py : Pos} {gi : IF} {tgt : TgF} {gt : BF} {ge : PF} {sl : List Nat} {i : Nat} {y : Str}
/-- y = [..] on one line -/
theorem qs_setLc {vs : List Nat} (hc : X.calm = true) (hN : X.N.Nodup) (ok : BlkOk X.N X.env.scope scope own) (hi : QIw X tg iter gi)
    (hg : ∀ (s : Shared) (H : Hp) (C : Addr) (cl : List (Str × Addr)) (fp : List Addr), QG (X.blk s H scope (compEnvC scope cl C X.env) fp) tg sl tgt)
    (ht : ∀ (s : Shared) (H : Hp) (C : Addr) (cl : List (Str × Addr)) (fp : List Addr), QTs (X.blk s H scope (compEnvC scope cl C X.env) fp) ifs gt)
    (he : ∀ (s : Shared) (H : Hp) (C : Addr) (cl : List (Str × Addr)) (fp : List Addr), QD (X.blk s H scope (compEnvC scope cl C X.env) fp) elt ge)
    (hy : X.N[i]? = some y := by rfl) (hl : X.env.scope.names.lookup y = some .local := by rfl) (hsw : swapsWith (.ListComp elt [⟨tg, iter, ifs, 0⟩] scope pos) (some (.Name y py)) spos.line X.env = pure true := by exact sw_true rfl rfl rfl (by decide +kernel))
    (hp : π[i]? ≠ some true := by decide) (hsl : ∀ i ∈ sl, i ∈ vs := by decide) (hvs : own.map (·.2) = vs := by rfl) (hf : ∀ x, foldedSetIterable iter X.env x = pure x := by intro _; rfl) :
    QS X π (.Assign [.Name y py] (.ListComp elt [⟨tg, iter, ifs, 0⟩] scope pos) spos) (setS i (freshE (lcN gi vs tgt gt ge))) := by
  subst hvs
  obtain ⟨ti, h1, h2⟩ := hi
  refine ps_imp (ps_setLc (i := i) (g := tG (gx X) sl tgt) (tt := tT (gx X) gt) (te := tD (gx X) ge) hc hN hy hl hsw h1 ok hg ht he hf) fun Dn σ H h => ?_
  exact lc_of h2 hsl (tE_fresh (set_of hp h))
end setlc

/-! ### comprehensions whose element takes and hands back owned things -/
def lcGoE (vs : List Nat) (tgt : TgF) (gt : BF) (ge : EF) : List D → Ev → Option (List D × Ev)
  | [], ρ => some ([], ρ)
  | d :: ds, ρ => (tgt d ρ).bind fun ρ1 => (gt ρ1).bind fun b => if b = true then (ge ρ1).bind fun r => (lcGoE vs tgt gt ge ds (wipeE r.2 vs)).map fun q => (r.1.fr :: q.1, q.2) else lcGoE vs tgt gt ge ds (wipeE ρ1 vs)
def lcE (gi : IF) (vs : List Nat) (tgt : TgF) (gt : BF) (ge : EF) : EF := fun ρ => (gi ρ).bind fun ds => if ds.length ≤ sizeLine then (lcGoE vs tgt gt ge ds (wipeE ρ vs)).map fun q => (.ls q.1, q.2) else none
theorem wipeE_length (ρ : Ev) : ∀ vs : List Nat, (wipeE ρ vs).length = ρ.length
  | [] => rfl
  | v :: vs => by show ((wipeE ρ vs).set v none).length = _; rw [List.length_set, wipeE_length ρ vs]
theorem lcGoE_wiped {vs : List Nat} {tgt : TgF} {gt : BF} {ge : EF} : ∀ {ds : List D} {ρ : Ev} {r : List D} {ρ' : Ev}, lcGoE vs tgt gt ge ds ρ = some (r, ρ') → (∀ i ∈ vs, ρ[i]? ≠ none → ρ[i]? = some none) → ∀ i ∈ vs, ρ'[i]? ≠ none → ρ'[i]? = some none
  | [], ρ, r, ρ', h, k => by simp only [lcGoE] at h; cases h; exact k
  | d :: ds, ρ, r, ρ', h, k => by
    simp only [lcGoE] at h
    obtain ⟨ρ1, e1, h⟩ := Option.bind_eq_some_iff.mp h
    obtain ⟨b, e2, h⟩ := Option.bind_eq_some_iff.mp h
    have wp : ∀ ρ : Ev, ∀ i ∈ vs, (wipeE ρ vs)[i]? ≠ none → (wipeE ρ vs)[i]? = some none := fun ρ i hi hn => by
      rw [wipeE_in hi] at hn ⊢
      split at hn
      · rename_i q; rw [if_pos q]
      · exact absurd rfl hn
    cases b with
    | true =>
      simp only [if_true] at h
      obtain ⟨⟨o, ρ2⟩, e3, h⟩ := Option.bind_eq_some_iff.mp h
      obtain ⟨⟨q1, q2⟩, e4, h⟩ := Option.map_eq_some_iff.mp h
      cases h
      exact lcGoE_wiped e4 (wp ρ2)
    | false =>
      simp only [Bool.false_eq_true, if_false] at h
      exact lcGoE_wiped h (wp ρ1)
section lce
variable {X : Cx} {π : List Bool} {elt tg iter : Expr} {ifs : List Expr} {scope : Scope} {own : List (Str × Nat)} {pos spos py : Pos} {gi : IF} {tgt : TgF} {gt : BF} {ge : EF} {sl : List Nat} {i : Nat} {y : Str}
theorem lcE_of {G : Gx} {ti : TI} (hi : ∀ σ H R, tI G gi σ H R → ti σ H R) {vs : List Nat} (hsl : ∀ i ∈ sl, i ∈ vs) {σ : L2.St} {H : Hp} {Q : VK} (h : tE G (lcE gi vs tgt gt ge) σ H Q) :
    tLc ti (tG G sl tgt) (tT G gt) (tE G ge) vs σ H Q := by
  obtain ⟨ρ, B, As, o, ρ', R, e, k⟩ := h
  obtain ⟨ds, e1, e⟩ := Option.bind_eq_some_iff.mp e
  split at e
  case isFalse => cases e
  rename_i hz
  obtain ⟨⟨fin, ρf⟩, e2, e3⟩ := Option.map_eq_some_iff.mp e
  cases e3
  refine hi σ H _ ⟨ρ, B, As, ds, R, e1, fun J B1 H1 g1 Y D hD => ?_⟩
  obtain ⟨As1, k1, s1⟩ := (R.grow g1).env.wipe vs
  have Rw : Rel G B1 H1 (L2.wipe σ vs) (wipeE ρ vs) As1 := (R.grow g1).sublist k1 s1
  have hB1 : B1 D = none := g1.sub.free hD
  have hA1 : D ∉ As1 := fun z => (Rw.ap D z).2 hD
  have stepUp : ∀ {B2 H2 : Hp} {As2 : List Addr} {o : HO}, Step B1 H1 As1 B2 H2 As2 → B2 D = none → Step B1 H1 As1 B2 (L2.upd H2 D o) As2 := fun {B2 H2 As2 o} s hb => by
    refine ⟨s.bb, fun b u q => ?_, fun a u q hn => ⟨?_, (s.keep a u q hn).2⟩, s.own, fun a q => ?_, fun P t => ?_⟩
    · exact kept_tr (s.sub b u q) fun w e => kept_of (by rw [upd_ne (ne_of_none q hb)]; exact e)
    · exact kept_tr (s.keep a u q hn).1 fun w e => kept_of (by rw [upd_ne (ne_of_none q hD)]; exact e)
    · by_cases z : a = D
      · subst z; rw [upd_same]; simp
      · rw [upd_ne z]; exact s.there a q
    · obtain ⟨ps, e1, t1⟩ := s.tb P t
      refine ⟨ps, ?_, t1⟩
      rw [upd_ne fun z => ?_]
      · exact e1
      · obtain ⟨qs, e2, _⟩ := t
        rw [z, hD] at e2; cases e2
  refine ⟨fun i m H2 => m = ds.length - i ∧ i ≤ ds.length ∧ ∃ B2 As2 ρ2 acc done rest, Step B1 H1 As1 B2 H2 As2 ∧ Rel G B2 H2 (L2.wipe σ vs) ρ2 As2 ∧ H2 D = some (.lst acc) ∧ B2 D = none ∧ D ∉ As2 ∧ RepDs G B2 done acc ∧ lcGoE vs tgt gt ge (ds.drop i) ρ2 = some (rest, ρf) ∧ done ++ rest = fin ∧ done.length ≤ i,
    ⟨_, rfl, Nat.zero_le _, B1, As1, wipeE ρ vs, [], [], fin, stepUp (.refl g1.sub As1) hB1, Rw.upd hB1 hA1 (.of_none hD), upd_same, hB1, hA1, rfl, e2, rfl, Nat.zero_le _⟩, fun i m H2 ⟨hm, hi, B2, As2, ρ2, acc, done, rest, s2, R2, hl, hb, ha, ra, e3, e4, hd⟩ => ?_⟩
  have sm : Same B1 H2 := s2.bb.trans R2.sub
  by_cases hlt : i < ds.length
  · right
    rw [List.drop_eq_getElem_cons hlt] at e3
    simp only [lcGoE] at e3
    obtain ⟨ρ3, t1, e3⟩ := Option.bind_eq_some_iff.mp e3
    obtain ⟨b, t2, e3⟩ := Option.bind_eq_some_iff.mp e3
    refine ⟨Y.go i H2 sm hlt, fun H' => (i + 1 ≤ ds.length ∧ ∃ B2 As2 ρ2 acc done rest, Step B1 H1 As1 B2 H' As2 ∧ Rel G B2 H' (L2.wipe σ vs) ρ2 As2 ∧ H' D = some (.lst acc) ∧ B2 D = none ∧ D ∉ As2 ∧ RepDs G B2 done acc ∧ lcGoE vs tgt gt ge (ds.drop (i + 1)) ρ2 = some (rest, ρf) ∧ done ++ rest = fin ∧ done.length ≤ i + 1), fun H' z => ⟨ds.length - (i + 1), by omega, rfl, z⟩, fun x H' hy => ?_⟩
    obtain ⟨rfl, rx⟩ := Y.yld i H2 x H' sm hy
    have rx := (rx ds[i] (List.getElem?_eq_getElem hlt)).mono s2.bb
    refine ⟨ρ2, B2, As2, ds[i], ρ3, R2, rx, t1, fun σ3 As3 R3 s3 ks ls => ⟨wipe_same hsl ks ls, ρ3, B2, As3, b, R3, t2, fun B3 H3 g3 => ?_⟩⟩
    have wp : L2.wipe σ3 vs = L2.wipe σ vs := wipe_same hsl ks ls
    have hD3 : H3 D = some (.lst acc) := g3.hh _ _ hl
    have hB3 : B3 D = none := (g3.old D (by rw [hl]; simp)).trans hb
    have hA3 : D ∉ As3 := fun z => ha (s3 D z)
    have R3' := R3.grow g3
    have st3 : Step B1 H1 As1 B3 H3 As3 := (s2.less s3).trans (g3.step As3)
    cases b with
    | false =>
      simp only [Bool.false_eq_true, if_false] at e3 ⊢
      obtain ⟨As4, w1, w2⟩ := R3'.env.wipe vs
      rw [wp] at w1
      exact ⟨hlt, B3, As4, wipeE ρ3 vs, acc, done, rest, st3.less w2.subset, R3'.sublist w1 w2, hD3, hB3, fun z => hA3 (w2.subset z), ra.mono g3.bb, e3, e4, by omega⟩
    | true =>
      simp only [if_true] at e3 ⊢
      obtain ⟨⟨oy, ρ4⟩, t3, e3⟩ := Option.bind_eq_some_iff.mp e3
      obtain ⟨⟨rest', ρ5⟩, t4, e5⟩ := Option.map_eq_some_iff.mp e3
      cases e5
      refine ⟨ρ3, B3, As3, oy, ρ4, R3', t3, fun v B4 H4 As4 own s4 R4 a4 => ?_⟩
      obtain ⟨s5, R5, rv⟩ := a4.freeze s4 R4
      have apD := s4.apart (a := D) ⟨_, hD3, rfl⟩ hA3
      have hD4 : H4 D = some (.lst acc) := apD.1.trans hD3
      have hA4 : D ∉ As4 := fun z => apD.2.2 (List.mem_append_right _ z)
      have hB5 : frz B4 H4 own D = none := by rw [frz_out fun z => apD.2.2 (List.mem_append_left _ z)]; exact apD.2.1.trans hB3
      obtain ⟨As6, w1, w2⟩ := R5.env.wipe vs
      rw [wp] at w1
      have R6 := R5.sublist w1 w2
      have hA6 : D ∉ As6 := fun z => hA4 (w2.subset z)
      refine ⟨acc, hD4, ?_, hlt, frz B4 H4 own, As6, wipeE ρ4 vs, acc ++ [v], done ++ [oy.fr], rest', stepUp ((st3.trans s5).less w2.subset) hB5, R6.upd hB5 hA6 (.of_lst hD4), upd_same, hB5, hA6, ((ra.mono g3.bb).mono s5.bb).append (RepDs.one rv), t4, by rw [← e4]; simp, by simp; omega⟩
      rw [ra.length]; omega
  · left
    have hi2 : i = ds.length := by omega
    subst hi2
    rw [List.drop_length] at e3
    simp only [lcGoE] at e3
    cases e3
    rw [List.append_nil] at e4; subst e4
    refine ⟨Y.stop _ H2 sm (Nat.le_refl _), ?_⟩
    have wd := lcGoE_wiped e2 fun i hi hn => by
      rw [wipeE_in hi] at hn ⊢
      split at hn
      · rename_i q; rw [if_pos q]
      · exact absurd rfl hn
    have env' : RepEnv G B2 H2 ρf σ As2 := R2.env.anys (by rw [wipe_length]) fun i hn => by
      by_cases hv : i ∈ vs
      · rcases Nat.lt_or_ge i ρf.length with q | q
        · exact absurd (wd i hv (by rw [List.getElem?_eq_getElem q]; simp)) hn
        · rw [List.getElem?_eq_none_iff.mpr (by have := R2.env.length; rw [wipe_length] at this; omega), List.getElem?_eq_none_iff.mpr (by rw [wipe_length]; have := R2.env.length; rw [wipe_length] at this; omega)]
      · rw [L2.wipe_out hv]
    have as1 : ∀ a ∈ As2, a ∈ As ∨ H a = none := fun a h => by
      rcases s2.own a h with z | z
      · exact .inl (s1.subset z)
      · exact .inr (Same.free g1.hh z)
    refine k (.ref D) B2 H2 As2 [D] ⟨g1.bb.trans s2.bb, R2.sub, fun a u q hn => ?_, fun a h => ?_, fun a h => s2.there a (Same.ne g1.hh h), fun P t => s2.tb P (g1.hh.tab t)⟩ ⟨R2.sub, R2.tb, R2.nd, R2.ap, env'⟩ ⟨⟨D, acc, rfl, rfl, hl, ra⟩, ?_, fun a h => ?_⟩
    · have nz : a ∉ As1 := fun z => hn (s1.subset z)
      obtain ⟨u1, q1⟩ := Option.ne_none_iff_exists'.mp (kept_ne (g1.hh a u q))
      exact ⟨kept_tr (g1.hh a u q) fun w e => (s2.keep a w e nz).1, (s2.keep a u1 q1 nz).2.trans (g1.old a (by rw [q]; simp))⟩
    · rcases List.mem_append.mp h with z | z
      · obtain rfl : a = D := by simpa using z
        exact .inr (Same.free g1.hh hD)
      · exact as1 a z
    · exact List.nodup_append.mpr ⟨by simp, R2.nd, fun a h b hb' z => by
        obtain rfl : a = D := by simpa using h
        subst z; exact ha hb'⟩
    · obtain rfl : a = D := by simpa using h
      exact ⟨hb, by rw [hl]; simp⟩
theorem qe_lc {vs : List Nat} (hc : X.calm = true) (hN : X.N.Nodup) (ok : BlkOk X.N X.env.scope scope own) (hi : QI X tg iter gi)
    (hg : ∀ (s : Shared) (H : Hp) (C : Addr) (cl : List (Str × Addr)) (fp : List Addr), QG (X.blk s H scope (compEnvC scope cl C X.env) fp) tg sl tgt)
    (ht : ∀ (s : Shared) (H : Hp) (C : Addr) (cl : List (Str × Addr)) (fp : List Addr), QTs (X.blk s H scope (compEnvC scope cl C X.env) fp) ifs gt)
    (he : ∀ (s : Shared) (H : Hp) (C : Addr) (cl : List (Str × Addr)) (fp : List Addr), QE (X.blk s H scope (compEnvC scope cl C X.env) fp) elt ge)
    (hsl : ∀ i ∈ sl, i ∈ vs := by decide) (hvs : own.map (·.2) = vs := by rfl) (hf : ∀ x, foldedSetIterable iter X.env x = pure x := by intro _; rfl) : QE X (.ListComp elt [⟨tg, iter, ifs, 0⟩] scope pos) (lcE gi vs tgt gt ge) := by
  subst hvs
  obtain ⟨ti, h1, h2⟩ := hi
  exact pe_imp (pe_lc hc hN h1 ok hg ht he hf) fun σ H Q h => lcE_of h2 hsl h
theorem qs_setLcE {vs : List Nat} (hc : X.calm = true) (hN : X.N.Nodup) (ok : BlkOk X.N X.env.scope scope own) (hi : QI X tg iter gi)
    (hg : ∀ (s : Shared) (H : Hp) (C : Addr) (cl : List (Str × Addr)) (fp : List Addr), QG (X.blk s H scope (compEnvC scope cl C X.env) fp) tg sl tgt)
    (ht : ∀ (s : Shared) (H : Hp) (C : Addr) (cl : List (Str × Addr)) (fp : List Addr), QTs (X.blk s H scope (compEnvC scope cl C X.env) fp) ifs gt)
    (he : ∀ (s : Shared) (H : Hp) (C : Addr) (cl : List (Str × Addr)) (fp : List Addr), QE (X.blk s H scope (compEnvC scope cl C X.env) fp) elt ge)
    (hy : X.N[i]? = some y := by rfl) (hl : X.env.scope.names.lookup y = some .local := by rfl) (hsw : swapsWith (.ListComp elt [⟨tg, iter, ifs, 0⟩] scope pos) (some (.Name y py)) spos.line X.env = pure true := by exact sw_true rfl rfl rfl (by decide +kernel))
    (hp : π[i]? ≠ some true := by decide) (hsl : ∀ i ∈ sl, i ∈ vs := by decide) (hvs : own.map (·.2) = vs := by rfl) (hf : ∀ x, foldedSetIterable iter X.env x = pure x := by intro _; rfl) :
    QS X π (.Assign [.Name y py] (.ListComp elt [⟨tg, iter, ifs, 0⟩] scope pos) spos) (setS i (lcE gi vs tgt gt ge)) := by
  subst hvs
  obtain ⟨ti, h1, h2⟩ := hi
  exact ps_imp (ps_setLc (i := i) (g := tG (gx X) sl tgt) (tt := tT (gx X) gt) (te := tE (gx X) ge) hc hN hy hl hsw h1 ok hg ht he hf) fun Dn σ H h => lcE_of h2 hsl (set_of hp h)
end lce
end Q

namespace Q
open PySem PySem.Spec PyProof.Rows L2

section uni
variable {X : Cx} {a b e tg : Expr} {ga gb g : PF} {gI : IF} {pos : Pos}
def ixU : D → D → Option D
  | .str x, y => ixS (.str x) y
  | x, y => ixD x y
def ixF (ga gi : PF) : PF := fun ρ => (ga ρ).bind fun x => (gi ρ).bind fun y => ixU x y
theorem ixU_cases {x y d : D} (h : ixU x y = some d) : ixS x y = some d ∨ ixD x y = some d := by
  cases x <;> first | exact .inl h | exact .inr h
theorem qd_ixU (ha : QW X a ga) (hb : QW X b gb) (hs : PlainIx b := by exact fun _ _ => rfl) : QD X (.Subscript a b pos) (ixF ga gb) := ⟨fun pins s σ H Q I ⟨ρ, B, As, o, R, e, k⟩ => by
  obtain ⟨x, y, e1, e2, e3⟩ := two e
  rcases ixU_cases e3 with h | h
  · exact (qd_ixs ha hb hs).run pins s σ H Q I ⟨ρ, B, As, o, R, by simp [ixs, e1, e2, h], k⟩
  · exact (qd_ix ha hb hs).run pins s σ H Q I ⟨ρ, B, As, o, R, by simp [ix, e1, e2, h], k⟩⟩
def itU (g : PF) : IF := fun ρ => (g ρ).bind fun
  | .lst ds => some ds
  | .tup ds => some ds
  | .str x => some (x.cps.toList.map fun c => .str ⟨#[c]⟩)
  | _ => none
theorem qi_pi {gI : IF} (h : QI X tg e gI) : PI X tg e (tI (gx X) gI) := let ⟨t, h1, h2⟩ := h; ⟨fun pins s σ H R I q => h1.run pins s σ H R I (h2 σ H R q)⟩
theorem qiw_pi {gI : IF} (h : QIw X tg e gI) : PI X tg e (tIw (gx X) gI) := let ⟨t, h1, h2⟩ := h; ⟨fun pins s σ H R I q => h1.run pins s σ H R I (h2 σ H R q)⟩
theorem qi_u (h : QD X e g) : QI X tg e (itU g) := ⟨_, ⟨fun pins s σ H R I ⟨ρ, B, As, ds, r, e, k⟩ => by
  obtain ⟨d, e1, e2⟩ := Option.bind_eq_some_iff.mp e
  split at e2
  · cases e2; exact (qi_pi (qi_list h)).run pins s σ H R I ⟨ρ, B, As, _, r, by simp [itL, e1], k⟩
  · cases e2; exact (qi_pi (qi_tup h)).run pins s σ H R I ⟨ρ, B, As, _, r, by simp [itT, e1], k⟩
  · cases e2; exact (qi_pi (qi_str h.toW)).run pins s σ H R I ⟨ρ, B, As, _, r, by simp [itS, e1], k⟩
  · cases e2⟩, fun σ H R h => h⟩
theorem qiw_tup (h : QW X e g) : QIw X tg e (itT g) := ⟨_, pi_tup h, fun σ H R ⟨ρ, B, As, ds, r, e, k⟩ => by
  obtain ⟨d, e1, e2⟩ := Option.bind_eq_some_iff.mp e
  refine ⟨ρ, B, As, d, r, e1, fun v B1 H1 g1 w => ?_⟩
  split at e2
  · cases e2
    obtain ⟨a, vs, rfl, _, h1, h2⟩ := rw_tup g1.sub w
    exact ⟨a, rfl, ⟨vs, h1⟩, k _ B1 H1 g1 (yl_tup h1 h2)⟩
  · cases e2⟩
theorem qiw_u (h : QW X e g) : QIw X tg e (itU g) := ⟨_, ⟨fun pins s σ H R I ⟨ρ, B, As, ds, r, e, k⟩ => by
  obtain ⟨d, e1, e2⟩ := Option.bind_eq_some_iff.mp e
  split at e2
  · cases e2; exact (qiw_pi (qiw_list h)).run pins s σ H R I ⟨ρ, B, As, _, r, by simp [itL, e1], k⟩
  · cases e2; exact (qiw_pi (qiw_tup h)).run pins s σ H R I ⟨ρ, B, As, _, r, by simp [itT, e1], k⟩
  · cases e2; exact (qiw_pi (qi_str h).w).run pins s σ H R I ⟨ρ, B, As, _, r, by simp [itS, e1], k⟩
  · cases e2⟩, fun σ H R h => h⟩
def unT (ts : List TgF) : TgF := fun d ρ => match d with
  | .tup ds => goT ts ds ρ
  | .lst ds => goT ts ds ρ
  | _ => none
theorem qg_un {es : List Expr} {sl : List Nat} {ts : List TgF} {k : Nat} (hc : X.calm = true) (h : QGs X es sl ts) (hn : (assignEach es X.env).length = ts.length := by rfl) (hst : (assignEach es X.env).findIdx? (·.1) = none := by rfl) : QG X (.Tuple es k pos) sl (unT ts) :=
  ⟨fun pins s σ H v u Q I r ⟨ρ, B, As, d, ρ', R, rd, e, kk⟩ => by
    cases d <;> simp only [unT, reduceCtorEq] at e
    · exact (qg_tup hc h hn hst).run pins s σ H v u Q I r ⟨ρ, B, As, _, ρ', R, rd, e, kk⟩
    · exact (qg_lst hc h hn hst).run pins s σ H v u Q I r ⟨ρ, B, As, _, ρ', R, rd, e, kk⟩⟩
/-- an owned name handed out (at a return) -/
def mvE (i : Nat) : EF := fun ρ => (ρ[i]?.join).map fun o => (o, ρ.set i none)
theorem qe_mv {i : Nat} {x : Str} (hN : X.N[i]? = some x := by rfl) (hv : Vis X.env.scope x := by first | exact Or.inl rfl | exact Or.inr (Or.inl rfl) | exact Or.inr (Or.inr rfl)) (hd : (x == ("__debug__" : Str)) = false := by decide)
    (hcd : (x == ("__classdict__" : Str)) = false := by decide) : QE X (.Name x pos) (mvE i) := pe_imp (pe_var (i := i) hN hv hd hcd) fun σ H Q ⟨ρ, B, As, o, ρ', R, e, k⟩ => by
  obtain ⟨o1, e1, e2⟩ := Option.map_eq_some_iff.mp e
  cases e2
  obtain ⟨v, own, As1, h1, h2, h3, h4⟩ := R.env.out (join_some e1)
  have as_in : ∀ a ∈ As1, a ∈ As := fun a h => h4.mem_iff.mp (List.mem_append_right _ h)
  have own_in : ∀ a ∈ own, a ∈ As := fun a h => h4.mem_iff.mp (List.mem_append_left _ h)
  have nd : (own ++ As1).Nodup := h4.symm.nodup R.nd
  refine ⟨v, h1, k v B H As1 own ⟨.refl _, R.sub, fun a o h hn => ⟨kept_of h, rfl⟩, fun a h => .inl (h4.mem_iff.mp h), fun a h => h, fun _ t => t⟩ ⟨R.sub, R.tb, (List.nodup_append.mp nd).2.1, fun a h => R.ap a (as_in a h), h3⟩ ⟨h2, nd, fun a h => R.ap a (own_in a h)⟩⟩
end uni

/-! ### binary operators with an operand that takes and hands back -/
def binE (f : D → D → Option O) (ga : PF) (gb : EF) : EF := fun ρ => (ga ρ).bind fun x => (gb ρ).bind fun r => (f x r.1.fr).map fun o => (.fz o.fr, r.2)

/-! ### defs -/
theorem qfn_none {P : Program} {w : World} {K : PySem.W.Frag} {mg : Str → Option Value} {base : Heap} {x : Str} {k n : Nat} {f : Addr} {fd : FuncData} {ps : List Str}
    (hm : mg x = some (.ref f)) (hk : PySem.W.keepIn K (.ref f) = true) (hb : Binds K fd ps []) : QFn P w K mg base x k n (fun _ => none) := by
  have no : ∀ vs H Q E, ¬ spF ⟨K, mg⟩ n (fun _ => none) vs H Q E := fun vs H Q E ⟨B, os, own, o, os', _, _, _, _, _, _, e, _⟩ => by cases e
  exact ⟨f, fd, ps, hm, hk, hb, ⟨fun vs H Q E h => absurd h (no vs H Q E), fun A outer s H args us vs Q E _ _ _ _ h => absurd h (no vs H Q E)⟩⟩
theorem QFn.mono {P : Program} {w : World} {K : PySem.W.Frag} {mg : Str → Option Value} {base : Heap} {x : Str} {j k n : Nat} {f : FS} (F : QFn P w K mg base x j n f) (h : j ≤ k) : QFn P w K mg base x k n f := by
  obtain ⟨fa, fd, ps, h1, h2, h3, h4⟩ := F.ex
  exact ⟨fa, fd, ps, h1, h2, h3, h4.mono h⟩
/-- a def of the text -/
abbrev FnP (K : PySem.W.Frag) (x : Str) (st : Stmt) (f : Addr) (fd : FuncData) : Prop := FunD K x x (defArgs st) (defBody st) (defScope st) [] [] f fd
/-- where it stands -/
def At (K : PySem.W.Frag) (mg : Str → Option Value) (x : Str) (st : Stmt) (ps : List Str) : Prop := ∃ f fd, mg x = some (.ref f) ∧ FnP K x st f fd ∧ Binds K fd ps []
theorem fnokD {P : Program} {w : World} {K : PySem.W.Frag} {mg : Str → Option Value} {base : Heap} {x : Str} {st : Stmt} {N ps : List Str} {k : Nat} {π : List Bool} {ex : SF} {f : Addr} {fd : FuncData}
    (F : FnP K x st f fd) (S : FnScope N ps (defScope st)) (hπ : π.length = ps.length)
    (body : ∀ (cdv : Value) (A : Around) (outer : List Env) (s : Shared) (H : Hp) (E : XK), Room k (A.deeper (envOfC x (defScope st) s.heap.objs.size f cdv)) → QSs (cxOf CX0 P w K mg base N x (defScope st) f cdv A outer s H E).nox π (defBody st) ex) :
    FnOk P w K mg base CX0 (k + 1) f fd ps (spF ⟨K, mg⟩ ps.length (fnF N.length π ex)) := by
  refine F.ok S (fun vs H Q E h => ?_) (fun cdv A outer s H vs Q E hr h => ?_)
  · obtain ⟨B, os, own, o, os', sub, _, hl, r, _⟩ := h
    rw [r.length, hl]
  · obtain ⟨B, os, own, o, os', sub, tb, hl, r, nd, ap, e, k⟩ := h
    refine ⟨_, (body cdv A outer s H E hr).nox, ?_⟩
    unfold fnF at e
    split at e
    case isFalse => cases e
    obtain ⟨⟨out, ρ'⟩, e1, e2⟩ := Option.bind_eq_some_iff.mp e
    have hst : L2.start N vs = vs.map some ++ List.replicate (N.length - os.length) none := by unfold L2.start; rw [r.length]
    rw [hst]
    refine ⟨_, B, own, out, ρ', ⟨sub, tb, nd, ap, r.env⟩, e1, ?_⟩
    have kp : ∀ σ' : L2.St, Keep π (vs.map some ++ List.replicate (N.length - os.length) none) σ' → ∀ i : Nat, π[i]? = some true → ∀ v, vs[i]? = some v → σ'[i]? = some (some v) := fun σ' hk i hi v hv => by
      rw [hk i hi, List.getElem?_append_left (by rw [List.length_map]; exact (List.getElem?_eq_some_iff.mp hv).1), List.getElem?_map, hv]; rfl
    cases out with
    | ret o2 =>
      obtain ⟨os2, e3, e4⟩ := Option.map_eq_some_iff.mp e2
      cases e4
      refine fun v σ' B' H' As' own1 s' R' a' k' => ?_
      obtain ⟨own2, h1, h2⟩ := outs_rep s'.bb r R'.env (kp σ' k') e3
      have sub2 : (own1 ++ own2).Sublist (own1 ++ As') := List.Sublist.append_left h2 _
      refine k v B' H' own1 own2 (s'.less fun _ h => sub2.subset h) a'.rep h1 (a'.nd.sublist sub2) fun b hb => ?_
      rcases List.mem_append.mp hb with z | z
      · exact a'.ap b z
      · exact R'.ap b (h2.subset z)
    | nx =>
      obtain ⟨os2, e3, e4⟩ := Option.map_eq_some_iff.mp e2
      cases e4
      refine fun σ' B' H' As' s' R' k' => ?_
      obtain ⟨own2, h1, h2⟩ := outs_rep s'.bb r R'.env (kp σ' k') e3
      exact k .non B' H' [] own2 (s'.less fun _ h => h2.subset h) ⟨rfl, rfl⟩ h1 (R'.nd.sublist h2) fun b hb => R'.ap b (h2.subset hb)
    | brk => cases e2
    | ct => cases e2
theorem qfnD {P : Program} {w : World} {K : PySem.W.Frag} {mg : Str → Option Value} {base : Heap} {x : Str} {st : Stmt} {N ps : List Str} {k : Nat} {π : List Bool} {ex : SF}
    (a : At K mg x st ps) (S : FnScope N ps (defScope st)) (hπ : π.length = ps.length)
    (body : ∀ (f : Addr) (cdv : Value) (A : Around) (outer : List Env) (s : Shared) (H : Hp) (E : XK), Room k (A.deeper (envOfC x (defScope st) s.heap.objs.size f cdv)) → QSs (cxOf CX0 P w K mg base N x (defScope st) f cdv A outer s H E).nox π (defBody st) ex) :
    QFn P w K mg base x (k + 1) ps.length (fnF N.length π ex) := by
  obtain ⟨f, fd, hm, F, hb⟩ := a
  exact ⟨f, fd, ps, hm, F.kp, hb, fnokD F S hπ (body f)⟩
/-- the law's promise: True for every script -/
def spLaw (K : PySem.W.Frag) (mg : Str → Option Value) : Sp := fun vs H Q _ => Tabs ⟨K, mg⟩ H ∧ ∃ (a : Addr) (ns : List Int), vs = [.ref a] ∧ SqL K H a (ns.map V.int) ∧ ns.length ≤ 63 ∧ ∀ H', Q (.bl true) H'
theorem law_imp {P : Program} {w : World} {K : PySem.W.Frag} {mg : Str → Option Value} {base : Heap} {k : Nat} {f : Addr} {fd : FuncData} {ps : List Str} {sem : FS} (F : FnOk P w K mg base CX0 k f fd ps (spF ⟨K, mg⟩ 1 sem))
    (L : ∀ ns : List Int, ns.length ≤ 63 → ∃ os, sem [.fz (.scr ns)] = some (.fz (.bl true), os)) : FnOk P w K mg base CX0 k f fd ps (spLaw K mg) :=
  F.imp fun vs H Q E ⟨tb, a, ns, hv, hs, hl, q⟩ => by
    subst hv
    obtain ⟨os, e⟩ := L ns hl
    refine ⟨H, [.fz (.scr ns)], [], _, os, .refl _, tb, rfl, ⟨.ref a, [], [], [], rfl, rfl, ⟨rfl, a, rfl, hs⟩, rfl, rfl⟩, List.nodup_nil, by simp, e, fun v B' H' o1 o2 _ r _ _ _ => ?_⟩
    simp only [RepO, RepD] at r
    rw [r.2]; exact q H'
theorem At.none {P : Program} {w : World} {K : PySem.W.Frag} {mg : Str → Option Value} {base : Heap} {x : Str} {st : Stmt} {ps : List Str} {k n : Nat} (a : At K mg x st ps) : QFn P w K mg base x k n (fun _ => none) := by
  obtain ⟨f, fd, hm, F, hb⟩ := a
  exact qfn_none hm F.kp hb
end Q

namespace Q
open PySem PySem.Spec PyProof.Rows L2

def frE (g : EF) : EF := fun ρ => (g ρ).map fun r => (.fz r.1.fr, r.2)
theorem tE_fr {G : Gx} {g : EF} {σ : L2.St} {H : Hp} {Q : VK} (h : tE G (frE g) σ H Q) : tE G g σ H Q := by
  obtain ⟨ρ, B, As, o, ρ', R, e, k⟩ := h
  obtain ⟨⟨o1, ρ1⟩, e1, e2⟩ := Option.map_eq_some_iff.mp e
  cases e2
  refine ⟨ρ, B, As, o1, ρ1, R, e1, fun v B' H' As' own s r a => ?_⟩
  obtain ⟨s2, r2, rv⟩ := a.freeze s r
  exact k v _ H' As' [] s2 r2 (.fz rv r.nd)
theorem QE.fr {X : Cx} {e : Expr} {g : EF} (h : QE X e g) : QE X e (frE g) := pe_imp h fun _ _ _ h => tE_fr h
theorem tE_pureN {G : Gx} {g : NF} {σ : L2.St} {H : Hp} {Q : VK} (h : tE G (pureE (frN g)) σ H Q) : tN G g σ H Q := by
  obtain ⟨ρ, B, As, d, ρ', R, e1, k⟩ := h
  obtain ⟨d2, e2, e3⟩ := Option.map_eq_some_iff.mp e1
  cases e3
  obtain ⟨o, e4, rfl⟩ := Option.map_eq_some_iff.mp e2
  exact ⟨ρ, B, As, o, R, e4, fun v B' H' own f => k v _ H' As [] (f.fr.1.step As) (R.grow f.fr.1) (.fz f.fr.2 R.nd)⟩
section setlc
variable {X : Cx} {π : List Bool} {elt tg iter : Expr} {ifs : List Expr} {scope : Scope} {own : List (Str × Nat)} {pos spos py : Pos} {gi : IF} {tgt : TgF} {gt : BF} {ge : PF} {gE : EF} {sl : List Nat} {i : Nat} {y : Str}
theorem qs_setLcD {vs : List Nat} (hc : X.calm = true) (hN : X.N.Nodup) (ok : BlkOk X.N X.env.scope scope own) (hi : QIw X tg iter gi)
    (hg : ∀ (s : Shared) (H : Hp) (C : Addr) (cl : List (Str × Addr)) (fp : List Addr), QG (X.blk s H scope (compEnvC scope cl C X.env) fp) tg sl tgt)
    (ht : ∀ (s : Shared) (H : Hp) (C : Addr) (cl : List (Str × Addr)) (fp : List Addr), QTs (X.blk s H scope (compEnvC scope cl C X.env) fp) ifs gt)
    (he : ∀ (s : Shared) (H : Hp) (C : Addr) (cl : List (Str × Addr)) (fp : List Addr), QD (X.blk s H scope (compEnvC scope cl C X.env) fp) elt ge)
    (hy : X.N[i]? = some y := by rfl) (hl : X.env.scope.names.lookup y = some .local := by rfl) (hsw : swapsWith (.ListComp elt [⟨tg, iter, ifs, 0⟩] scope pos) (some (.Name y py)) spos.line X.env = pure true := by exact sw_true rfl rfl rfl (by decide +kernel))
    (hp : π[i]? ≠ some true := by decide) (hsl : ∀ i ∈ sl, i ∈ vs := by decide) (hvs : own.map (·.2) = vs := by rfl) (hf : ∀ x, foldedSetIterable iter X.env x = pure x := by intro _; rfl) :
    QS X π (.Assign [.Name y py] (.ListComp elt [⟨tg, iter, ifs, 0⟩] scope pos) spos) (setS i (pureE (frN (lcN gi vs tgt gt ge)))) := by
  subst hvs
  obtain ⟨ti, h1, h2⟩ := hi
  refine ps_imp (ps_setLc (i := i) (g := tG (gx X) sl tgt) (tt := tT (gx X) gt) (te := tD (gx X) ge) hc hN hy hl hsw h1 ok hg ht he hf) fun Dn σ H h => ?_
  exact lc_of h2 hsl (tE_pureN (set_of hp h))
theorem qs_setLcEf {vs : List Nat} (hc : X.calm = true) (hN : X.N.Nodup) (ok : BlkOk X.N X.env.scope scope own) (hi : QI X tg iter gi)
    (hg : ∀ (s : Shared) (H : Hp) (C : Addr) (cl : List (Str × Addr)) (fp : List Addr), QG (X.blk s H scope (compEnvC scope cl C X.env) fp) tg sl tgt)
    (ht : ∀ (s : Shared) (H : Hp) (C : Addr) (cl : List (Str × Addr)) (fp : List Addr), QTs (X.blk s H scope (compEnvC scope cl C X.env) fp) ifs gt)
    (he : ∀ (s : Shared) (H : Hp) (C : Addr) (cl : List (Str × Addr)) (fp : List Addr), QE (X.blk s H scope (compEnvC scope cl C X.env) fp) elt gE)
    (hy : X.N[i]? = some y := by rfl) (hl : X.env.scope.names.lookup y = some .local := by rfl) (hsw : swapsWith (.ListComp elt [⟨tg, iter, ifs, 0⟩] scope pos) (some (.Name y py)) spos.line X.env = pure true := by exact sw_true rfl rfl rfl (by decide +kernel))
    (hp : π[i]? ≠ some true := by decide) (hsl : ∀ i ∈ sl, i ∈ vs := by decide) (hvs : own.map (·.2) = vs := by rfl) (hf : ∀ x, foldedSetIterable iter X.env x = pure x := by intro _; rfl) :
    QS X π (.Assign [.Name y py] (.ListComp elt [⟨tg, iter, ifs, 0⟩] scope pos) spos) (setS i (frE (lcE gi vs tgt gt gE))) := by
  subst hvs
  obtain ⟨ti, h1, h2⟩ := hi
  exact ps_imp (ps_setLc (i := i) (g := tG (gx X) sl tgt) (tt := tT (gx X) gt) (te := tE (gx X) gE) hc hN hy hl hsw h1 ok hg ht he hf) fun Dn σ H h => lcE_of h2 hsl (tE_fr (set_of hp h))
end setlc
/-! ### join -/
def dStrs : List D → Option (List Str)
  | [] => some []
  | .str b :: ds => (dStrs ds).map (b :: ·)
  | _ => none
theorem dStrs_eq : ∀ {ds : List D} {bs : List Str}, dStrs ds = some bs → ds = bs.map D.str
  | [], bs, h => by simp only [dStrs, Option.some.injEq] at h; subst h; rfl
  | d :: ds, bs, h => by
    cases d <;> simp only [dStrs, Option.map_eq_some_iff, reduceCtorEq] at h
    obtain ⟨r, e1, rfl⟩ := h
    rw [dStrs_eq e1]; rfl
theorem dStrs_map (ns : List Str) : dStrs (ns.map D.str) = some ns := by
  induction ns with
  | nil => rfl
  | cons n ns ih => simp [dStrs, ih]
theorem RepDs.inj_strs {G : Gx} {B : Hp} : ∀ {ns : List Str} {vs : List V}, RepDs G B (ns.map D.str) vs → vs = ns.map V.str
  | [], vs, h => by simpa only [List.map_nil, RepDs] using h
  | n :: ns, vs, h => by
    simp only [List.map_cons, RepDs, RepD] at h
    obtain ⟨v, r, rfl, rfl, h⟩ := h
    rw [RepDs.inj_strs h]; rfl
def joinD : D → D → Option D
  | .str a, .lst ds => (dStrs ds).bind fun ys => if (ys.map (·.length)).sum + ys.length * a.length ≤ 16777216 then some (.str (Txt.join a ys)) else none
  | .str a, .tup ds => (dStrs ds).bind fun ys => if (ys.map (·.length)).sum + ys.length * a.length ≤ 16777216 then some (.str (Txt.join a ys)) else none
  | _, _ => none
def joinF (ga gb : PF) : PF := fun ρ => (ga ρ).bind fun x => (gb ρ).bind fun y => joinD x y
theorem qd_join {X : Cx} {o e : Expr} {ga gb : PF} {apos pos : Pos} (ho : QW X o ga) (he : QW X e gb) (hs : starEach [e] X.env = [(false, eval e X.env)] := by rfl) (hb : attributeBase o "join" X.env (eval o X.env) = eval o X.env := by rfl)
    (hl : (apos.endLine == pos.line) = true := by rfl) : QD X (.Call (.Attribute o "join" apos) [e] [] pos) (joinF ga gb) := pe_imp (pe_join ho he hs hb hl) fun σ H Q ⟨ρ, B, As, d, R, e, k⟩ => by
  obtain ⟨x, y, e1, e2, e3⟩ := two e
  refine ⟨ρ, B, As, x, R, e1, fun v B1 H1 g1 w1 => ?_⟩
  unfold joinD at e3
  split at e3
  · cases rw_str w1
    refine ⟨⟨_, rfl⟩, ρ, B1, As, _, R.grow g1, e2, fun v B2 H2 g2 w2 => ?_⟩
    obtain ⟨ys, e4, e5⟩ := Option.bind_eq_some_iff.mp e3
    obtain ⟨hz, rfl⟩ := if_some e5
    obtain ⟨a, vs, rfl, h1, h2⟩ := w2
    cases dStrs_eq e4
    cases h2.inj_strs
    exact ⟨_, a, ys, rfl, rfl, .inl (SqL.of h1), hz, k _ B2 H2 (g1.trans g2) rfl⟩
  · cases rw_str w1
    refine ⟨⟨_, rfl⟩, ρ, B1, As, _, R.grow g1, e2, fun v B2 H2 g2 w2 => ?_⟩
    obtain ⟨ys, e4, e5⟩ := Option.bind_eq_some_iff.mp e3
    obtain ⟨hz, rfl⟩ := if_some e5
    obtain ⟨a, vs, rfl, _, h1, h2⟩ := rw_tup g2.sub w2
    cases dStrs_eq e4
    cases h2.inj_strs
    exact ⟨_, a, ys, rfl, rfl, .inr h1, hz, k _ B2 H2 (g1.trans g2) rfl⟩
  · cases e3
/-! ### the built-in names -/
theorem bt_len : bootBuiltins "len" = some (.builtin "len") := by decide +kernel
theorem bt_all : bootBuiltins "all" = some (.builtin "all") := by decide +kernel
theorem bt_any : bootBuiltins "any" = some (.builtin "any") := by decide +kernel
theorem bt_max : bootBuiltins "max" = some (.builtin "max") := by decide +kernel
theorem bt_min : bootBuiltins "min" = some (.builtin "min") := by decide +kernel
theorem bt_sorted : bootBuiltins "sorted" = some (.builtin "sorted") := by decide +kernel
theorem bt_int : bootBuiltins "int" = some (.type "int") := by decide +kernel
theorem bt_str : bootBuiltins "str" = some (.type "str") := by decide +kernel
theorem bt_list : bootBuiltins "list" = some (.type "list") := by decide +kernel
theorem bt_tuple : bootBuiltins "tuple" = some (.type "tuple") := by decide +kernel
theorem bt_bool : bootBuiltins "bool" = some (.type "bool") := by decide +kernel
theorem bt_dict : bootBuiltins "dict" = some (.type "dict") := by decide +kernel
end Q

namespace Q
open PySem PySem.Spec PyProof.Rows L2

/-- m answers, and its answer is as Q says -/
def wp {α : Type} (m : Option α) (Q : α → Prop) : Prop := ∃ a, m = some a ∧ Q a
section
variable {α β : Type} {Q : α → Prop} {R : β → Prop}
@[simp] theorem wp_some {a : α} : wp (some a) Q ↔ Q a := ⟨fun ⟨b, e, h⟩ => by cases e; exact h, fun h => ⟨a, rfl, h⟩⟩
@[simp] theorem wp_none : wp none Q ↔ False := ⟨fun h => (by obtain ⟨b, e, _⟩ := h; exact nomatch e), False.elim⟩
@[simp] theorem wp_bind {m : Option α} {f : α → Option β} : wp (m.bind f) R ↔ wp m fun a => wp (f a) R := by cases m <;> simp
@[simp] theorem wp_map {m : Option α} {f : α → β} : wp (m.map f) R ↔ wp m fun a => R (f a) := by cases m <;> simp
theorem wp_mono {m : Option α} {Q Q' : α → Prop} (h : wp m Q) (k : ∀ a, Q a → Q' a) : wp m Q' := let ⟨a, e, q⟩ := h; ⟨a, e, k a q⟩
theorem wp_eq {m : Option α} {a : α} (h : m = some a) : wp m Q ↔ Q a := by rw [h]; simp
theorem wp_ite {c : Prop} [Decidable c] {x y : Option α} : wp (if c then x else y) Q ↔ if c then wp x Q else wp y Q := by split <;> rfl
theorem wp_guard {c : Prop} [Decidable c] {x : α} (h : c) (q : Q x) : wp (if c then some x else none) Q := by rw [if_pos h]; simpa using q
theorem wp_if {c : Prop} [Decidable c] {x : Option α} (h : c) (q : wp x Q) : wp (if c then x else none) Q := by rw [if_pos h]; exact q
end
section comb
variable {ρ : Ev} {g : PF} {gn : NF} {ge : EF} {gb gb2 : BF} {ga gc : PF} {a b : SF} {f : D → D → Option O} {p p2 : D → D → Option Bool} {i : Nat}
variable {QD' : D → Prop} {QO' : O → Prop} {QE' : O × Ev → Prop} {QB : Bool → Prop} {QS' : Out × Ev → Prop} {QL : List D → Prop} {QV : Ev → Prop}
def seqK (b : SF) (Q : Out × Ev → Prop) (r : Out × Ev) : Prop := match r.1 with
  | .nx => wp (b r.2) Q
  | o => Q (o, r.2)
@[simp] theorem seqK_nx : seqK b QS' (.nx, ρ) ↔ wp (b ρ) QS' := Iff.rfl
@[simp] theorem seqK_ret {o} : seqK b QS' (.ret o, ρ) ↔ QS' (.ret o, ρ) := Iff.rfl
@[simp] theorem seqK_brk : seqK b QS' (.brk, ρ) ↔ QS' (.brk, ρ) := Iff.rfl
@[simp] theorem seqK_ct : seqK b QS' (.ct, ρ) ↔ QS' (.ct, ρ) := Iff.rfl
@[simp] theorem wp_seqS : wp (seqS a b ρ) QS' ↔ wp (a ρ) (seqK b QS') := by
  unfold seqS
  rw [wp_bind]
  constructor <;> intro h <;> refine wp_mono h fun r h => ?_ <;> obtain ⟨o, ρ1⟩ := r <;> cases o <;> simpa [seqK] using h
@[simp] theorem wp_skipS : wp (skipS ρ) QS' ↔ QS' (.nx, ρ) := by simp [skipS]
@[simp] theorem wp_ifS : wp (ifS gb a b ρ) QS' ↔ wp (gb ρ) fun c => if c = true then wp (a ρ) QS' else wp (b ρ) QS' := by simp [ifS, wp_ite]
@[simp] theorem wp_retS : wp (retS ge ρ) QS' ↔ wp (ge ρ) fun r => QS' (.ret r.1, r.2) := by simp [retS]
@[simp] theorem wp_retN : wp (retN ρ) QS' ↔ QS' (.ret (.fz .non), ρ) := by simp [retN]
@[simp] theorem wp_brkS : wp (brkS ρ) QS' ↔ QS' (.brk, ρ) := by simp [brkS]
@[simp] theorem wp_ctS : wp (ctS ρ) QS' ↔ QS' (.ct, ρ) := by simp [ctS]
@[simp] theorem wp_exprS : wp (exprS ge ρ) QS' ↔ wp (ge ρ) fun r => QS' (.nx, r.2) := by simp [exprS]
@[simp] theorem wp_setS : wp (setS i ge ρ) QS' ↔ wp (ge ρ) fun r => QS' (.nx, r.2.set i (some r.1)) := by simp [setS]
@[simp] theorem wp_asgS {t : TgF} : wp (asgS t ge ρ) QS' ↔ wp (ge ρ) fun r => wp (t r.1.fr r.2) fun ρ' => QS' (.nx, ρ') := by simp [asgS]
@[simp] theorem wp_forS {gi : IF} {t : TgF} : wp (forS gi t b ρ) QS' ↔ wp (gi ρ) fun ds => wp (forGo t b ds ρ) QS' := by simp [forS]
@[simp] theorem wp_pureE : wp (pureE g ρ) QE' ↔ wp (g ρ) fun d => QE' (.fz d, ρ) := by simp [pureE]
@[simp] theorem wp_freshE : wp (freshE gn ρ) QE' ↔ wp (gn ρ) fun d => QE' (d, ρ) := by simp [freshE]
@[simp] theorem wp_frE : wp (frE ge ρ) QE' ↔ wp (ge ρ) fun r => QE' (.fz r.1.fr, r.2) := by simp [frE]
@[simp] theorem wp_mvE : wp (mvE i ρ) QE' ↔ wp (ρ[i]?.join) fun o => QE' (o, ρ.set i none) := by simp [mvE]
@[simp] theorem wp_frN : wp (frN gn ρ) QD' ↔ wp (gn ρ) fun o => QD' o.fr := by simp [frN]
@[simp] theorem wp_asB : wp (asB gb ρ) QD' ↔ wp (gb ρ) fun o => QD' (.bl o) := by simp [asB]
@[simp] theorem wp_cst {d : D} : wp (cst d ρ) QD' ↔ QD' d := by simp [cst]
@[simp] theorem wp_cmp : wp (cmp p ga gc ρ) QB ↔ wp (ga ρ) fun x => wp (gc ρ) fun y => wp (p x y) QB := by simp [cmp]
@[simp] theorem wp_bin : wp (Q.bin f ga gc ρ) QO' ↔ wp (ga ρ) fun x => wp (gc ρ) fun y => wp (f x y) QO' := by simp [Q.bin]
@[simp] theorem wp_chn : wp (chn p p2 ga gc g ρ) QB ↔ wp (ga ρ) fun x => wp (gc ρ) fun y => wp (p x y) fun k => if k = true then wp (g ρ) fun z => wp (p2 y z) QB else QB false := by simp [chn, wp_ite]
@[simp] theorem wp_andB : wp (andB gb gb2 ρ) QB ↔ wp (gb ρ) fun x => if x = true then wp (gb2 ρ) QB else QB false := by simp [andB, wp_ite]
@[simp] theorem wp_orB : wp (orB gb gb2 ρ) QB ↔ wp (gb ρ) fun x => if x = true then QB true else wp (gb2 ρ) QB := by simp [orB, wp_ite]
@[simp] theorem wp_notB : wp (notB gb ρ) QB ↔ wp (gb ρ) fun x => QB (!x) := by simp [notB]
@[simp] theorem wp_ifV : wp (ifV gb ga gc ρ) QD' ↔ wp (gb ρ) fun x => if x = true then wp (ga ρ) QD' else wp (gc ρ) QD' := by simp [ifV, wp_ite]
@[simp] theorem wp_yesB : wp (yesB ρ) QB ↔ QB true := by simp [yesB]
def blK (Q : Bool → Prop) : D → Prop
  | .bl b => Q b
  | _ => False
@[simp] theorem blK_bl {c : Bool} : blK QB (.bl c) ↔ QB c := Iff.rfl
@[simp] theorem wp_isB : wp (isB g ρ) QB ↔ wp (g ρ) (blK QB) := by
  unfold isB
  rw [wp_bind]
  constructor <;> intro h <;> refine wp_mono h fun r h => ?_ <;> cases r <;> simpa [blK] using h
@[simp] theorem wp_tru : wp (tru g ρ) QB ↔ wp (g ρ) fun d => wp (truB d) QB := by simp [tru]
def fzK (Q : D → Prop) : O → Prop
  | .fz d => Q d
  | _ => False
@[simp] theorem fzK_fz {d : D} : fzK QD' (.fz d) ↔ QD' d := Iff.rfl
@[simp] theorem wp_varD : wp (valP (varP i) ρ) QD' ↔ wp (ρ[i]?.join) (fzK QD') := by
  unfold valP
  rw [wp_bind]
  constructor <;> intro h <;> refine wp_mono h fun r h => ?_ <;> cases r <;> simpa [fzK] using h
@[simp] theorem wp_varW : wp (viewP (varP i) ρ) QD' ↔ wp (ρ[i]?.join) fun o => wp o.view QD' := by simp [viewP, varP]
@[simp] theorem wp_ixF : wp (ixF ga gc ρ) QD' ↔ wp (ga ρ) fun x => wp (gc ρ) fun y => wp (ixU x y) QD' := by simp [ixF]
@[simp] theorem wp_joinF : wp (joinF ga gc ρ) QD' ↔ wp (ga ρ) fun x => wp (gc ρ) fun y => wp (joinD x y) QD' := by simp [joinF]
@[simp] theorem wp_evs_nil : wp (evs [] ρ) QL ↔ QL [] := by simp [evs]
@[simp] theorem wp_evs_cons {gs : List PF} : wp (evs (g :: gs) ρ) QL ↔ wp (g ρ) fun d => wp (evs gs ρ) fun ds => QL (d :: ds) := by simp [evs]
@[simp] theorem wp_tupF {gs : List PF} : wp (tupF gs ρ) QD' ↔ wp (evs gs ρ) fun ds => QD' (.tup ds) := by simp [tupF]
@[simp] theorem wp_lstN {gs : List PF} : wp (lstN gs ρ) QO' ↔ wp (evs gs ρ) fun ds => QO' (.ls ds) := by simp [lstN]
@[simp] theorem wp_calN {gs : List PF} {f : List D → Option O} : wp (calN f gs ρ) QO' ↔ wp (evs gs ρ) fun ds => wp (f ds) QO' := by simp [calN]
@[simp] theorem wp_callN {gs : List PF} {f : FS} : wp (callN f gs ρ) QO' ↔ wp (evs gs ρ) fun ds => wp (f (ds.map .fz)) fun r => QO' r.1 := by simp [callN]
@[simp] theorem wp_callE {as : List Arg} {f : FS} : wp (callE f as ρ) QE' ↔ wp (takeA as ρ ρ) fun r => wp (f r.1) fun q => wp (putA as q.2 r.2) fun ρ' => QE' (q.1, ρ') := by simp [callE]
@[simp] theorem wp_take_nil {κ : Ev} {Q : List O × Ev → Prop} : wp (takeA [] ρ κ) Q ↔ Q ([], κ) := by simp [takeA]
@[simp] theorem wp_take_v {κ : Ev} {as : List Arg} {Q : List O × Ev → Prop} : wp (takeA (.v g :: as) ρ κ) Q ↔ wp (g ρ) fun d => wp (takeA as ρ κ) fun r => Q (.fz d :: r.1, r.2) := by simp [takeA]
@[simp] theorem wp_take_m {κ : Ev} {as : List Arg} {Q : List O × Ev → Prop} : wp (takeA (.m i :: as) ρ κ) Q ↔ wp (κ[i]?.join) fun o => wp (takeA as ρ (κ.set i none)) fun r => Q (o :: r.1, r.2) := by simp [takeA]
def intK (Q : Int → Prop) : D → Prop
  | .int i => Q i
  | _ => False
@[simp] theorem intK_int {Q : Int → Prop} {n : Int} : intK Q (.int n) ↔ Q n := Iff.rfl
@[simp] theorem wp_negN : wp (negN g ρ) QO' ↔ wp (g ρ) (intK fun i => QO' (.fz (.int (-i)))) := by
  unfold negN
  rw [wp_bind]
  constructor <;> intro h <;> refine wp_mono h fun r h => ?_ <;> cases r <;> simpa [intK] using h
@[simp] theorem wp_isiB {T : String} : wp (isiB T g ρ) QB ↔ wp (g ρ) fun d => wp (tyN d) fun t => wp (subT t T) QB := by simp [isiB]
@[simp] theorem wp_slcN {gl gh : Ev → Option (Option Int)} : wp (slcN g gl gh ρ) QO' ↔ wp (g ρ) fun x => wp (gl ρ) fun l => wp (gh ρ) fun h => wp (slcO x l h) QO' := by simp [slcN]
@[simp] theorem wp_noI {Q : Option Int → Prop} : wp (noI ρ) Q ↔ Q none := by simp [noI]
@[simp] theorem wp_someI {Q : Option Int → Prop} : wp (someI g ρ) Q ↔ wp (g ρ) (intK fun i => Q (some i)) := by
  unfold someI
  rw [wp_bind]
  constructor <;> intro h <;> refine wp_mono h fun r h => ?_ <;> cases r <;> simpa [intK] using h
@[simp] theorem wp_setT {d : D} : wp (setT i d ρ) QV ↔ QV (ρ.set i (some (.fz d))) := by simp [setT]
def itK (Q : List D → Prop) : D → Prop
  | .lst ds => Q ds
  | .tup ds => Q ds
  | .str x => Q (x.cps.toList.map fun c => .str ⟨#[c]⟩)
  | _ => False
@[simp] theorem itK_lst {Q : List D → Prop} {ds} : itK Q (.lst ds) ↔ Q ds := Iff.rfl
@[simp] theorem itK_tup {Q : List D → Prop} {ds} : itK Q (.tup ds) ↔ Q ds := Iff.rfl
@[simp] theorem itK_str {Q : List D → Prop} {x : Str} : itK Q (.str x) ↔ Q (x.cps.toList.map fun c => .str ⟨#[c]⟩) := Iff.rfl
@[simp] theorem wp_itU {Q : List D → Prop} : wp (itU g ρ) Q ↔ wp (g ρ) (itK Q) := by
  unfold itU
  rw [wp_bind]
  constructor <;> intro h <;> refine wp_mono h fun r h => ?_ <;> cases r <;> simpa [itK] using h
def rngD (a : Int) (n : Nat) : List D := (List.range n).map fun k => .int (a + ((k : Nat) : Int))
theorem wp_if_iff {α : Type} {c : Prop} [Decidable c] {x : α} {Q : α → Prop} : wp (if c then some x else none) Q ↔ c ∧ Q x := by
  split
  · rename_i h; simp [h]
  · rename_i h; simp [h]
@[simp] theorem wp_itR1 {Q : List D → Prop} : wp (itR1 g ρ) Q ↔ wp (g ρ) (intK fun n => (-2 ^ 62 ≤ n ∧ n < 2 ^ 62) ∧ Q (rngD 0 n.toNat)) := by
  unfold itR1
  rw [wp_bind]
  constructor <;> intro h <;> refine wp_mono h fun r h => ?_ <;> cases r <;> first | (simp only [intK, wp_none] at h) | skip
  · simpa only [wp_if_iff, intK, rngD, Int.zero_add] using h
  · simpa only [wp_if_iff, intK, rngD, Int.zero_add] using h
@[simp] theorem wp_itR2 {Q : List D → Prop} : wp (itR2 ga gc ρ) Q ↔ wp (ga ρ) fun x => wp (gc ρ) fun y => intK (fun i => intK (fun j => (-2 ^ 62 ≤ i ∧ i < 2 ^ 62 ∧ -2 ^ 62 ≤ j ∧ j < 2 ^ 62) ∧ Q (rngD i (j - i).toNat)) y) x := by
  unfold itR2
  rw [wp_bind]
  constructor <;> intro h <;> refine wp_mono h fun x h => ?_
  · rw [wp_bind] at h
    refine wp_mono h fun y h => ?_
    cases x <;> cases y <;> first | (simp only [intK, wp_none] at h) | skip
    simpa only [wp_if_iff, intK, rngD] using h
  · rw [wp_bind]
    refine wp_mono h fun y h => ?_
    cases x <;> cases y <;> first | (simp only [intK, wp_none] at h) | skip
    simpa only [wp_if_iff, intK, rngD] using h
@[simp] theorem wp_lcN {gi : IF} {vs : List Nat} {t : TgF} : wp (lcN gi vs t gb g ρ) QO' ↔ wp (gi ρ) fun ds => wp (if ds.length ≤ sizeLine then (lcGo t gb g (wipeE ρ vs) ds).map .ls else none) QO' := by simp [lcN]
def lsK (Q : List D → Prop) : O → Prop
  | .ls ds => Q ds
  | _ => False
@[simp] theorem lsK_ls {Q : List D → Prop} {ds} : lsK Q (.ls ds) ↔ Q ds := Iff.rfl
def appK (i : Nat) (Q : Out × Ev → Prop) (r : O × Ev) : Prop := wp (r.2[i]?.join) (lsK fun ds => ds.length < sizeLine ∧ Q (.nx, r.2.set i (some (.ls (ds ++ [r.1.fr])))))
@[simp] theorem appK_eq {o : O} : appK i QS' (o, ρ) ↔ wp (ρ[i]?.join) (lsK fun ds => ds.length < sizeLine ∧ QS' (.nx, ρ.set i (some (.ls (ds ++ [o.fr]))))) := Iff.rfl
@[simp] theorem wp_appS : wp (appS i ge ρ) QS' ↔ wp (ρ[i]?.join) fun o0 => isLs o0 = true ∧ wp (ge ρ) (appK i QS') := by
  unfold appS
  rw [wp_bind]
  constructor <;> intro h <;> refine wp_mono h fun o h => ?_
  · split at h
    · rename_i q
      refine ⟨q, ?_⟩
      rw [wp_bind] at h
      refine wp_mono h fun r h => ?_
      unfold appK
      rw [wp_bind] at h
      refine wp_mono h fun o h => ?_
      cases o <;> simp only [wp_none] at h
      obtain ⟨a, e, q⟩ := h
      obtain ⟨hz, rfl⟩ := if_some e
      exact ⟨hz, q⟩
    · simp at h
  · obtain ⟨q, h⟩ := h
    rw [if_pos q, wp_bind]
    refine wp_mono h fun r h => ?_
    rw [wp_bind]
    unfold appK at h
    refine wp_mono h fun o h => ?_
    cases o <;> simp only [lsK] at h
    exact wp_guard h.1 h.2
def stoK (i : Nat) (gi : PF) (Q : Out × Ev → Prop) (r : O × Ev) : Prop := wp (gi r.2) (intK fun j => wp (r.2[i]?.join) (lsK fun ds => wp (L2.ixN ds.length j) fun n => Q (Out.nx, r.2.set i (some (.ls (ds.set n r.1.fr))))))
@[simp] theorem stoK_eq {gi : PF} {o : O} : stoK i gi QS' (o, ρ) ↔ wp (gi ρ) (intK fun j => wp (ρ[i]?.join) (lsK fun ds => wp (L2.ixN ds.length j) fun n => QS' (Out.nx, ρ.set i (some (.ls (ds.set n o.fr)))))) := Iff.rfl
@[simp] theorem wp_stoS {gi : PF} : wp (stoS i gi ge ρ) QS' ↔ wp (ge ρ) (stoK i gi QS') := by
  unfold stoS stoK
  rw [wp_bind]
  constructor <;> intro h <;> refine wp_mono h fun r h => ?_
  · rw [wp_bind] at h
    refine wp_mono h fun k h => ?_
    rw [wp_bind] at h
    cases k with
    | int n =>
      refine wp_mono h fun o h => ?_
      cases o <;> simp only [wp_none] at h
      simpa using h
    | _ =>
      obtain ⟨o, _, a, e, _⟩ := h
      cases o <;> cases e
  · rw [wp_bind]
    refine wp_mono h fun k h => ?_
    rw [wp_bind]
    cases k <;> simp only [intK] at h
    refine wp_mono h fun o h => ?_
    cases o <;> simp only [lsK] at h
    simpa using h
def fnK (π : List Bool) (os : List O) (Q : O × List O → Prop) (r : Out × Ev) : Prop := match r.1 with
  | .ret o => wp (outs π os r.2) fun os' => Q (o, os')
  | .nx => wp (outs π os r.2) fun os' => Q (.fz .non, os')
  | _ => False
@[simp] theorem fnK_ret {π os Q o} : fnK π os Q (.ret o, ρ) ↔ wp (outs π os ρ) fun os' => Q (o, os') := Iff.rfl
@[simp] theorem fnK_nx {π os Q} : fnK π os Q (.nx, ρ) ↔ wp (outs π os ρ) fun os' => Q (.fz .non, os') := Iff.rfl
theorem wp_fnF {m : Nat} {π : List Bool} {os : List O} {Q : O × List O → Prop} (hl : os.length = π.length) : wp (fnF m π a os) Q ↔ wp (a (os.map some ++ List.replicate (m - os.length) none)) (fnK π os Q) := by
  unfold fnF
  rw [if_pos hl, wp_bind]
  constructor <;> intro h <;> refine wp_mono h fun r h => ?_ <;> obtain ⟨o, ρ1⟩ := r <;> cases o <;> simpa [fnK] using h
end comb
/-! ### loops -/
theorem wp_forGo {t : TgF} {body : SF} {Q : Out × Ev → Prop} (I : List D → Ev → Prop) {ds : List D} {ρ : Ev} (h0 : I ds ρ)
    (step : ∀ d ds ρ, I (d :: ds) ρ → wp (t d ρ) fun ρ1 => wp (body ρ1) fun r => match r.1 with
      | .nx => I ds r.2
      | .ct => I ds r.2
      | .brk => Q (.nx, r.2)
      | .ret o => Q (.ret o, r.2))
    (fin : ∀ ρ, I [] ρ → Q (.nx, ρ)) : wp (forGo t body ds ρ) Q := by
  induction ds generalizing ρ with
  | nil => simp only [forGo, wp_some]; exact fin ρ h0
  | cons d ds ih =>
    simp only [forGo, wp_bind]
    refine wp_mono (step d ds ρ h0) fun ρ1 h => wp_mono h fun r h => ?_
    obtain ⟨o, ρ2⟩ := r
    cases o with
    | nx => exact ih h
    | ct => exact ih h
    | brk => simpa using h
    | ret o => simpa using h
end Q

namespace Q
open PySem PySem.Spec PyProof.Rows L2
section
variable {d e x y : D} {ds es : List D} {i j : Int} {b c : Bool} {s t : Str} {ns : List Int}
@[simp] theorem view_fz : (O.fz d).view = some d := rfl
@[simp] theorem view_ls : (O.ls ds).view = some (.lst ds) := rfl
@[simp] theorem fr_fz : (O.fz d).fr = d := rfl
@[simp] theorem fr_ls : (O.ls ds).fr = .lst ds := rfl
@[simp] theorem isLs_ls : isLs (.ls ds) = true := rfl
@[simp] theorem outs_nil {ρ : Ev} : outs [] [] ρ = some [] := by simp [outs]
@[simp] theorem outs_t {π os o ρ} {o0 : O} : outs (true :: π) (o0 :: os) (some o :: ρ) = (outs π os ρ).map (o :: ·) := rfl
@[simp] theorem outs_f {π os x ρ} : outs (false :: π) (.fz d :: os) (x :: ρ) = (outs π os ρ).map (.fz d :: ·) := rfl
@[simp] theorem isO_non : isO d .non = some (Q.isNon d) := rfl
@[simp] theorem isO_bl : isO (.bl b) (.bl c) = some (b == c) := rfl
@[simp] theorem isNotO_non : isNotO d .non = some (!Q.isNon d) := rfl
@[simp] theorem isNotO_bl : isNotO (.bl b) (.bl c) = some (!(b == c)) := rfl
@[simp] theorem isNon_non : Q.isNon .non = true := rfl
@[simp] theorem isNon_int : Q.isNon (.int i) = false := rfl
@[simp] theorem isNon_str : Q.isNon (.str s) = false := rfl
@[simp] theorem isNon_bl : Q.isNon (.bl b) = false := rfl
@[simp] theorem isNon_tup : Q.isNon (.tup ds) = false := rfl
@[simp] theorem isNon_lst : Q.isNon (.lst ds) = false := rfl
@[simp] theorem eqB_int : eqB (.int i) (.int j) = some (decide (i = j)) := rfl
@[simp] theorem eqB_str : eqB (.str s) (.str t) = some (decide (s = t)) := rfl
@[simp] theorem eqB_bl : eqB (.bl b) (.bl c) = some (decide (b = c)) := rfl
@[simp] theorem eqB_nn : eqB .non .non = some true := rfl
@[simp] theorem eqB_ni : eqB .non (.int i) = some false := rfl
@[simp] theorem eqB_in : eqB (.int i) .non = some false := rfl
@[simp] theorem eqB_ns : eqB .non (.str s) = some false := rfl
@[simp] theorem eqB_sn : eqB (.str s) .non = some false := rfl
@[simp] theorem eqB_is : eqB (.int i) (.str s) = some false := rfl
@[simp] theorem eqB_si : eqB (.str s) (.int i) = some false := rfl
@[simp] theorem neB_eq : neB d e = (eqB d e).map (! ·) := rfl
@[simp] theorem ixU_tup : ixU (.tup ds) (.int i) = atI ds i := rfl
@[simp] theorem ixU_lst : ixU (.lst ds) (.int i) = atI ds i := rfl
@[simp] theorem ixU_scr : ixU (.scr ns) (.int i) = (atI ns i).map D.int := rfl
@[simp] theorem ixU_str : ixU (.str s) (.int i) = if 0 ≤ i ∧ i < 2 ^ 63 ∧ i < s.length then (s.cps[i.toNat]?).map fun c => .str ⟨#[c]⟩ else none := rfl
@[simp] theorem addO_int : addO (.int i) (.int j) = some (.fz (.int (i + j))) := rfl
@[simp] theorem addO_str : addO (.str s) (.str t) = if s.length + t.length ≤ sizeLine then some (.fz (.str (s ++ t))) else none := rfl
@[simp] theorem addO_lst : addO (.lst ds) (.lst es) = if ds.length + es.length ≤ sizeLine then some (.ls (ds ++ es)) else none := rfl
@[simp] theorem addO_tup : addO (.tup ds) (.tup es) = if ds.length + es.length ≤ sizeLine then some (.fz (.tup (ds ++ es))) else none := rfl
@[simp] theorem subO_int : subO (.int i) (.int j) = some (.fz (.int (i - j))) := rfl
@[simp] theorem intO_int {f : Int → Int → Option Int} : intO f (.int i) (.int j) = (f i j).map fun k => .fz (.int k) := rfl
@[simp] theorem cmpI_int {p : Int → Int → Bool} : cmpI p (.int i) (.int j) = some (p i j) := rfl
@[simp] theorem truB_bl : truB (.bl b) = some b := rfl
@[simp] theorem truB_non : truB .non = some false := rfl
@[simp] theorem truB_int : truB (.int i) = some (i != 0) := rfl
@[simp] theorem truB_lst : truB (.lst ds) = some !ds.isEmpty := rfl
@[simp] theorem truB_tup : truB (.tup ds) = some !ds.isEmpty := rfl
@[simp] theorem lenO_lst : lenO [.lst ds] = some (.fz (.int ds.length)) := rfl
@[simp] theorem lenO_tup : lenO [.tup ds] = some (.fz (.int ds.length)) := rfl
@[simp] theorem lenO_scr : lenO [.scr ns] = some (.fz (.int ns.length)) := rfl
@[simp] theorem lenO_str : lenO [.str s] = if s.length ≤ sizeLine then some (.fz (.int s.length)) else none := rfl
@[simp] theorem intC_int : intC [.int i] = some (.fz (.int i)) := rfl
@[simp] theorem intC_bl : intC [.bl b] = some (.fz (.int (if b then 1 else 0))) := rfl
@[simp] theorem listC_lst : listC [.lst ds] = some (.ls ds) := rfl
@[simp] theorem listC_tup : listC [.tup ds] = some (.ls ds) := rfl
@[simp] theorem tupleC_lst : tupleC [.lst ds] = some (.fz (.tup ds)) := rfl
@[simp] theorem tupleC_tup : tupleC [.tup ds] = some (.fz (.tup ds)) := rfl
@[simp] theorem allC_lst : allC [.lst ds] = (dBls ds).map fun bs => .fz (.bl (bs.all _root_.id)) := rfl
@[simp] theorem anyC_lst : anyC [.lst ds] = (dBls ds).map fun bs => .fz (.bl (bs.any _root_.id)) := rfl
@[simp] theorem maxC_int : maxC [.int i, .int j] = some (.fz (.int (if j > i then j else i))) := rfl
@[simp] theorem minC_int : minC [.int i, .int j] = some (.fz (.int (if j < i then j else i))) := rfl
@[simp] theorem tyN_non : tyN .non = some "NoneType" := rfl
@[simp] theorem tyN_bl : tyN (.bl b) = some "bool" := rfl
@[simp] theorem tyN_int : tyN (.int i) = some "int" := rfl
@[simp] theorem tyN_str : tyN (.str s) = some "str" := rfl
@[simp] theorem tyN_tup : tyN (.tup ds) = some "tuple" := rfl
@[simp] theorem tyN_lst : tyN (.lst ds) = some "list" := rfl
@[simp] theorem subT_ii : subT "int" "int" = some true := rfl
@[simp] theorem subT_ib : subT "int" "bool" = some false := rfl
@[simp] theorem subT_bi : subT "bool" "int" = some true := rfl
@[simp] theorem subT_bb : subT "bool" "bool" = some true := rfl
@[simp] theorem subT_ss : subT "str" "str" = some true := rfl
@[simp] theorem subT_tt : subT "tuple" "tuple" = some true := rfl
@[simp] theorem subT_ll : subT "list" "list" = some true := rfl
@[simp] theorem slcO_lst {l h : Option Int} : slcO (.lst ds) l h = some (.ls (cutD ds l h)) := rfl
@[simp] theorem slcO_tup {l h : Option Int} : slcO (.tup ds) l h = some (.fz (.tup (cutD ds l h))) := rfl
@[simp] theorem slcO_str {l h : Option Int} : slcO (.str s) l h = if s.length ≤ sizeLine then some (.fz (.str (cutS s l h))) else none := rfl
end
theorem atI_nonneg {α : Type} {xs : List α} {i : Int} (h : 0 ≤ i) : atI xs i = xs[i.toNat]? := by
  unfold atI L2.ixN
  rw [if_pos h]
  split
  · rfl
  · rename_i q
    rw [List.getElem?_eq_none_iff.mpr (by omega)]; rfl
@[simp] theorem atI_ofNat {α : Type} {xs : List α} {n : Nat} : atI xs (no_index (OfNat.ofNat n : Int)) = xs[n]? := atI_nonneg (i := (OfNat.ofNat n : Int)) (Int.natCast_nonneg n)
@[simp] theorem atI_zero {α : Type} {xs : List α} : atI xs 0 = xs[0]? := atI_nonneg (by decide)
@[simp] theorem atI_one {α : Type} {xs : List α} : atI xs 1 = xs[1]? := atI_nonneg (by decide)
@[simp] theorem atI_cast {α : Type} {xs : List α} {n : Nat} : atI xs (n : Int) = xs[n]? := by
  rw [atI_nonneg (by omega), Int.toNat_natCast]
@[simp] theorem atI_cast1 {α : Type} {xs : List α} {n : Nat} : atI xs ((n : Int) + 1) = xs[n + 1]? := by
  rw [atI_nonneg (by omega)]; congr 1
@[simp] theorem atI_neg1 {α : Type} {xs : List α} : atI xs (-1) = xs.getLast? := by
  unfold atI L2.ixN
  rw [if_neg (by decide)]
  split
  · rename_i h
    rw [List.getLast?_eq_getElem?]
    show xs[(-1 + (xs.length : Int)).toNat]? = _
    congr 1
    omega
  · rename_i h
    have : xs = [] := List.length_eq_zero_iff.mp (by omega)
    subst this; rfl
theorem wp_sized {α : Type} {c : Prop} [Decidable c] {x : α} {Q : α → Prop} : wp (if c then some x else none) Q ↔ c ∧ Q x := wp_if_iff
@[simp] theorem wp_ite_none {α : Type} {c : Prop} [Decidable c] {x : Option α} {Q : α → Prop} : wp (if c then x else none) Q ↔ c ∧ wp x Q := by
  split
  · rename_i h; simp [h]
  · rename_i h; simp [h]
@[simp] theorem wp_not_none {α : Type} {c : Prop} [Decidable c] {x : Option α} {Q : α → Prop} : wp (if c then none else x) Q ↔ ¬c ∧ wp x Q := by
  split
  · rename_i h; simp [h]
  · rename_i h; simp [h]
@[simp] theorem mulI_wp {i j : Int} {Q : Int → Prop} : wp (mulI i j) Q ↔ (-2 ^ 64 < i ∧ i < 2 ^ 64 ∨ -2 ^ 64 < j ∧ j < 2 ^ 64) ∧ Q (i * j) := wp_if_iff
@[simp] theorem divI_wp {i j : Int} {Q : Int → Prop} : wp (divI i j) Q ↔ (0 < j ∧ j < 1073741824) ∧ Q (i / j) := wp_if_iff
@[simp] theorem modI_wp {i j : Int} {Q : Int → Prop} : wp (modI i j) Q ↔ 0 < j ∧ Q (i % j) := wp_if_iff
@[simp] theorem powI_wp {i j : Int} {Q : Int → Prop} : wp (powI i j) Q ↔ (0 ≤ j ∧ j ≤ 1000000 ∧ i.natAbs < 2 ^ 64) ∧ Q (i ^ j.toNat) := wp_if_iff
end Q

namespace Q
open PySem PySem.Spec PyProof.Rows L2
theorem of_wp {α : Type} {m : Option α} {a : α} (h : wp m fun r => r = a) : m = some a := by obtain ⟨r, e, rfl⟩ := h; exact e
/-- what follows a turn -/
def turnK (next : Ev → Prop) (Q : Out × Ev → Prop) (r : Out × Ev) : Prop := match r.1 with
  | .nx => next r.2
  | .ct => next r.2
  | .brk => Q (.nx, r.2)
  | .ret o => Q (.ret o, r.2)
section
variable {next : Ev → Prop} {Q : Out × Ev → Prop} {ρ : Ev} {o : O}
@[simp] theorem turnK_nx : turnK next Q (.nx, ρ) ↔ next ρ := Iff.rfl
@[simp] theorem turnK_ct : turnK next Q (.ct, ρ) ↔ next ρ := Iff.rfl
@[simp] theorem turnK_brk : turnK next Q (.brk, ρ) ↔ Q (.nx, ρ) := Iff.rfl
@[simp] theorem turnK_ret : turnK next Q (.ret o, ρ) ↔ Q (.ret o, ρ) := Iff.rfl
end
theorem wp_for_list {α : Type} {enc : α → D} {xs : List α} {t : TgF} {body : SF} {Q : Out × Ev → Prop} {ρ : Ev} (I : List α → Ev → Prop) (h0 : I [] ρ)
    (step : ∀ done x rest ρ, xs = done ++ x :: rest → I done ρ → wp (t (enc x) ρ) fun ρ1 => wp (body ρ1) (turnK (I (done ++ [x])) Q))
    (fin : ∀ ρ, I xs ρ → Q (.nx, ρ)) : wp (forGo t body (xs.map enc) ρ) Q := by
  refine wp_forGo (fun ds ρ => ∃ done rest, xs = done ++ rest ∧ ds = rest.map enc ∧ I done ρ) ⟨[], xs, rfl, rfl, h0⟩ (fun d ds ρ ⟨done, rest, e1, e2, h⟩ => ?_) fun ρ ⟨done, rest, e1, e2, h⟩ => ?_
  · cases rest with
    | nil => cases e2
    | cons x rest =>
      simp only [List.map_cons, List.cons.injEq] at e2
      obtain ⟨rfl, rfl⟩ := e2
      refine wp_mono (step done x rest ρ e1 h) fun ρ1 h => wp_mono h fun r h => ?_
      obtain ⟨o, ρ2⟩ := r
      cases o <;> first | exact h | exact ⟨done ++ [x], rest, by simp [e1], rfl, h⟩
  · have : rest = [] := by cases rest <;> first | rfl | cases e2
    subst this
    rw [List.append_nil] at e1; subst e1
    exact fin ρ h
theorem wp_for_range {a : Int} {n : Nat} {t : TgF} {body : SF} {Q : Out × Ev → Prop} {ρ : Ev} (I : Nat → Ev → Prop) (h0 : I 0 ρ)
    (step : ∀ k ρ, k < n → I k ρ → wp (t (.int (a + (k : Nat))) ρ) fun ρ1 => wp (body ρ1) (turnK (I (k + 1)) Q))
    (fin : ∀ ρ, I n ρ → Q (.nx, ρ)) : wp (forGo t body (rngD a n) ρ) Q := by
  unfold rngD
  refine wp_for_list (fun done ρ => I done.length ρ) h0 (fun done x rest ρ e h => ?_) fun ρ h => fin ρ (by simpa using h)
  have hl : done.length < n := by have := congrArg List.length e; simp at this; omega
  have hx : x = done.length := by
    have h1 : (List.range n)[done.length]? = some x := by rw [e]; simp
    rw [List.getElem?_range hl] at h1
    cases h1; rfl
  subst hx
  have := step done.length ρ hl h
  rw [List.length_append, List.length_singleton]
  exact this
section lc
variable {α : Type} {enc : α → D} {tgt : TgF} {gt : BF} {ge : PF} {ρ : Ev}
theorem lcGo_filter {xs : List α} {p : α → Bool} {g : α → D} (h : ∀ x ∈ xs, wp (tgt (enc x) ρ) fun ρ1 => wp (gt ρ1) fun b => b = p x ∧ (p x = true → wp (ge ρ1) fun y => y = g x)) : lcGo tgt gt ge ρ (xs.map enc) = some ((xs.filter p).map g) := by
  induction xs with
  | nil => rfl
  | cons x xs ih =>
    have hx := h x (by simp)
    have ih := ih fun y hy => h y (by simp [hy])
    obtain ⟨ρ1, e1, b, e2, rfl, k⟩ := hx
    simp only [List.map_cons, lcGo, e1, e2, Option.bind_some]
    split
    · rename_i hp
      obtain ⟨y, e3, rfl⟩ := k hp
      rw [e3, ih]
      simp [List.filter_cons, hp]
    · rename_i hp
      rw [ih]
      simp [List.filter_cons, hp]
theorem lcGo_map {xs : List α} {g : α → D} (h : ∀ x ∈ xs, wp (tgt (enc x) ρ) fun ρ1 => wp (gt ρ1) fun b => b = true ∧ wp (ge ρ1) fun y => y = g x) : lcGo tgt gt ge ρ (xs.map enc) = some (xs.map g) := by
  have := lcGo_filter (p := fun _ => true) (g := g) (xs := xs) fun x hx => wp_mono (h x hx) fun ρ1 h => wp_mono h fun b h => ⟨h.1, fun _ => h.2⟩
  rwa [List.filter_eq_self.mpr (fun _ _ => rfl)] at this
/-- the made items are of some kind -/
theorem wp_lcGo {β : Type} {enc2 : β → D} {xs : List α} {P : α → β → Prop} {Q : List D → Prop} (h : ∀ x ∈ xs, wp (tgt (enc x) ρ) fun ρ1 => wp (gt ρ1) fun b => b = true ∧ wp (ge ρ1) fun y => ∃ z, y = enc2 z ∧ P x z)
    (k : ∀ zs : List β, zs.length = xs.length → (∀ (i : Nat) x z, xs[i]? = some x → zs[i]? = some z → P x z) → Q (zs.map enc2)) : wp (lcGo tgt gt ge ρ (xs.map enc)) Q := by
  induction xs generalizing Q with
  | nil => simp only [List.map_nil, lcGo, wp_some]; exact k [] rfl (fun i x z h => by simp at h)
  | cons x xs ih =>
    obtain ⟨ρ1, e1, b, e2, rfl, y, e3, z, rfl, hz⟩ := h x (by simp)
    simp only [List.map_cons, lcGo, e1, e2, e3, Option.bind_some, if_true, wp_map]
    refine ih (fun y hy => h y (by simp [hy])) fun zs hl hp => ?_
    have := k (z :: zs) (by simp [hl]) fun i x' z' h1 h2 => by
      cases i with
      | zero => simp at h1 h2; subst h1 h2; exact hz
      | succ i => exact hp i x' z' (by simpa using h1) (by simpa using h2)
    simpa using this
end lc
/-- a comprehension whose element hands back -/
theorem wp_lcGoE {α : Type} {enc : α → D} {vs : List Nat} {tgt : TgF} {gt : BF} {ge : EF} {xs : List α} {ρ : Ev} {Q : List D × Ev → Prop} (I : List α → List D → Ev → Prop) (h0 : I [] [] ρ)
    (step : ∀ done x rest acc ρ, xs = done ++ x :: rest → I done acc ρ → wp (tgt (enc x) ρ) fun ρ1 => wp (gt ρ1) fun b => if b = true then wp (ge ρ1) fun r => I (done ++ [x]) (acc ++ [r.1.fr]) (wipeE r.2 vs) else I (done ++ [x]) acc (wipeE ρ1 vs))
    (fin : ∀ acc ρ, I xs acc ρ → Q (acc, ρ)) : wp (lcGoE vs tgt gt ge (xs.map enc) ρ) Q := by
  suffices H : ∀ (rest done : List α) (acc : List D) (ρ : Ev), xs = done ++ rest → I done acc ρ → wp (lcGoE vs tgt gt ge (rest.map enc) ρ) fun r => Q (acc ++ r.1, r.2) by
    refine wp_mono (H xs [] [] ρ rfl h0) fun r h => by simpa using h
  intro rest
  induction rest with
  | nil =>
    intro done acc ρ e h
    simp only [List.map_nil, lcGoE, wp_some]
    rw [List.append_nil] at e ⊢
    subst e
    exact fin acc ρ h
  | cons x rest ih =>
    intro done acc ρ e h
    simp only [List.map_cons, lcGoE, wp_bind]
    refine wp_mono (step done x rest acc ρ e h) fun ρ1 h => wp_mono h fun b h => ?_
    cases b with
    | true =>
      simp only [if_true] at h ⊢
      rw [wp_bind]
      refine wp_mono h fun r h => ?_
      rw [wp_map]
      refine wp_mono (ih (done ++ [x]) (acc ++ [r.1.fr]) _ (by simp [e]) h) fun q h => ?_
      simpa using h
    | false =>
      simp only [if_false, Bool.false_eq_true] at h ⊢
      exact ih (done ++ [x]) acc _ (by simp [e]) h
@[simp] theorem wp_lcE {gi : IF} {vs : List Nat} {t : TgF} {gb : BF} {ge : EF} {ρ : Ev} {Q : O × Ev → Prop} : wp (lcE gi vs t gb ge ρ) Q ↔ wp (gi ρ) fun ds => ds.length ≤ sizeLine ∧ wp (lcGoE vs t gb ge ds (wipeE ρ vs)) fun q => Q (.ls q.1, q.2) := by simp [lcE]
end Q

namespace Q
open PySem PySem.Spec PyProof.Rows L2
section gens
variable {X : Cx} {pins : List (Addr × Obj)} {σ : L2.St} {H : Hp} {s : Shared}
/-- a test of one sign that may read the module's constants -/
def EltQ (X : Cx) (scope : Scope) (x : Str) (elt : Expr) (pb : Nat → Bool) : Prop := ∀ (cenv : Env) (A' : Around) (E' : Value → Shared → Prop) (c : Nat) (t : Tok) (s₂ : Shared) (m₂ : Str → Option Value), cenv.scope = scope → cenv.globals = X.env.globals →
  Mod X.K X.mg X.base → X.env.globals = mainGlobals → (∀ b o, X.base.get? b = some o → s₂.heap.get? b = some o) → s₂.heap.Ns cenv.locals m₂ → m₂ x = some (.str ⟨#[c]⟩ t) →
  wpAny (model X.prog X.w) A' (eval elt cenv) (fun y s₃ => y = .bool (pb c) ∧ Keeps s₂ s₃) E' s₂
theorem gen_txt {c P : Addr} {elt iter : Expr} {x : Str} {px gpos : Pos} {scope : Scope} {pb : Nat → Bool} {te : TE} {k : Nat} {Q' : Value → Shared → Prop} {R : Str → Hp → Prop}
    (hr : Room k X.A) (hTab : GxR.TabB X.base X.mg c P) (hCo : X.env.code = .ref c) (S : GxR.GenS X.env scope x) (hi : PE X iter te) (hElt : EltQ X scope x elt pb)
    (hs : ∀ v, genFold iter X.env v = pure v) (I : Inv X pins σ H s) (h : te σ H fun v H1 => ∃ a : Str, v = .str a ∧ GxR.TabG H1 P ∧ R a H1)
    (hQ : ∀ a H1 g s5, R a H1 → GxR.Ready X pins σ H1 P a pb g s5 → Q' (.ref g) s5) :
    wpAny (model X.prog X.w) X.A (eval (.GeneratorExp elt [⟨.Name x px, iter, [], 0⟩] scope gpos) X.env) Q' X.xe s := by
  refine wpAny_GeneratorExp_walksQ hr.hd S.co (closure_ok S.free) S.cell S.dot S.loc S.kind (by have := hr.dp; omega) ?_ hs
  refine thn (hi.run pins s σ H _ I h) fun xv s1 ⟨v, H1, I1, r1, q1⟩ => ?_
  obtain ⟨a, rfl, ⟨ps, hP, ht⟩, q1⟩ := q1
  obtain ⟨t, rfl⟩ := _root_.id r1
  refine wpAny_pyIter_str fun o St W sT => ?_
  have pS : s1.heap.get? P = some { cls := .none, data := .fields ps } := I1.hok P _ hP
  have pLt : P < s1.heap.objs.size := Heap.lt_size pS
  have pp2 : (s1.heap.push o).get? P = some { cls := .none, data := .fields ps } := Heap.get?_push_of_some _ pS
  have cdh : PySem.W.CodeHd (s1.heap.push o) c P := hTab.code.keeps fun b u e => Heap.get?_push_of_some _ (I1.bk b u e)
  have li2 : (s1.heap.push o).NoLimit := I1.nolimit.push o
  have rest1 : ∀ (code : Value) (h3 : Heap) (tk : Nat) (ps' : Array Value), Heap.ExtBut P (s1.heap.push o) h3 → (s1.heap.push o).objs.size ≤ h3.objs.size → h3.get? P = some { cls := .none, data := .fields ps' } → (∃ mo, ps' = ps ++ mo) → TriplesOk ps'.toList →
      wpAny (model X.prog X.w) X.A (builtinsFor X.env.globals X.env.builtins) (fun bi s₄ =>
        ∃ Ia fp wr n₀ Pf St₀ pz F, Value.ref s1.heap.objs.size = .ref Ia ∧ (∀ A' : Around, A'.handled = none → Walks X.prog X.w A' Ia fp wr n₀ Pf St₀) ∧ St₀ 0 s₄.heap ∧ (∀ b ∈ fp, b < s₄.heap.objs.size) ∧ s₄.heap.NoLimit ∧ cStatics ∉ wr ∧
          (∀ hRf : Heap, (∀ b o, s₄.heap.get? b = some o → hRf.get? b = some o) →
            QuietGen X.prog X.w (genEnv scope (cloFrom X.env.cells scope.names []) s₄.heap.objs.size code bi X.env) x [] elt (List.range s₄.heap.objs.size) wr Pf pz F hRf) ∧
          (∀ a h₅ tk gz, gz.bare = true → s₄.heap.objs.size < a → h₅.objs.size = a + 1 → (∀ b o, s₄.heap.get? b = some o → h₅.get? b = some o) →
            WalksS X.prog X.w X.A.in4 a (a :: s₄.heap.objs.size :: List.range s₄.heap.objs.size) (s₄.heap.objs.size :: wr) (GenOnlyQ s₄.gens.size) (passing pz n₀ 0).length
              (fun j y => ∃ i, (passing pz n₀ 0)[j]? = some i ∧ F i y) (GenAt X.prog X.w X.A.in4 a s₄.gens.size s₄.heap.objs.size (List.range s₄.heap.objs.size) wr pz n₀ F) →
            GenAt X.prog X.w X.A.in4 a s₄.gens.size s₄.heap.objs.size (List.range s₄.heap.objs.size) wr pz n₀ F 0 { s₄ with gens := s₄.gens.push gz, toks := tk, heap := h₅ } →
            Q' (.ref a) { s₄ with gens := s₄.gens.push gz, toks := tk, heap := h₅ })) X.xe { s1 with heap := h3, toks := tk } := by
    intro code h3 tk ps' xx hsz pp3 hMo tt3
    obtain ⟨bm, ob, e1, e2, e3, e4, e5, e6, e7, e8⟩ := hTab.bm
    have cP : cStatics ≠ P := fun e => by
      obtain ⟨_, hns, _⟩ := I1.nolimit
      obtain ⟨o', es, ep, ho, hd, _⟩ := hns
      rw [e, pS] at ho
      cases ho
      cases hd
    have cL : cStatics < s1.heap.objs.size := let ⟨_, hns, _⟩ := I1.nolimit; hns.lt
    have zz2 : (s1.heap.push o).objs.size = s1.heap.objs.size + 1 := Heap.size_push ..
    have kp3 : ∀ b u, b ≠ P → s1.heap.get? b = some u → h3.get? b = some u := fun b u hb e => xx b u hb (Heap.get?_push_of_some _ e)
    refine wpAny_builtinsFor (m := X.mg) (by rw [I1.ok.glob]; exact ((I1.mod.glob.keeps I1.bk).push o).extBut xx hTab.gP) e1 e2 (kp3 _ _ e4 (I1.bk _ _ e5)) e6 e7 e8 ?_
    refine ⟨s1.heap.objs.size, [s1.heap.objs.size], [s1.heap.objs.size], a.cps.size, SignAt a, St, (fun _ => true), (fun i y => ∃ cc, a.cps[i]? = some cc ∧ y = .bool (pb cc)), rfl, W, ?_, ?_, li2.extBut xx cP, ?_, ?_, ?_⟩
    · refine (W X.A hr.hd).frame _ _ _ sT fun b hb u e => xx b u (fun z => ?_) e
      rcases List.mem_cons.mp hb with z2 | z2
      · exact Nat.ne_of_lt pLt (z.symm.trans z2)
      · cases z2
    · intro b hb
      rcases List.mem_cons.mp hb with z | z
      · rw [z]
        show s1.heap.objs.size < h3.objs.size
        omega
      · cases z
    · intro z
      rcases List.mem_cons.mp z with z | z
      · exact Nat.ne_of_lt cL z
      · cases z
    · intro hRf hhR
      refine ⟨fun A' E' i v s₂ m₂ hA hPv hn hm hk => ?_, fun A' E' i v s₂ m₂ hA hPv hp hn hm hk => ?_⟩
      · simp only [List.forIn_nil]
        exact wpAny_pure ⟨rfl, GxR.keeps_refl _⟩
      · obtain ⟨cc, u, hcc, rfl⟩ := hPv
        have pb2 : ∀ b o, X.base.get? b = some o → s₂.heap.get? b = some o := fun b o e => by
          have nP : b ≠ P := fun z => by
            have q0 := (I1.bs b o e).2
            rw [z, hP] at q0; cases q0
          have q1 := kp3 b o nP (I1.bk b o e)
          refine hk b (List.mem_range.mpr (Heap.lt_size q1)) (fun z => ?_) o (hhR b o q1)
          obtain rfl : b = s1.heap.objs.size := by simpa using z
          exact Nat.lt_irrefl _ (Heap.lt_size (I1.bk _ o e))
        exact wpAny_mono (hElt _ A' E' cc u s₂ m₂ rfl rfl I1.mod I1.ok.glob pb2 hn hm) (fun y s3 r => ⟨⟨cc, hcc, r.1⟩, r.2⟩) fun _ _ e => e
    · intro g h5 tk5 gz gB aG z5 kk5 W5 aT
      simp only [GxR.passing_true, List.length_range] at W5
      refine hQ a H1 g _ q1 ⟨_, _, _, _, _, W5.in4_1, aT, ?_, fun s' hm => ?_⟩
      · intro j y sj Qj Ej hy hQj
        obtain ⟨i, hij, cc, hcc, rfl⟩ := hy
        obtain ⟨hj, ej⟩ := List.getElem?_eq_some_iff.mp hij
        rw [List.getElem_range] at ej
        subst ej
        have e9 : a.cps.toList[j]? = some cc := by rw [Array.getElem?_toList]; exact hcc
        have hQ2 : Qj (GxR.trF pb a.cps.toList j) sj := hQj
        rw [GxR.trF_some e9] at hQ2
        exact wpAny_truthy_bool hQ2
      · obtain ⟨mo, em⟩ := hMo
        have nW : ∀ b u, s1.heap.get? b = some u → b ∉ h3.objs.size :: [s1.heap.objs.size] := fun b u e hb => by
          have hl := Heap.lt_size e
          rcases List.mem_cons.mp hb with z | z
          · rw [z] at hl
            have h9 : (h3.objs.size : Nat) < s1.heap.objs.size := hl
            omega
          · rcases List.mem_cons.mp z with z | z
            · rw [z] at hl
              exact Nat.lt_irrefl _ hl
            · cases z
        have J := GxR.inv_tab (more := mo) (h' := s'.heap) (g' := s'.gens) (d' := s'.drawn) (t' := s'.toks) I1 hP (fun b u hb e => hm.heap b u (nW b u e) (kk5 b u (kp3 b u hb e)))
          (by rw [← em]; exact hm.heap P _ (nW P _ pS) (kk5 P _ pp3)) (AllBare.movedS (I1.bare.push gB) hm)
        rw [GxR.sh_eta s1 s' hm.os] at J
        refine ⟨upd H1 P (.tbl (ps ++ mo)), ⟨⟨ps ++ mo, upd_same, by rw [← em]; exact tt3⟩, fun b hb => upd_ne hb⟩, J⟩
  refine ⟨li2, ?_⟩
  cases hf : codeAmong gpos ps.toList with
  | none =>
    refine wpAny_genexprCodeX hCo (cdh.code pp2 ht) (cdh.tab pp2) hf fun c' h' tk xx hge hlt hco' _ htab' _ => ?_
    obtain ⟨o1, vs, f1, tf, fl, tg, inF, tx, tt, op, _, _, _, _, _, _, _, _, _, htr, _⟩ := hco'
    exact rest1 _ h' tk _ xx (Nat.le_trans hge (Nat.le_of_lt hlt)) htab'.2 ⟨_, rfl⟩ htr
  | some cv =>
    refine wpAny_genexprCode_hit hCo (cdh.code pp2 ht) hf ?_
    exact rest1 cv (s1.heap.push o) s1.toks ps (Heap.ExtBut.refl _ _) (Nat.le_refl _) pp2 ⟨#[], by simp⟩ ht




/-! ### tests of one sign -/
theorem elt_inC {scope : Scope} {x k : Str} {j : Nat} {p1 p2 p3 : Pos} (hk : scope.kind = .function) (hl : scope.names.lookup x = some .local) (hd : (x == ("__debug__" : Str)) = false := by decide)
    (hm : behindInMarks .In (.Constant (.str k) j p2) = false := by with_unfolding_all rfl) : EltQ X scope x (.Compare (.Name x p1) [.In] [.Constant (.str k) j p2] p3) (fun c => decide (c ∈ k.cps.toList)) := by
  intro cenv A' E' c t s₂ m₂ es _ _ _ _ hn hx
  refine wpAny_Compare1 ?_ hm
  refine wpAny_Name (wpAny_loadName_local (by rw [es]; exact hk) (show cenv.scope.names.lookup x = some .local by rw [es]; exact hl) hn hx ?_) hd
  refine Calls.Constant_str ?_
  refine PySem.P.in_str ⟨?_, GxR.keeps_tok _ _⟩
  rw [StrLaws.found_one]
theorem elt_inG {scope : Scope} {x y k : Str} {p1 p2 p3 : Pos} (hk : scope.kind = .function) (hl : scope.names.lookup x = some .local) (hl2 : scope.names.lookup y = some .globalImplicit) (hg : ∃ t, X.mg y = some (.str k t)) (hd : (x == ("__debug__" : Str)) = false := by decide) (hd2 : (y == ("__debug__" : Str)) = false := by decide)
    (hm : behindInMarks .In (.Name y p2) = false := by with_unfolding_all rfl) : EltQ X scope x (.Compare (.Name x p1) [.In] [.Name y p2] p3) (fun c => decide (c ∈ k.cps.toList)) := by
  intro cenv A' E' c t s₂ m₂ es eg md hgl hb hn hx
  obtain ⟨tk, hg⟩ := hg
  refine wpAny_Compare1 ?_ hm
  refine wpAny_Name (wpAny_loadName_local (by rw [es]; exact hk) (show cenv.scope.names.lookup x = some .local by rw [es]; exact hl) hn hx ?_) hd
  refine Calls.Name_function_global (by rw [es]; exact hk) (show cenv.scope.names.lookup y = some .globalImplicit by rw [es]; exact hl2) (Calls.loadGlobal_global (by rw [eg, hgl]; exact md.glob.keeps hb) hg ?_) hd2
  refine PySem.P.in_str ⟨?_, GxR.keeps_refl _⟩
  rw [StrLaws.found_one]
theorem elt_or {scope : Scope} {x : Str} {a b : Expr} {pos : Pos} {pa pb : Nat → Bool} (ha : EltQ X scope x a pa) (hb : EltQ X scope x b pb) : EltQ X scope x (.BoolOp .Or [a, b] pos) (fun c => pa c || pb c) := by
  intro cenv A' E' c t s₂ m₂ es eg md hgl hbs hn hx
  refine wpAny_Or2 (wpAny_mono (ha cenv A' E' c t s₂ m₂ es eg md hgl hbs hn hx) (fun v s3 ⟨ev, kp⟩ => ?_) fun _ _ e => e)
  subst ev
  refine wpAny_truthy_bool ?_
  cases q : pa c with
  | true => exact ⟨by simp [q], kp⟩
  | false =>
    obtain ⟨h', tk, rfl, kk⟩ := kp
    refine wpAny_mono (hb cenv A' E' c t _ m₂ es eg md hgl (fun b o e => kk b o (hbs b o e)) (hn.keeps kk) hx) (fun v s4 ⟨ev, kp2⟩ => ⟨by simpa [q] using ev, ?_⟩) fun _ _ e => e
    obtain ⟨h2, tk2, rfl, kk2⟩ := kp2
    exact ⟨h2, tk2, rfl, fun b o e => kk2 b o (kk b o e)⟩

/-- all(test for x in e) -/
def allT (pb : Nat → Bool) (g : PF) : PF := fun ρ => (g ρ).bind fun
  | .str a => some (.bl (a.cps.toList.all pb))
  | _ => none
theorem pe_allT {c P : Addr} {elt iter : Expr} {x : Str} {px p pos gpos : Pos} {scope : Scope} {pb : Nat → Bool} {te : TE} {k : Nat}
    (hr : Room k X.A) (hg : Gl X "all") (hm : X.mg "all" = none) (hT : GxR.TabB X.base X.mg c P) (hc : X.env.code = .ref c) (S : GxR.GenS X.env scope x) (hi : PE X iter te) (he : EltQ X scope x elt pb) (hs : ∀ v, genFold iter X.env v = pure v)
    (hst : starEach [.GeneratorExp elt [⟨.Name x px, iter, [], 0⟩] scope gpos] X.env = (false, eval (.GeneratorExp elt [⟨.Name x px, iter, [], 0⟩] scope gpos) X.env) :: starEach [] X.env := by rfl) :
    PE X (.Call (.Name "all" p) [.GeneratorExp elt [⟨.Name x px, iter, [], 0⟩] scope gpos] [] pos) (GxR.tAllS P pb te) := by
  refine ⟨fun pins s σ H Q I h => wpAny_Call_Name_kw (ld_blt I hg hm bt_all (PyProof.Rows.callWith_builtin1 ?_ hst (by rfl)))⟩
  rw [hst]
  show wpAny _ _ (spliced ((false, eval (.GeneratorExp elt [⟨.Name x px, iter, [], 0⟩] scope gpos) X.env) :: backTo pos (starEach [] X.env))) _ _ s
  refine Calls.spliced_cons (gen_txt (R := fun a H1 => ∀ H2, GxR.Tabbed P H1 H2 → Q (.bl (a.cps.toList.all pb)) H2) hr hT hc S hi he hs I h fun a H1 g s5 hR hG => Calls.spliced_nil ?_)
  obtain ⟨fp, wr, G, F, St, W, q1, q2, q3⟩ := hG
  refine call_all_walkS (W.self 0 _ _ _ q1 ⟨g, fp, wr, G, _, F, St, _, rfl, W, q1, q2, fun s' hmv => ?_⟩)
  obtain ⟨H2, q4, q5⟩ := q3 s' hmv
  exact ⟨.bl _, H2, q5, rfl, by rw [GxR.all_signs a pb]; exact hR H2 q4⟩
theorem qd_allT {c P : Addr} {elt iter : Expr} {x : Str} {px p pos gpos : Pos} {scope : Scope} {pb : Nat → Bool} {g : PF} {k : Nat} {f : He.Defn} (hf : f ∈ tabDefs) (hcP : He.cT X.K f = (c, P))
    (hr : Room k X.A) (hg : Gl X "all") (hm : X.mg "all" = none) (hT : GxR.TabB X.base X.mg c P) (hc : X.env.code = .ref c) (S : GxR.GenS X.env scope x) (hi : QW X iter g) (he : EltQ X scope x elt pb) (hs : ∀ v, genFold iter X.env v = pure v := by intro _; rfl)
    (hst : starEach [.GeneratorExp elt [⟨.Name x px, iter, [], 0⟩] scope gpos] X.env = (false, eval (.GeneratorExp elt [⟨.Name x px, iter, [], 0⟩] scope gpos) X.env) :: starEach [] X.env := by rfl) :
    QD X (.Call (.Name "all" p) [.GeneratorExp elt [⟨.Name x px, iter, [], 0⟩] scope gpos] [] pos) (allT pb g) :=
  pe_imp (pe_allT hr hg hm hT hc S hi he hs hst) fun σ H Q ⟨ρ, B, As, d, R, e, kk⟩ => by
    obtain ⟨y, e1, e2⟩ := Option.bind_eq_some_iff.mp e
    refine ⟨ρ, B, As, y, R, e1, fun v B1 H1 g1 w => ?_⟩
    have R1 := R.grow g1
    cases y <;> simp only [reduceCtorEq] at e2
    cases e2
    have t1 : GxR.TabG H1 P := by
      have := R1.tb f hf
      rw [show (gx X).K = X.K from rfl, hcP] at this; exact this
    cases rw_str w
    refine ⟨_, rfl, t1, fun H2 ⟨t2, same⟩ => kk _ B1 H2 (g1.trans ?_) rfl⟩
    obtain ⟨ps, e3, _⟩ := t1
    obtain ⟨qs, e4, tq⟩ := t2
    have sm : Same H1 H2 := fun b o q => by
      by_cases z : b = P
      · subst z
        rw [e3] at q; cases q
        exact ⟨qs, e4, fun _ => tq⟩
      · exact kept_of (by rw [same b z]; exact q)
    exact ⟨sm, .refl _, R1.sub.trans sm, fun _ _ => rfl⟩
end gens
end Q

namespace Q
open PySem PySem.Spec PyProof.Rows L2
section cls
variable {X : Cx} {o e : Expr} {es : List Expr} {g : PF} {gs : List PF} {pos apos p : Pos}
/-! ### constants of the module -/
theorem qd_gint {x : Str} {i : Int} (hg : Gl X x) (h : ∃ t, X.mg x = some (.int i t)) (hd : (x == ("__debug__" : Str)) = false := by decide) : QD X (.Name x pos) (cst (.int i)) := by
  obtain ⟨t, h⟩ := h
  exact pe_imp (pe_glob (v := .int i) hg h ⟨t, rfl⟩ hd) fun σ H Q ⟨ρ, B, As, d, R, e, k⟩ => by cases e; exact k _ B H (.refl R.sub) rfl
theorem qd_gstr {x : Str} {i : Str} (hg : Gl X x) (h : ∃ t, X.mg x = some (.str i t)) (hd : (x == ("__debug__" : Str)) = false := by decide) : QD X (.Name x pos) (cst (.str i)) := by
  obtain ⟨t, h⟩ := h
  exact pe_imp (pe_glob (v := .str i) hg h ⟨t, rfl⟩ hd) fun σ H Q ⟨ρ, B, As, d, R, e, k⟩ => by cases e; exact k _ B H (.refl R.sub) rfl
theorem qd_gtup {x : Str} {ns : List Str} (hg : Gl X x) (h : ∃ a, X.mg x = some (.ref a) ∧ ∀ H, SqT X.K H a (ns.map V.str)) (hd : (x == ("__debug__" : Str)) = false := by decide) : QD X (.Name x pos) (cst (.tup (ns.map D.str))) := by
  obtain ⟨a, h, hs⟩ := h
  exact pe_imp (pe_glob (v := .ref a) hg h rfl hd) fun σ H Q ⟨ρ, B, As, d, R, e, k⟩ => by
    cases e; exact k _ B H (.refl R.sub) ⟨a, ns.map V.str, rfl, hs B, RepDs.strs⟩
/-! ### attributes -/
structure AtF (K : PySem.W.Frag) (mg : Str → Option Value) (c f : Str) : Prop where
  ex : ∃ C, mg c = some (.ref C) ∧ Cls K C ∧ NoAttr K C f
def atD (cs : List Str) (f : Str) : D → Option D
  | .obj c fs => if c ∈ cs then fs.lookup f else none
  | _ => none
def atF (cs : List Str) (f : Str) (g : PF) : PF := fun ρ => (g ρ).bind (atD cs f)
theorem RepFs.look {G : Gx} {B : Hp} {f : Str} : ∀ {fs : List (Str × D)} {vs : List (Str × V)} {d : D}, RepFs G B fs vs → fs.lookup f = some d → ∃ v, vs.lookup f = some v ∧ RepD G B d v
  | [], vs, d, h, e => by simp at e
  | (k, x) :: fs, vs, d, h, e => by
    simp only [RepFs] at h
    obtain ⟨v, r, rfl, h1, h2⟩ := h
    simp only [List.lookup_cons] at e ⊢
    cases q : f == k with
    | true => rw [q] at e; cases e; exact ⟨v, rfl, h1⟩
    | false => rw [q] at e; exact RepFs.look h2 e
theorem qd_attr {cs : List Str} {f : Str} (hc : ∀ c ∈ cs, AtF X.K X.mg c f) (h : QW X e g) (hb : attributeBase e f X.env (eval e X.env) = eval e X.env := by rfl) : QD X (.Attribute e f pos) (atF cs f g) :=
  pe_imp (pe_fld h hb) fun σ H Q ⟨ρ, B, As, d, R, e1, k⟩ => by
    obtain ⟨y, e2, e3⟩ := Option.bind_eq_some_iff.mp e1
    refine ⟨ρ, B, As, y, R, e2, fun v B1 H1 g1 w => ?_⟩
    cases y <;> simp only [atD, reduceCtorEq] at e3
    rename_i c fs
    split at e3
    case isFalse => cases e3
    rename_i hm
    obtain ⟨a, C, dx, vs, rfl, hC, ha, hf⟩ := w
    obtain ⟨C', m1, m2, m3⟩ := (hc c hm).ex
    have : C' = C := by rw [show (gx X).mg = X.mg from rfl, m1] at hC; cases hC; rfl
    subst this
    obtain ⟨u, l, ru⟩ := hf.look e3
    exact ⟨a, C', dx, vs, u, rfl, ha, m2, m3, l, k u B1 H1 g1 ru⟩
/-! ### methods, properties, making -/
structure QMe (P : Program) (w : World) (K : PySem.W.Frag) (mg : Str → Option Value) (base : Heap) (c m : Str) (k n : Nat) (f : FS) : Prop where
  ex : ∃ C fa fd ps, mg c = some (.ref C) ∧ Cls K C ∧ Meth K C m fa ∧ Binds K fd ps [] ∧ FnOk P w K mg base CX0 k fa fd ps (spF ⟨K, mg⟩ n f)
structure QPr (P : Program) (w : World) (K : PySem.W.Frag) (mg : Str → Option Value) (base : Heap) (c m : Str) (k : Nat) (f : FS) : Prop where
  ex : ∃ C p fa fd ps, mg c = some (.ref C) ∧ Cls K C ∧ PropOf K C m p fa ∧ Binds K fd ps [] ∧ FnOk P w K mg base CX0 k fa fd ps (spF ⟨K, mg⟩ 1 f)
structure QMk (P : Program) (w : World) (K : PySem.W.Frag) (mg : Str → Option Value) (base : Heap) (c : Str) (k n : Nat) (f : FS) : Prop where
  ex : ∃ C fa fd ps, mg c = some (.ref C) ∧ Mk K C fa ∧ Binds K fd ps [] ∧ FnOk P w K mg base CX0 k fa fd ps (spF ⟨K, mg⟩ n f)
def recvD (c m : Str) : D → Option Unit
  | .obj c' fs => if c' = c ∧ fs.lookup m = none then some () else none
  | _ => none
def callM (c m : Str) (f : FS) (g : PF) (gs : List PF) : NF := fun ρ => (g ρ).bind fun d => (recvD c m d).bind fun _ => (evs gs ρ).bind fun ds => (f ((d :: ds).map .fz)).map (·.1)
theorem RepFs.none {G : Gx} {B : Hp} {f : Str} : ∀ {fs : List (Str × D)} {vs : List (Str × V)}, RepFs G B fs vs → fs.lookup f = none → vs.lookup f = none
  | [], vs, h, e => by simp only [RepFs] at h; subst h; rfl
  | (k, x) :: fs, vs, h, e => by
    simp only [RepFs] at h
    obtain ⟨v, r, rfl, h1, h2⟩ := h
    simp only [List.lookup_cons] at e ⊢
    cases q : f == k with
    | true => rw [q] at e; cases e
    | false => rw [q] at e; exact RepFs.none h2 e
theorem recv_ok {G : Gx} {B : Hp} {c m : Str} {d : D} {v : V} {C : Addr} {u : Unit} (h : recvD c m d = some u) (hC : G.mg c = some (.ref C)) (r : RepD G B d v) : ∃ a dx vs, v = .ref a ∧ B a = some (.ins C dx vs) ∧ vs.lookup m = none := by
  cases d <;> simp only [recvD, reduceCtorEq] at h
  split at h
  case isFalse => cases h
  rename_i q
  obtain ⟨rfl, q⟩ := q
  simp only [RepD] at r
  obtain ⟨a, C', dx, vs, rfl, h1, h2, h3⟩ := r
  rw [hC] at h1; cases h1
  exact ⟨a, dx, vs, rfl, h2, h3.none q⟩
theorem qn_meth {c m : Str} {k n : Nat} {f : FS} {pl : Sem Bool} (F : QMe X.prog X.w X.K X.mg X.base c m k n f) (hr : Room k X.A) (hn : gs.length + 1 = n) (ho : QD X o g) (ha : QDs X (e :: es) gs)
    (hst : starEach (e :: es) X.env = (false, eval e X.env) :: starEach es X.env := by rfl) (hpl : (backTo pos (starEach es X.env)).any (·.1) = false := by rfl)
    (ht : eval (.Call (.Attribute o m apos) (e :: es) [] pos) X.env = (do
      let ov ← eval o X.env
      standAt apos.atName
      let (f, first) ← holding [ov] (getMethod ov m pl)
      callWith pos f first (backTo pos (starEach (e :: es) X.env)) (backToKw pos (keywordEach [] X.env))) := by rfl) : QN X (.Call (.Attribute o m apos) (e :: es) [] pos) (callM c m f g gs) := by
  obtain ⟨C, fa, fd, ps, hC, hc, hm, hb, F⟩ := F.ex
  refine pe_imp (pe_meth (pl := pl) (dvs := []) ho hc hm F hr hb .nil pass0 ha hst hpl ht) fun σ H Q ⟨ρ, B, As, r, R, e, k⟩ => ?_
  obtain ⟨d, e1, e⟩ := Option.bind_eq_some_iff.mp e
  obtain ⟨u, e2, e⟩ := Option.bind_eq_some_iff.mp e
  obtain ⟨ds, e3, e4⟩ := Option.bind_eq_some_iff.mp e
  refine ⟨ρ, B, As, d, R, e1, fun v B1 H1 g1 w1 => ?_⟩
  obtain ⟨a, dx, vs, rfl, ha, hl⟩ := recv_ok (G := gx X) e2 hC w1
  refine ⟨a, dx, vs, rfl, g1.sub _ _ ha, hl, ρ, B1, As, ds, R.grow g1, e3, fun us B2 H2 g2 w2 => ?_⟩
  show spF _ n f (_ :: (us ++ [])) H2 Q E0
  rw [List.append_nil]
  exact spF_pure (ds := d :: ds) g2.sub ((R.grow g1).tb.same g2.hh) (by rw [List.length_cons, evs_len e3]; exact hn) ⟨_, _, rfl, w1.mono g2.bb, w2⟩ e4 fun v B3 H3 own fr => k v B3 H3 own (fr.behind (g1.trans g2))
theorem qn_meth0 {c m : Str} {k : Nat} {f : FS} {pl : Sem Bool} (F : QMe X.prog X.w X.K X.mg X.base c m k 1 f) (hr : Room k X.A) (ho : QD X o g)
    (ht : eval (.Call (.Attribute o m apos) [] [] pos) X.env = (do
      let ov ← eval o X.env
      standAt apos.atName
      let (f, first) ← holding [ov] (getMethod ov m pl)
      callWith pos f first (backTo pos (starEach [] X.env)) (backToKw pos (keywordEach [] X.env))) := by rfl) : QN X (.Call (.Attribute o m apos) [] [] pos) (callM c m f g []) := by
  obtain ⟨C, fa, fd, ps, hC, hc, hm, hb, F⟩ := F.ex
  refine pe_imp (pe_meth0 (pl := pl) (dvs := []) ho hc hm F hr hb .nil pass0 ht) fun σ H Q ⟨ρ, B, As, r, R, e, k⟩ => ?_
  obtain ⟨d, e1, e⟩ := Option.bind_eq_some_iff.mp e
  obtain ⟨u, e2, e⟩ := Option.bind_eq_some_iff.mp e
  obtain ⟨ds, e3, e4⟩ := Option.bind_eq_some_iff.mp e
  simp only [evs, Option.some.injEq] at e3
  subst e3
  refine ⟨ρ, B, As, d, R, e1, fun v B1 H1 g1 w1 => ?_⟩
  obtain ⟨a, dx, vs, rfl, ha, hl⟩ := recv_ok (G := gx X) e2 hC w1
  refine ⟨a, dx, vs, rfl, g1.sub _ _ ha, hl, ?_⟩
  exact spF_pure (E := E0) (ds := [d]) g1.sub (R.tb.same g1.hh) rfl ⟨_, _, rfl, w1, rfl⟩ e4 fun v B3 H3 own fr => k v B3 H3 own (fr.behind g1)
/-- a property read -/
def callP (c : Str) (f : FS) (g : PF) : NF := fun ρ => (g ρ).bind fun d => match d with
  | .obj c' _ => if c' = c then (f [.fz d]).map (·.1) else none
  | _ => none
theorem qn_prop {c m : Str} {k : Nat} {f : FS} (F : QPr X.prog X.w X.K X.mg X.base c m k f) (hr : Room (k + 1) X.A) (ho : QD X o g) (hb : attributeBase o m X.env (eval o X.env) = eval o X.env := by rfl) : QN X (.Attribute o m pos) (callP c f g) := by
  obtain ⟨C, p, fa, fd, ps, hC, hc, hm, hbi, F⟩ := F.ex
  refine pe_imp (pe_prop (dvs := []) ho hc hm F hr hbi .nil pass0 hb) fun σ H Q ⟨ρ, B, As, r, R, e, k⟩ => ?_
  obtain ⟨d, e1, e5⟩ := Option.bind_eq_some_iff.mp e
  cases d <;> simp only [reduceCtorEq] at e5
  rename_i c' fs
  split at e5
  case isFalse => cases e5
  rename_i hcc
  subst hcc
  refine ⟨ρ, B, As, .obj c' fs, R, e1, fun v B1 H1 g1 w1 => ?_⟩
  have w0 := w1
  simp only [RepD] at w1
  obtain ⟨a, C', dx, vs, rfl, h1, h2, h3⟩ := w1
  rw [hC] at h1; cases h1
  refine ⟨a, dx, vs, rfl, g1.sub _ _ h2, ?_⟩
  exact spF_pure (E := E0) (ds := [.obj c' fs]) g1.sub (R.tb.same g1.hh) rfl ⟨_, _, rfl, w0, rfl⟩ e5 fun v B3 H3 own fr => k v B3 H3 own (fr.behind g1)
/-- an object made -/
def made : O × List O → Option O
  | (.fz .non, o :: _) => some o
  | _ => none
def makeN (c : Str) (f : FS) (gs : List PF) : NF := fun ρ => (evs gs ρ).bind fun ds => (f (.ob c [] :: ds.map .fz)).bind made
theorem spF_make {G : Gx} {n : Nat} {f : FS} {B H : Hp} {ds : List D} {vs : List V} {o : O} {Q : VK} {E : XK} {c : Str} {C x dx : Addr} (hC : G.mg c = some (.ref C)) (sub : Same B H) (tb : Tabs G H) (hl : ds.length + 1 = n) (r : RepDs G B ds vs) (e : (f (.ob c [] :: ds.map .fz)).bind made = some o)
    (hx : H x = none) (hdx : H dx = none) (hne : dx ≠ x) (k : ∀ v B' H' own, Fresh G B H B' H' o v own → Q v H') : spF G n f (.ref x :: vs) (upd (upd H dx (.own x)) x (.ins C dx [])) (fun v H2 => v = .non ∧ Q (.ref x) H2) E := by
  obtain ⟨⟨o', os'⟩, e1, e2⟩ := Option.bind_eq_some_iff.mp e
  have s1 : Same H (upd (upd H dx (.own x)) x (.ins C dx [])) := .of fun b u q => by rw [upd_ne (ne_of_none q hx), upd_ne (ne_of_none q hdx)]; exact q
  refine ⟨B, O.ob c [] :: ds.map .fz, [x], o', os', sub.trans s1, tb.same s1, by simpa using hl, ⟨.ref x, vs, [x], [], rfl, rfl, ⟨x, C, dx, [], [], rfl, rfl, hC, upd_same, rfl, rfl⟩, r.os⟩, by simp, fun a h => ?_, e1, fun v B' H' o1 o2 st ro ros nd ap => ?_⟩
  · obtain rfl : a = x := by simpa using h
    exact ⟨sub.free hx, by rw [upd_same]; simp⟩
  · unfold made at e2
    split at e2
    case h_2 => cases e2
    cases e2
    rename_i heq
    cases heq
    simp only [RepO, RepD] at ro
    simp only [RepOs] at ros
    obtain ⟨v2, r2, p1, p2, q1, rfl, q2, q3⟩ := ros
    cases q1
    refine ⟨ro.2, k _ B' H' p1 ⟨⟨fun a u q => ?_, st.bb, st.sub, fun a q => ?_⟩, q2, ?_, fun a h => ?_⟩⟩
    · have nx : a ∉ [x] := fun z => by
        obtain rfl : a = x := by simpa using z
        rw [hx] at q; cases q
      exact kept_tr (s1 a u q) fun w e => (st.keep a w e nx).1
    · obtain ⟨u, q⟩ := Option.ne_none_iff_exists'.mp q
      have nx : a ∉ [x] := fun z => by
        obtain rfl : a = x := by simpa using z
        rw [hx] at q; cases q
      have n1 : a ≠ x := fun z => nx (by simp [z])
      refine (st.keep a u ?_ nx).2
      rw [upd_ne n1, upd_ne (ne_of_none q hdx)]; exact q
    · exact (List.nodup_append.mp (List.nodup_append.mp nd).2.1).1
    · have hm : a ∈ o1 ++ (p1 ++ p2) := List.mem_append_right _ (List.mem_append_left _ h)
      refine ⟨?_, ap a hm⟩
      rcases st.own a hm with z | z
      · obtain rfl : a = x := by simpa using z
        exact hx
      · exact s1.free z
theorem qn_make {c : Str} {k n : Nat} {f : FS} (F : QMk X.prog X.w X.K X.mg X.base c k n f) (hr : Room (k + 1) X.A) (hg : Gl X c) (hn : gs.length + 1 = n) (ha : QDs X (e :: es) gs) (hdb : (c == ("__debug__" : Str)) = false := by decide)
    (he : starEach (e :: es) X.env = (false, eval e X.env) :: starEach es X.env := by rfl) (hpl : (backTo pos (starEach es X.env)).any (·.1) = false := by rfl) : QN X (.Call (.Name c p) (e :: es) [] pos) (makeN c f gs) := by
  obtain ⟨C, fa, fd, ps, hC, hm, hb, F⟩ := F.ex
  refine pe_imp (pe_make (dvs := []) hm F hr hg hC hb .nil pass0 ha hdb he hpl) fun σ H Q ⟨ρ, B, As, r, R, e, k⟩ => ?_
  obtain ⟨ds, e3, e4⟩ := Option.bind_eq_some_iff.mp e
  refine ⟨ρ, B, As, ds, R, e3, fun us B1 H1 g1 w1 x dx hx hdx hne => ?_⟩
  rw [List.append_nil]
  exact spF_make (G := gx X) hC g1.sub (R.tb.same g1.hh) (by rw [evs_len e3]; exact hn) w1 e4 hx hdx hne fun v B3 H3 own fr => k v B3 H3 own (fr.behind g1)
theorem qn_make0 {c : Str} {k : Nat} {f : FS} (F : QMk X.prog X.w X.K X.mg X.base c k 1 f) (hr : Room (k + 1) X.A) (hg : Gl X c) (hdb : (c == ("__debug__" : Str)) = false := by decide) : QN X (.Call (.Name c p) [] [] pos) (makeN c f []) := by
  obtain ⟨C, fa, fd, ps, hC, hm, hb, F⟩ := F.ex
  refine pe_imp (pe_make0 (dvs := []) hm F hr hg hC hb .nil pass0 hdb) fun σ H Q ⟨ρ, B, As, r, R, e, k⟩ => ?_
  obtain ⟨ds, e3, e4⟩ := Option.bind_eq_some_iff.mp e
  simp only [evs, Option.some.injEq] at e3
  subst e3
  intro x dx hx hdx hne
  exact spF_make (G := gx X) (ds := []) hC R.sub R.tb rfl rfl e4 hx hdx hne fun v B3 H3 own fr => k v B3 H3 own fr
end cls
end Q

namespace Q
open PySem PySem.Spec PyProof.Rows L2
/-! ### an attribute stored -/
def putO (f : Str) (o : O) : List (Str × O) → List (Str × O)
  | [] => [(f, o)]
  | (g, x) :: r => if g = f then (g, o) :: r else (g, x) :: putO f o r
theorem RepOFs.put {G : Gx} {B H : Hp} {f : Str} {o : O} {v : V} {own : List Addr} (ho : RepO G B H o v own) : ∀ {fs : List (Str × O)} {vs : List (Str × V)} {ow : List Addr}, RepOFs G B H fs vs ow →
    ∃ ow', RepOFs G B H (putO f o fs) (putF f v vs) ow' ∧ (∀ b ∈ ow', b ∈ ow ∨ b ∈ own) ∧ ((own ++ ow).Nodup → ow'.Nodup)
  | [], vs, ow, h => by
    simp only [RepOFs] at h
    obtain ⟨rfl, rfl⟩ := h
    exact ⟨own, ⟨v, [], own, [], rfl, by simp, ho, rfl, rfl⟩, fun b h => .inr h, fun h => by simpa using h⟩
  | (g, x) :: fs, vs, ow, h => by
    simp only [RepOFs] at h
    obtain ⟨u, r, o1, o2, rfl, rfl, h1, h2⟩ := h
    by_cases q : g = f
    · refine ⟨own ++ o2, ?_, fun b hb => ?_, fun hn => ?_⟩
      · simp only [putO, putF, if_pos q]
        exact ⟨v, r, own, o2, rfl, rfl, ho, h2⟩
      · rcases List.mem_append.mp hb with z | z
        · exact .inr z
        · exact .inl (List.mem_append_right _ z)
      · exact hn.sublist (List.Sublist.append_left (List.sublist_append_right _ _) _)
    · obtain ⟨ow', k1, k2, k3⟩ := RepOFs.put ho h2
      refine ⟨o1 ++ ow', ?_, fun b hb => ?_, fun hn => ?_⟩
      · simp only [putO, putF, if_neg q]
        exact ⟨u, _, o1, ow', rfl, rfl, h1, k1⟩
      · rcases List.mem_append.mp hb with z | z
        · exact .inl (List.mem_append_left _ z)
        · exact (k2 b z).imp (List.mem_append_right _) id
      · have n1 := (List.nodup_append.mp hn).2.1
        refine List.nodup_append.mpr ⟨(List.nodup_append.mp n1).1, k3 (hn.sublist (List.Sublist.append_left (List.sublist_append_right _ _) _)), fun a ha b hb z => ?_⟩
        subst z
        rcases k2 a hb with w | w
        · exact (List.nodup_append.mp n1).2.2 a ha a w rfl
        · exact (List.nodup_append.mp hn).2.2 a w a (List.mem_append_left _ ha) rfl
/-- what stands at slot i becomes o2, at the same place; some of what it owns is let go, some of E is taken in -/
theorem Rel.change2 {G : Gx} {B H H' : Hp} {σ : L2.St} {ρ : Ev} {As E : List Addr} {i : Nat} {o o2 : O} (R : Rel G B H σ ρ As) (q : ρ[i]? = some (some o)) (nE : (E ++ As).Nodup) (aE : ∀ a ∈ E, B a = none ∧ Dat H a)
    (f : ∀ v own, σ[i]? = some (some v) → RepO G B H o v own → (∀ a ∈ own, a ∈ As) → (E ++ own).Nodup → ∃ own', RepO G B H' o2 v own' ∧ own'.Nodup ∧ (∀ b ∈ own', b ∈ own ∨ b ∈ E) ∧ (∀ b, b ∉ own → H' b = H b) ∧ (∀ b ∈ own, H' b ≠ none)) :
    ∃ As2, Rel G B H' σ (ρ.set i (some o2)) As2 ∧ Step B H (E ++ As) B H' As2 := by
  obtain ⟨v, own, As1, h1, h2, h3, h4⟩ := R.env.out q
  have nd : (own ++ As1).Nodup := h4.symm.nodup R.nd
  have own_in : ∀ a ∈ own, a ∈ As := fun a h => h4.mem_iff.mp (List.mem_append_left _ h)
  have as_in : ∀ a ∈ As1, a ∈ As := fun a h => h4.mem_iff.mp (List.mem_append_right _ h)
  have dE : ∀ a ∈ E, a ∉ As := fun a h z => (List.nodup_append.mp nE).2.2 a h a z rfl
  have nEo : (E ++ own).Nodup := List.nodup_append.mpr ⟨(List.nodup_append.mp nE).1, (List.nodup_append.mp nd).1, fun a ha b hb z => dE a ha (own_in a (z ▸ hb))⟩
  obtain ⟨own', f0, f4, f5, f2, f3⟩ := f v own h1 h2 own_in nEo
  have dj : ∀ a ∈ As1, a ∉ own := fun a h z => (List.nodup_append.mp nd).2.2 a z a h rfl
  have k3 : RepEnv G B H' (ρ.set i none) σ As1 := h3.frame (.refl _) fun a h => f2 a (dj a h)
  obtain ⟨As2, k4, k5⟩ := k3.put (i := i) (o := o2) (by rw [List.getElem?_set_self (List.getElem?_eq_some_iff.mp q).1]) h1 f0
  rw [List.set_set] at k4
  have ne : ∀ a, H a ≠ none → H' a ≠ none := fun a h => by
    by_cases z : a ∈ own
    · exact f3 a z
    · rw [f2 a z]; exact h
  have sub : Same B H' := fun a u h => kept_tr (R.sub a u h) fun w e => kept_of (by
    rw [f2 a fun z => ?_]
    · exact e
    · have := (R.ap a (own_in a z)).1
      rw [h] at this; cases this)
  have tb : ∀ P, GxR.TabG H P → GxR.TabG H' P := fun P ⟨ps, e, t⟩ => by
    refine ⟨ps, ?_, t⟩
    rw [f2 P fun z => ?_]
    · exact e
    · obtain ⟨u, e2, n⟩ := h2.dat P z
      rw [e] at e2; cases e2; cases n
  have mem : ∀ a ∈ As2, (a ∈ own ∨ a ∈ E) ∨ a ∈ As1 := fun a h => (List.mem_append.mp (k5.mem_iff.mp h)).imp (f5 a) id
  refine ⟨As2, ⟨sub, R.tb.to tb, k5.symm.nodup (List.nodup_append.mpr ⟨f4, (List.nodup_append.mp nd).2.1, fun a ha b hb z => ?_⟩), fun a h => ?_, k4⟩, ⟨.refl _, sub, fun a u h hn => ⟨kept_of ?_, rfl⟩, fun a h => .inl ?_, ne, tb⟩⟩
  · subst z
    rcases f5 a ha with w | w
    · exact dj a hb w
    · exact dE a w (as_in a hb)
  · rcases mem a h with (z | z) | z
    · exact ⟨(R.ap a (own_in a z)).1, f3 a z⟩
    · exact ⟨(aE a z).1, ne a (aE a z).2.ne⟩
    · exact ⟨(R.ap a (as_in a z)).1, ne a (R.ap a (as_in a z)).2⟩
  · rw [f2 a fun z => hn (List.mem_append_right _ (own_in a z))]; exact h
  · rcases mem a h with (z | z) | z
    · exact List.mem_append_right _ (own_in a z)
    · exact List.mem_append_left _ z
    · exact List.mem_append_right _ (as_in a z)
section store
variable {X : Cx} {π : List Bool}
/-- x.f = e, x a slot -/
def setA (i : Nat) (cs : List Str) (f : Str) (g : EF) : SF := fun ρ => (g ρ).bind fun r => (r.2[i]?.join).bind fun o => match o with
  | .ob c fs => if c ∈ cs ∧ fs.length < 1000 then some (.nx, r.2.set i (some (.ob c (putO f r.1 fs)))) else none
  | _ => none
theorem RepOFs.length {G : Gx} {B H : Hp} : ∀ {fs : List (Str × O)} {vs : List (Str × V)} {ow : List Addr}, RepOFs G B H fs vs ow → vs.length = fs.length
  | [], vs, ow, h => by simp only [RepOFs] at h; simp [h.1]
  | (k, x) :: fs, vs, ow, h => by
    simp only [RepOFs] at h
    obtain ⟨v, r, o1, o2, rfl, rfl, _, h2⟩ := h
    simp [RepOFs.length h2]
theorem qs_setA {i : Nat} {x f : Str} {value : Expr} {g : EF} {cs : List Str} {p1 pos pos' : Pos} (hc : ∀ c ∈ cs, AtF X.K X.mg c f) (h : QE X value g) (hN : X.N[i]? = some x := by rfl) (hv : Vis X.env.scope x := by first | exact Or.inl rfl | exact Or.inr (Or.inl rfl) | exact Or.inr (Or.inr rfl)) (hd : (x == ("__debug__" : Str)) = false := by decide)
    (hcd : (x == ("__classdict__" : Str)) = false := by decide) (hs : swapsWith value (some (.Attribute (.Name x p1) f pos')) pos.line X.env = pure false := by rfl) : QS X π (.Assign [.Attribute (.Name x p1) f pos'] value pos) (setA i cs f g) :=
  ps_imp (ps_fld (pe_var (i := i) hN hv hd hcd) h hs) fun Dn σ H ⟨ρ, B, As, out, ρ', R, e, p⟩ => by
  obtain ⟨⟨oe, ρ1⟩, e1, e⟩ := Option.bind_eq_some_iff.mp e
  obtain ⟨o, q1, e⟩ := Option.bind_eq_some_iff.mp e
  cases o <;> simp only [reduceCtorEq] at e
  rename_i c fs
  obtain ⟨⟨hcs, hz⟩, e⟩ := if_some e
  cases e
  refine ⟨ρ, B, As, oe, ρ1, R, e1, fun v B1 H1 As1 own s1 R1 ap => ?_⟩
  obtain ⟨v2, own2, _, b1, b2, _, _⟩ := R1.env.out (join_some q1)
  simp only [RepO] at b2
  obtain ⟨a, C, dx, vs, ow, rfl, rfl, hC, b3, b4⟩ := b2
  obtain ⟨C', m1, m2, m3⟩ := (hc c hcs).ex
  have : C' = C := by rw [m1] at hC; cases hC; rfl
  subst this
  refine ⟨_, b1, a, C', dx, vs, rfl, b3, m2, m3, by rw [b4.length]; exact hz, ?_⟩
  obtain ⟨As3, R3, s3⟩ := R1.change2 (E := own) (H' := upd H1 a (.ins C' dx (putF f v vs))) (o2 := .ob c (putO f oe fs)) (join_some q1) ap.nd (fun b hb => ⟨(ap.ap b hb).1, ap.rep.dat b hb⟩) fun w ow2 c1 c2 c3 c4 => by
    simp only [RepO] at c2
    obtain ⟨a2, C2, dx2, vs2, ow2', rfl, rfl, d1, d2, d3⟩ := c2
    rw [b1] at c1; cases c1
    rw [b3] at d2; cases d2
    have na : a ∉ own := fun z => (List.nodup_append.mp c4).2.2 a z a (by simp) rfl
    have nw : a ∉ ow2' := (List.nodup_cons.mp (List.nodup_append.mp c4).2.1).1
    have r1 : RepO (gx X) B1 (upd H1 a (.ins C' dx (putF f v vs))) oe v own := ap.rep.frame (.refl _) fun b hb => upd_ne fun z => na (z ▸ hb)
    have r2 : RepOFs (gx X) B1 (upd H1 a (.ins C' dx (putF f v vs))) fs vs ow2' := d3.frame (.refl _) fun b hb => upd_ne fun z => nw (z ▸ hb)
    obtain ⟨ow', k1, k2, k3⟩ := RepOFs.put (f := f) r1 r2
    have n3 : (own ++ ow2').Nodup := c4.sublist (List.Sublist.append_left (List.sublist_cons_self _ _) _)
    refine ⟨a :: ow', ⟨a, C', dx, _, ow', rfl, rfl, d1, upd_same, k1⟩, List.nodup_cons.mpr ⟨fun z => (k2 a z).elim nw na, k3 n3⟩, fun b hb => ?_, fun b hb => upd_ne fun z => hb (by simp [z]), fun b hb => ?_⟩
    · rcases List.mem_cons.mp hb with rfl | hb
      · exact .inl (by simp)
      · exact (k2 b hb).imp (List.mem_cons_of_mem _) id
    · rcases List.mem_cons.mp hb with rfl | hb2
      · rw [upd_same]; simp
      · rw [upd_ne (by rintro rfl; exact nw hb2)]
        obtain ⟨u, q, _⟩ := d3.dat b hb2
        rw [q]; simp
  exact p σ _ _ As3 (s1.trans s3) R3 .refl
end store
/-! ### defs of a class -/
abbrev FnPq (K : PySem.W.Frag) (x q : Str) (st : Stmt) (f : Addr) (fd : FuncData) : Prop := FunD K x q (defArgs st) (defBody st) (defScope st) [] [] f fd
/-- the code object of the def at f -/
def CodeAt (K : PySem.W.Frag) (f : Addr) (cdv : Value) : Prop := ∃ (oc : Value) (od : Option Addr) (osl : Array (Option Value)) (fd : FuncData) (c : Addr), K.lookup f = some ⟨oc, od, .func fd, osl⟩ ∧ fd.code = cdv ∧ cdv = .ref c
theorem CodeAt.is {K : PySem.W.Frag} {p : He.Defn} {cdv : Value} (h : CodeAt K (He.fAd K p) cdv) : cdv = .ref (He.cT K p).1 := by
  obtain ⟨oc, od, osl, fd, c, lk, e, rfl⟩ := h
  rw [show (He.cT K p).1 = He.codeOf K p from rfl, He.codeOf_eq lk e]
theorem fnokQ {P : Program} {w : World} {K : PySem.W.Frag} {mg : Str → Option Value} {base : Heap} {x q : Str} {st : Stmt} {N ps : List Str} {k : Nat} {π : List Bool} {ex : SF} {f : Addr} {fd : FuncData}
    (F : FnPq K x q st f fd) (S : FnScope N ps (defScope st)) (hπ : π.length = ps.length)
    (body : ∀ (cdv : Value) (A : Around) (outer : List Env) (s : Shared) (H : Hp) (E : XK), CodeAt K f cdv → Room k (A.deeper (envOfC q (defScope st) s.heap.objs.size f cdv)) → QSs (cxOf CX0 P w K mg base N q (defScope st) f cdv A outer s H E).nox π (defBody st) ex) :
    FnOk P w K mg base CX0 (k + 1) f fd ps (spF ⟨K, mg⟩ ps.length (fnF N.length π ex)) := by
  obtain ⟨oc, od, dV, kV, doc, pm, an, cdv, ct, osl, rfl, lk, hcd, _, _⟩ := F.ex
  have hc : CodeAt K f cdv := by
    obtain ⟨c, e⟩ := He.codeIn_ref hcd
    exact ⟨oc, od, osl, _, c, lk, rfl, e⟩
  refine fn_of lk hcd S (fun vs H Q E h => ?_) (fun A outer s H vs Q E hr h => ?_)
  · obtain ⟨B, os, own, o, os', sub, _, hl, r, _⟩ := h
    rw [r.length, hl]
  · obtain ⟨B, os, own, o, os', sub, tb, hl, r, nd, ap, e, k⟩ := h
    refine ⟨_, (body cdv A outer s H E hc hr).nox, ?_⟩
    unfold fnF at e
    split at e
    case isFalse => cases e
    obtain ⟨⟨out, ρ'⟩, e1, e2⟩ := Option.bind_eq_some_iff.mp e
    have hst : L2.start N vs = vs.map some ++ List.replicate (N.length - os.length) none := by unfold L2.start; rw [r.length]
    rw [hst]
    refine ⟨_, B, own, out, ρ', ⟨sub, tb, nd, ap, r.env⟩, e1, ?_⟩
    have kp : ∀ σ' : L2.St, Keep π (vs.map some ++ List.replicate (N.length - os.length) none) σ' → ∀ i : Nat, π[i]? = some true → ∀ v, vs[i]? = some v → σ'[i]? = some (some v) := fun σ' hk i hi v hv => by
      rw [hk i hi, List.getElem?_append_left (by rw [List.length_map]; exact (List.getElem?_eq_some_iff.mp hv).1), List.getElem?_map, hv]; rfl
    cases out with
    | ret o2 =>
      obtain ⟨os2, e3, e4⟩ := Option.map_eq_some_iff.mp e2
      cases e4
      refine fun v σ' B' H' As' own1 s' R' a' k' => ?_
      obtain ⟨own2, h1, h2⟩ := outs_rep s'.bb r R'.env (kp σ' k') e3
      have sub2 : (own1 ++ own2).Sublist (own1 ++ As') := List.Sublist.append_left h2 _
      refine k v B' H' own1 own2 (s'.less fun _ h => sub2.subset h) a'.rep h1 (a'.nd.sublist sub2) fun b hb => ?_
      rcases List.mem_append.mp hb with z | z
      · exact a'.ap b z
      · exact R'.ap b (h2.subset z)
    | nx =>
      obtain ⟨os2, e3, e4⟩ := Option.map_eq_some_iff.mp e2
      cases e4
      refine fun σ' B' H' As' s' R' k' => ?_
      obtain ⟨own2, h1, h2⟩ := outs_rep s'.bb r R'.env (kp σ' k') e3
      exact k .non B' H' [] own2 (s'.less fun _ h => h2.subset h) ⟨rfl, rfl⟩ h1 (R'.nd.sublist h2) fun b hb => R'.ap b (h2.subset hb)
    | brk => cases e2
    | ct => cases e2
/-- a module's def, its code object known -/
theorem qfnQ {P : Program} {w : World} {K : PySem.W.Frag} {mg : Str → Option Value} {base : Heap} {x : Str} {st : Stmt} {N ps : List Str} {k : Nat} {π : List Bool} {ex : SF}
    (a : At K mg x st ps) (S : FnScope N ps (defScope st)) (hπ : π.length = ps.length)
    (body : ∀ (f : Addr) (cdv : Value) (A : Around) (outer : List Env) (s : Shared) (H : Hp) (E : XK), CodeAt K f cdv → mg x = some (.ref f) → Room k (A.deeper (envOfC x (defScope st) s.heap.objs.size f cdv)) → QSs (cxOf CX0 P w K mg base N x (defScope st) f cdv A outer s H E).nox π (defBody st) ex) :
    QFn P w K mg base x (k + 1) ps.length (fnF N.length π ex) := by
  obtain ⟨f, fd, hm, F, hb⟩ := a
  exact ⟨f, fd, ps, hm, F.kp, hb, fnokQ F S hπ fun cdv A outer s H E hc hr => body f cdv A outer s H E hc hm hr⟩
end Q

namespace Q
open PySem PySem.Spec PyProof.Rows L2
/-! ### the head: with tables and property getters -/
/-- a property's getter -/
structure GetD where
  c : Str
  f : Str
  name : Str
  qual : Str
  params : Arguments
  body : List Stmt
  scope : Scope
def gAd (K : PySem.W.Frag) (c f : Str) : Addr := match PySem.W.recIn K (He.ma K (He.ga K c) f) "property" with
  | some (.ref g :: _) => g
  | _ => 0
def fnA (K : PySem.W.Frag) (a : Addr) : He.FnW := match K.lookup a with
  | some ⟨_, _, .func fd, _⟩ => some (fd.name, fd.qualname, fd.params, fd.body, fd.scope, fd.globals, fd.closure, fd.builtins)
  | _ => none
def noneV : Value → Bool
  | .none => true
  | _ => false
def okG (K : PySem.W.Frag) (d : GetD) : Bool :=
  (He.eqO (PySem.W.findIn K (.ref (He.ga K d.c)) d.f) (some (some (.ref (He.ma K (He.ga K d.c) d.f)))) && (decide (PySem.W.specialIn K (.ref (He.ma K (He.ga K d.c) d.f)) "__get__" = some (some (.builtin "property.__get__"))) && (decide (PySem.W.takesIn K (.ref (He.ma K (He.ga K d.c) d.f)) = some true) &&
    (match PySem.W.recIn K (He.ma K (He.ga K d.c) d.f) "property" with
    | some (.ref _ :: _) => true
    | _ => false)))) && (PySem.W.keepIn K (.ref (gAd K d.c d.f)) && (match K.lookup (gAd K d.c d.f) with
    | some ⟨_, _, .func fd, _⟩ => PySem.W.codeIn K fd.code d.qual && (He.dflB K fd.defaults [] && He.kwdB K fd.kwdefaults [])
    | _ => false))
def GetD.val (d : GetD) : He.FnW := some (d.name, d.qual, d.params, .stmts d.body, d.scope, mainGlobals, [], builtinsNs)
theorem GetD.prop {K : PySem.W.Frag} {d : GetD} (c : okG K d = true) : PropOf K (He.ga K d.c) d.f (He.ma K (He.ga K d.c) d.f) (gAd K d.c d.f) := by
  obtain ⟨c1, _⟩ := He.ba c
  obtain ⟨c2, c3⟩ := He.ba c1
  obtain ⟨c4, c5⟩ := He.ba c3
  obtain ⟨c6, c7⟩ := He.ba c5
  refine ⟨He.eqO_ok c2, of_decide_eq_true c4, of_decide_eq_true c6, ?_⟩
  unfold gAd
  split at c7
  · rename_i g r e
    rw [e]; exact ⟨r, rfl⟩
  · cases c7
theorem GetD.funD {K : PySem.W.Frag} {d : GetD} (e : fnA K (gAd K d.c d.f) = d.val) (c : okG K d = true) : ∃ fd, FunD K d.name d.qual d.params d.body d.scope [] [] (gAd K d.c d.f) fd := by
  obtain ⟨_, c2⟩ := He.ba c
  obtain ⟨kp, c2⟩ := He.ba c2
  unfold fnA at e
  cases q : K.lookup (gAd K d.c d.f) with
  | none => rw [q] at c2; cases c2
  | some o =>
    obtain ⟨oc, od, dt, osl⟩ := o
    rw [q] at c2 e
    cases dt with
    | func fd =>
      obtain ⟨n1, n2, n3, n4, n5, n6, n7, n8, n9, n10, n11, n12, n13, n14, n15⟩ := fd
      have e2 : (some (n1, n2, n3, n4, n5, n6, n7, n15) : He.FnW) = some (d.name, d.qual, d.params, .stmts d.body, d.scope, mainGlobals, [], builtinsNs) := e
      simp only [Option.some.injEq, Prod.mk.injEq] at e2
      obtain ⟨h1, h2, h3, h4, h5, h6, h7, h8⟩ := e2
      subst h1 h2 h3 h4 h5 h6 h7 h8
      obtain ⟨k1, k2⟩ := He.ba (show (PySem.W.codeIn K n13 d.qual && (He.dflB K n8 [] && He.kwdB K n9 [])) = true from c2)
      obtain ⟨k3, k4⟩ := He.ba k2
      exact ⟨_, ⟨oc, od, n8, n9, n10, n11, n12, n13, n14, osl, rfl, q, k1, He.dflB_ok k3, He.kwdB_ok k4⟩, kp⟩
    | _ => cases c2
abbrev AlG : Type := Bool × List He.FnW
def obsG (gt : List GetD) (K : PySem.W.Frag) : AlG := (gt.all fun d => okG K d, gt.map fun d => fnA K (gAd K d.c d.f))
def valG (gt : List GetD) : AlG := (true, gt.map GetD.val)
abbrev AlY : Type := He.AlX × AlG
structure SaysY (fa : List He.Fa) (fn : List He.DefD) (tf : List He.Defn) (ex : PySem.W.Frag → Bool) (gt : List GetD) (w : World) (h : Heap) (K : PySem.W.Frag) : Prop where
  x : He.SaysX fa fn [] tf ex w h K
  g : obsG gt K = valG gt
def obsY (n : Nat) (fa : List He.Fa) (fn : List He.DefD) (tf : List He.Defn) (ex : PySem.W.Frag → Bool) (gt : List GetD) (g : Addr → Option Obj) : AlY := (He.obsX n fa fn [] tf ex g, obsG gt (He.frT g (He.asD g n)))
def hookY (n : Nat) (fa : List He.Fa) (fn : List He.DefD) (tf : List He.Defn) (ex : PySem.W.Frag → Bool) (gt : List GetD) : PySem.W.Hook where
  α := AlY
  obs := fun s => obsY n fa fn tf ex gt s.heap.get?
  val := fun w => (He.valX fn [] w, valG gt)
  says := fun w h => ∃ K : PySem.W.Frag, K.In h ∧ SaysY fa fn tf ex gt w h K
  of := fun w s e => ⟨_, He.frT_in, He.saysX_of (congrArg (fun z : AlY => z.1) e), congrArg (fun z : AlY => z.2) e⟩
  keeps := fun _ _ _ ⟨K, hK, c⟩ k => ⟨K, PySem.W.Frag.In.keeps hK k, ⟨c.x.t, c.x.more, c.x.hd, c.x.out, fun p hp => k _ _ (c.x.empty p hp)⟩, c.g⟩
theorem obsY_eq {n : Nat} {fa : List He.Fa} {fn : List He.DefD} {tf : List He.Defn} {ex : PySem.W.Frag → Bool} {gt : List GetD} {g : Addr → Option Obj} {s : Shared} (h : ∀ a, g a = s.heap.get? a) : obsY n fa fn tf ex gt g = (hookY n fa fn tf ex gt).obs s := by
  have e : g = s.heap.get? := funext h
  rw [e] <;> rfl
theorem SaysY.getter {fa : List He.Fa} {fn : List He.DefD} {tf : List He.Defn} {ex : PySem.W.Frag → Bool} {gt : List GetD} {w : World} {h : Heap} {K : PySem.W.Frag} (c : SaysY fa fn tf ex gt w h K) (i : Nat) {d : GetD} (hd : gt[i]? = some d := by rfl) :
    PropOf K (He.ga K d.c) d.f (He.ma K (He.ga K d.c) d.f) (gAd K d.c d.f) ∧ ∃ fd, FunD K d.name d.qual d.params d.body d.scope [] [] (gAd K d.c d.f) fd := by
  have c1 : (gt.all fun d => okG K d) = true := congrArg (fun z : AlG => z.1) c.g
  have c2 : gt.map (fun d => fnA K (gAd K d.c d.f)) = gt.map GetD.val := congrArg (fun z : AlG => z.2) c.g
  have k1 := List.all_eq_true.mp c1 d (List.mem_of_getElem? hd)
  have k2 : fnA K (gAd K d.c d.f) = d.val := by
    have := congrArg (fun l => l[i]?) c2
    simpa [hd] using this
  exact ⟨GetD.prop k1, GetD.funD k2 k1⟩
/-- a law: the promise over every base, with tables -/
theorem walkY {l : PySem.W.OpenLaw} {n k : Nat} {q : Program} {loose : List Str} {XP : (Str → Option Value) → Heap → Prop} {d : DefRec} {x : Str} {N : Nat} {fa : List He.Fa} {fn : List He.DefD} {ex : PySem.W.Frag → Bool} {gt : List GetD}
    (hn : l.most = some n) (hn2 : n ≤ 63) (hdf : d.params.defaults = []) (hr : Room k callerA)
    (F : ∀ (w : World) (mg : Str → Option Value) (f : Addr) (h : Heap) (K : PySem.W.Frag), K.In h → SaysY fa fn tabDefs ex gt w h K → h.Ns mainGlobals mg → mg d.name = some (.ref f) →
      ∃ fd : FuncData, (∀ (s : Shared) (u : Value), BindsTo s fd ⟨[u], []⟩ [(x, u)]) ∧ ∀ base : Heap, K.In base → base.Ns mainGlobals mg → (∀ p ∈ tabDefs, GxR.TabB base mg (He.cT K p).1 (He.cT K p).2) → FnOk l.prog w K mg base CX0 k f fd [x] (spLaw K mg)) :
    PySem.W.WalkO q loose XP (hookY N fa fn tabDefs ex gt).says l.row.toRowW d [] (fun f vs => PySem.call f vs) := by
  refine Att.attach_callB hn hdf fun w s₀ s₁ mg mb f o pm cd doc a vs ns G Y ho hd hcd hmg hobj hints hlen hbits hg => ?_
  obtain ⟨K, KX, c⟩ := Y
  obtain ⟨fd, hb, hF⟩ := F w mg f _ K KX c G.T.g hmg
  have mp : ∀ p ∈ tabDefs.map (He.cT K), ∃ q ∈ tabDefs, He.cT K q = p := fun p hp => by simpa using hp
  refine LamX.law_callTs (cs := tabDefs.map (He.cT K)) KX G.T.g G.T.b G.T.builtins G.T.nolimit hg (fun p hp => ?_) (fun p hp => ?_) (fun p hp => ?_) G.T.bmain hobj hints (Nat.le_trans hlen (Nat.le_trans hn2 (by decide))) hr (fun base k1 k2 k3 => hF base k1 k2 fun p hp => let t := k3 _ (List.mem_map.mpr ⟨p, hp, rfl⟩); ⟨t.code, t.bm, t.gP⟩) hb (fun H hH hS => ⟨fun p hp => ?_, a, ns, rfl, hS, Nat.le_trans hlen hn2, fun _ => rfl⟩) fun H e s' z => z
  · obtain ⟨q, hq, rfl⟩ := mp p hp; exact c.x.empty q hq
  · obtain ⟨q, hq, rfl⟩ := mp p hp; exact c.x.out q hq
  · obtain ⟨q, hq, rfl⟩ := mp p hp; exact PySem.W.codeHd_of_K KX (c.x.hd q hq)
  · exact ⟨#[], hH _ (List.mem_map.mpr ⟨p, hp, rfl⟩), by simp [TriplesOk]⟩
end Q

namespace Q
open PySem PySem.Spec PyProof.Rows L2
/-! ### what is never reached -/
def deadS : SF := fun _ => none
theorem qs_dead {X : Cx} {π : List Bool} {st : Stmt} : QS X π st deadS := ⟨fun pins s σ H D I ⟨_, _, _, _, _, _, e, _⟩ => nomatch e⟩
def deadE : EF := fun _ => none
theorem qe_dead {X : Cx} {e : Expr} : QE X e deadE := ⟨fun pins s σ H D I ⟨_, _, _, _, _, _, e, _⟩ => nomatch e⟩
def deadD : PF := fun _ => none
theorem qd_dead {X : Cx} {e : Expr} : QD X e deadD := ⟨fun pins s σ H D I ⟨_, _, _, _, _, e, _⟩ => nomatch e⟩
theorem genS_of {env : Env} {scope : Scope} {x : Str} (hk : scope.kind = .function) (hc : scope.isCoroutine = false) (hn : (scope.names.all fun y => y.2 != .cell && y.2 != .free) = true) (hd : scope.names.lookup (".0" : Str) = some NameKind.local) (hl : scope.names.lookup x = some .local) : GxR.GenS env scope x := by
  have h := fun y hy => Bool.and_eq_true_iff.mp (List.all_eq_true.mp hn y hy)
  exact ⟨hk, hc, fun y hy z => by have := (h y hy).1; rw [z] at this; exact absurd this (by decide), hd, hl, fun y hy z => by have := (h y hy).2; rw [z] at this; exact absurd this (by decide)⟩
/-! ### deep views -/
theorem O_fr_rep {G : Gx} {B H : Hp} {o : O} {v : V} {own : List Addr} (sub : Same B H) (h : RepO G B H o v own) : RepD G H o.fr v := h.freeze sub fun _ _ => rfl
theorem RepW.deep {G : Gx} {B H : Hp} {d : D} {v : V} (sub : Same B H) (h : RepW G B H d v) : RepD G H d v := by
  cases d with
  | lst ds => obtain ⟨a, vs, h1, h2, h3⟩ := h; exact ⟨a, vs, h1, h2, h3.mono sub⟩
  | dic ds => obtain ⟨a, ps, h1, h2, h3⟩ := h; exact ⟨a, ps, h1, h2, h3.mono sub⟩
  | obj c fs => obtain ⟨a, C, dx, vs, h1, h2, h3, h4⟩ := h; exact ⟨a, C, dx, vs, h1, h2, h3, h4.mono sub⟩
  | non => exact RepD.mono (G := G) sub (d := .non) h
  | bl b => exact RepD.mono (G := G) sub (d := .bl b) h
  | int b => exact RepD.mono (G := G) sub (d := .int b) h
  | str b => exact RepD.mono (G := G) sub (d := .str b) h
  | tup b => exact RepD.mono (G := G) sub (d := .tup b) h
  | scr b => exact RepD.mono (G := G) sub (d := .scr b) h
def tV (G : Gx) (g : PF) : TE := fun σ H Q => ∃ ρ B As d, Rel G B H σ ρ As ∧ g ρ = some d ∧ ∀ v B' H', Grow B H B' H' → RepD G H' d v → Q v H'
abbrev QV (X : Cx) (e : Expr) (g : PF) : Prop := PE X e (tV (gx X) g)
def scaD : D → Option D
  | .non => some .non
  | .bl b => some (.bl b)
  | .int i => some (.int i)
  | .str x => some (.str x)
  | _ => none
theorem scal_rep {G : Gx} {H B : Hp} {d e : D} {v : V} (h : scaD d = some e) (r : RepD G H d v) : RepD G B e v := by
  cases d <;> simp only [scaD, reduceCtorEq, Option.some.injEq] at h <;> (subst h; simpa only [RepD] using r)
section deep
variable {X : Cx} {e : Expr} {es : List Expr} {g : PF} {gs : List PF} {pos p : Pos}
theorem QW.toV (h : QW X e g) : QV X e g := pe_imp h fun σ H Q ⟨ρ, B, As, d, R, e1, k⟩ => ⟨ρ, B, As, d, R, e1, fun v B' H' g r => k v B' H' g (r.deep g.sub)⟩
def frP (g : NF) : PF := fun ρ => (g ρ).map O.fr
theorem QP.toV {g : NF} (h : QP X e g) : QV X e (frP g) := pe_imp h fun σ H Q ⟨ρ, B, As, d, R, e1, k⟩ => by
  obtain ⟨o, e2, rfl⟩ := Option.map_eq_some_iff.mp e1
  exact ⟨ρ, B, As, o, R, e2, fun v B' H' own g r => k v B' H' g (O_fr_rep g.sub r)⟩
abbrev varV (i : Nat) : PF := frP (varP i)
theorem qv_var {i : Nat} {x : Str} (hN : X.N[i]? = some x := by rfl) (hv : Vis X.env.scope x := by first | exact Or.inl rfl | exact Or.inr (Or.inl rfl) | exact Or.inr (Or.inr rfl)) (hd : (x == ("__debug__" : Str)) = false := by decide)
    (hcd : (x == ("__classdict__" : Str)) = false := by decide) : QV X (.Name x pos) (varV i) := QP.toV (qp_var hN hv hd hcd)
def scaF (g : PF) : PF := fun ρ => (g ρ).bind scaD
theorem QV.toD (h : QV X e g) : QD X e (scaF g) := pe_imp h fun σ H Q ⟨ρ, B, As, d, R, e1, k⟩ => by
  obtain ⟨y, e2, e3⟩ := Option.bind_eq_some_iff.mp e1
  exact ⟨ρ, B, As, y, R, e2, fun v B' H' g r => k v B' H' g (scal_rep e3 r)⟩
/-! ### calls that only look -/
def tVs (G : Gx) (gs : List PF) : TA := fun σ H Q => ∃ ρ B As ds, Rel G B H σ ρ As ∧ evs gs ρ = some ds ∧ ∀ vs B' H', Grow B H B' H' → RepDs G H' ds vs → Q vs H'
abbrev QVs (X : Cx) (es : List Expr) (gs : List PF) : Prop := PA X es (tVs (gx X) gs)
theorem qvs_nil : QVs X [] [] := pa_imp pa_nil fun σ H Q ⟨ρ, B, As, ds, R, e, k⟩ => by
  simp only [evs, Option.some.injEq] at e; subst e; exact k [] B H (.refl R.sub) rfl
theorem qvs_cons (h : QV X e g) (t : QVs X es gs) (hs : starEach (e :: es) X.env = (false, eval e X.env) :: starEach es X.env := by rfl) : QVs X (e :: es) (g :: gs) := pa_imp (pa_cons h t hs) fun σ H Q ⟨ρ, B, As, ds, R, e, k⟩ => by
  simp only [evs] at e
  obtain ⟨d, e1, e2⟩ := Option.bind_eq_some_iff.mp e
  obtain ⟨r, e3, rfl⟩ := Option.map_eq_some_iff.mp e2
  exact ⟨ρ, B, As, d, R, e1, fun v B1 H1 g1 w1 => ⟨ρ, B1, As, r, R.grow g1, e3, fun vs B2 H2 g2 w2 => k (v :: vs) B2 H2 (g1.trans g2) ⟨v, vs, rfl, w1.mono g2.hh, w2⟩⟩⟩
def scaO : O → Option D
  | .fz d => scaD d
  | _ => none
def callS (f : FS) (gs : List PF) : PF := fun ρ => (evs gs ρ).bind fun ds => (f (ds.map .fz)).bind fun r => scaO r.1
theorem spF_look {G : Gx} {n : Nat} {f : FS} {B H : Hp} {ds : List D} {vs : List V} {d : D} {Q : VK} {E : XK} (sub : Same B H) (tb : Tabs G H) (hl : ds.length = n) (r : RepDs G H ds vs) (e : ((f (ds.map .fz)).bind fun r => scaO r.1) = some d)
    (k : ∀ v B' H', Grow B H B' H' → RepD G B' d v → Q v H') : spF G n f vs H Q E := by
  obtain ⟨⟨o, os'⟩, e1, e2⟩ := Option.bind_eq_some_iff.mp e
  cases o <;> simp only [scaO, reduceCtorEq] at e2
  rename_i d0
  refine spF_pure (ds := ds) (o := .fz d0) (.refl H) tb hl r (by rw [e1]; rfl) fun v B' H' own fr => ?_
  have rv := fr.rep
  simp only [RepO] at rv
  exact k v B H' ⟨fr.g.hh, .refl _, sub.trans fr.g.hh, fun _ _ => rfl⟩ (scal_rep e2 rv.2)
theorem qd_callS {x : Str} {f : FS} {k n : Nat} (F : QFn X.prog X.w X.K X.mg X.base x k n f) (hr : Room k X.A) (hg : Gl X x) (hn : gs.length = n) (ha : QVs X (e :: es) gs) (hdb : (x == ("__debug__" : Str)) = false := by decide)
    (he : starEach (e :: es) X.env = (false, eval e X.env) :: starEach es X.env := by rfl) (hpl : (backTo pos (starEach es X.env)).any (·.1) = false := by rfl) : QD X (.Call (.Name x p) (e :: es) [] pos) (callS f gs) := by
  obtain ⟨fa, fd, ps, hm, hk, hb, F⟩ := F.ex
  refine pe_imp (pe_call (dvs := []) F hr hg hm hk hb .nil pass0 ha hdb he hpl) fun σ H Q ⟨ρ, B, As, o, R, e, k⟩ => ?_
  obtain ⟨ds, e1, e2⟩ := Option.bind_eq_some_iff.mp e
  refine ⟨ρ, B, As, ds, R, e1, fun vs B1 H1 g1 w1 => ?_⟩
  show spF _ n f (vs ++ []) H1 Q E0
  rw [List.append_nil]
  exact spF_look g1.sub (R.tb.same g1.hh) ((evs_len e1).trans hn) w1 e2 fun v B2 H2 g2 r2 => k v B2 H2 (g1.trans g2) r2
end deep
/-! ### what holds of the new pieces -/
@[simp] theorem wp_deadS {ρ : Ev} {Q : Out × Ev → Prop} : wp (deadS ρ) Q ↔ False := by simp [deadS]
@[simp] theorem wp_deadD {ρ : Ev} {Q : D → Prop} : wp (deadD ρ) Q ↔ False := by simp [deadD]
@[simp] theorem wp_frP {g : NF} {ρ : Ev} {Q : D → Prop} : wp (frP g ρ) Q ↔ wp (g ρ) fun o => Q o.fr := by simp [frP]
@[simp] theorem wp_varP {i : Nat} {ρ : Ev} {Q : O → Prop} : wp (varP i ρ) Q ↔ wp (ρ[i]?.join) Q := by simp [varP]
@[simp] theorem wp_scalF {g : PF} {ρ : Ev} {Q : D → Prop} : wp (scaF g ρ) Q ↔ wp (g ρ) fun d => wp (scaD d) Q := by simp [scaF]
@[simp] theorem wp_callS {f : FS} {gs : List PF} {ρ : Ev} {Q : D → Prop} : wp (callS f gs ρ) Q ↔ wp (evs gs ρ) fun ds => wp (f (ds.map .fz)) fun r => wp (scaO r.1) Q := by simp [callS]
@[simp] theorem scaD_non : scaD .non = some .non := rfl
@[simp] theorem scaD_bl {b} : scaD (.bl b) = some (.bl b) := rfl
@[simp] theorem scaD_int {b} : scaD (.int b) = some (.int b) := rfl
@[simp] theorem scaD_str {b} : scaD (.str b) = some (.str b) := rfl
@[simp] theorem scaO_fz {d} : scaO (.fz d) = scaD d := rfl
@[simp] theorem wp_atF {cs : List Str} {f : Str} {g : PF} {ρ : Ev} {Q : D → Prop} : wp (atF cs f g ρ) Q ↔ wp (g ρ) fun d => wp (atD cs f d) Q := by simp [atF]
@[simp] theorem atD_obj {cs : List Str} {f c : Str} {fs : List (Str × D)} : atD cs f (.obj c fs) = if c ∈ cs then fs.lookup f else none := rfl
@[simp] theorem wp_callM {c m : Str} {f : FS} {g : PF} {gs : List PF} {ρ : Ev} {Q : O → Prop} : wp (callM c m f g gs ρ) Q ↔ wp (g ρ) fun d => wp (recvD c m d) fun _ => wp (evs gs ρ) fun ds => wp (f ((d :: ds).map .fz)) fun r => Q r.1 := by simp [callM]
@[simp] theorem recvD_obj {c m c' : Str} {fs : List (Str × D)} : recvD c m (.obj c' fs) = if c' = c ∧ fs.lookup m = none then some () else none := rfl
def prK (c : Str) (f : FS) (Q : O → Prop) : D → Prop
  | .obj c' fs => c' = c ∧ wp (f [.fz (.obj c' fs)]) fun r => Q r.1
  | _ => False
@[simp] theorem prK_obj {c c' : Str} {f : FS} {fs : List (Str × D)} {Q : O → Prop} : prK c f Q (.obj c' fs) ↔ c' = c ∧ wp (f [.fz (.obj c' fs)]) fun r => Q r.1 := Iff.rfl
@[simp] theorem wp_callP {c : Str} {f : FS} {g : PF} {ρ : Ev} {Q : O → Prop} : wp (callP c f g ρ) Q ↔ wp (g ρ) (prK c f Q) := by
  unfold callP; rw [wp_bind]
  constructor <;> intro h <;> refine wp_mono h fun d hd => ?_
  · cases d with
    | obj c' fs => exact (by simpa using hd)
    | _ => simp at hd
  · cases d with
    | obj c' fs =>
      have h2 : c' = c ∧ wp (f [.fz (.obj c' fs)]) fun r => Q r.1 := hd
      simpa using h2
    | _ => exact hd.elim
def mdK (Q : O → Prop) (r : O × List O) : Prop := wp (made r) Q
@[simp] theorem wp_makeN {c : Str} {f : FS} {gs : List PF} {ρ : Ev} {Q : O → Prop} : wp (makeN c f gs ρ) Q ↔ wp (evs gs ρ) fun ds => wp (f (.ob c [] :: ds.map .fz)) (mdK Q) := by simp only [makeN, wp_bind]; rfl
@[simp] theorem mdK_ok {Q : O → Prop} {o : O} {os : List O} : mdK Q (.fz .non, o :: os) ↔ Q o := by simp [mdK, made]
def txK (pb : Nat → Bool) (Q : D → Prop) : D → Prop
  | .str a => Q (.bl (a.cps.toList.all pb))
  | _ => False
@[simp] theorem txK_str {pb : Nat → Bool} {Q : D → Prop} {a : Str} : txK pb Q (.str a) ↔ Q (.bl (a.cps.toList.all pb)) := Iff.rfl
@[simp] theorem wp_allT {pb : Nat → Bool} {g : PF} {ρ : Ev} {Q : D → Prop} : wp (allT pb g ρ) Q ↔ wp (g ρ) (txK pb Q) := by
  unfold allT; rw [wp_bind]
  constructor <;> intro h <;> refine wp_mono h fun d hd => ?_ <;> cases d <;> simp_all [txK]
def stA (i : Nat) (cs : List Str) (f : Str) (Q : Out × Ev → Prop) (r : O × Ev) : Prop := wp (r.2[i]?.join) fun o => match o with
  | .ob c fs => (c ∈ cs ∧ fs.length < 1000) ∧ Q (.nx, r.2.set i (some (.ob c (putO f r.1 fs))))
  | _ => False
@[simp] theorem stA_eq {i : Nat} {cs : List Str} {f : Str} {Q : Out × Ev → Prop} {o : O} {ρ : Ev} : stA i cs f Q (o, ρ) ↔ wp (ρ[i]?.join) fun o1 => match o1 with
  | .ob c fs => (c ∈ cs ∧ fs.length < 1000) ∧ Q (.nx, ρ.set i (some (.ob c (putO f o fs))))
  | _ => False := Iff.rfl
@[simp] theorem wp_setA {i : Nat} {cs : List Str} {f : Str} {g : EF} {ρ : Ev} {Q : Out × Ev → Prop} : wp (setA i cs f g ρ) Q ↔ wp (g ρ) (stA i cs f Q) := by
  unfold setA; rw [wp_bind]
  constructor <;> intro h <;> refine wp_mono h fun r hr => ?_
  · rw [wp_bind] at hr
    refine wp_mono hr fun o ho => ?_
    cases o <;> simp_all
  · rw [wp_bind]
    refine wp_mono hr fun o ho => ?_
    cases o <;> simp_all
end Q

namespace Q
open PySem PySem.Spec PyProof.Rows L2
/-! ### defs of classes, where they stand -/
def AtMe (K : PySem.W.Frag) (mg : Str → Option Value) (c m q : Str) (st : Stmt) (ps : List Str) : Prop := ∃ C fa fd, mg c = some (.ref C) ∧ Cls K C ∧ Meth K C m fa ∧ FnPq K m q st fa fd ∧ Binds K fd ps []
def AtMk (K : PySem.W.Frag) (mg : Str → Option Value) (c q : Str) (st : Stmt) (ps : List Str) : Prop := ∃ C fa fd, mg c = some (.ref C) ∧ Mk K C fa ∧ FnPq K "__init__" q st fa fd ∧ Binds K fd ps []
def AtPr (K : PySem.W.Frag) (mg : Str → Option Value) (c m q : Str) (st : Stmt) (ps : List Str) : Prop := ∃ C p fa fd, mg c = some (.ref C) ∧ Cls K C ∧ PropOf K C m p fa ∧ FnPq K m q st fa fd ∧ Binds K fd ps []
theorem ats_nil {K : PySem.W.Frag} {mg : Str → Option Value} {f : Str} : ∀ c ∈ ([] : List Str), AtF K mg c f := fun _ h => nomatch h
theorem ats_cons {K : PySem.W.Frag} {mg : Str → Option Value} {f c : Str} {cs : List Str} (h : AtF K mg c f) (t : ∀ c ∈ cs, AtF K mg c f) : ∀ d ∈ c :: cs, AtF K mg d f := fun d hd => by
  rcases List.mem_cons.mp hd with rfl | hd
  · exact h
  · exact t d hd
/-- a def under another name -/
def AtA (K : PySem.W.Frag) (mg : Str → Option Value) (x y : Str) (st : Stmt) (ps : List Str) : Prop := ∃ f fd, mg x = some (.ref f) ∧ FnP K y st f fd ∧ Binds K fd ps []
section at_
variable {P : Program} {w : World} {K : PySem.W.Frag} {mg : Str → Option Value} {base : Heap} {c m q : Str} {st : Stmt} {N ps : List Str} {k : Nat} {π : List Bool} {ex : SF}
theorem qmeM (a : AtMe K mg c m q st ps) (S : FnScope N ps (defScope st)) (hπ : π.length = ps.length)
    (body : ∀ (f : Addr) (cdv : Value) (A : Around) (outer : List Env) (s : Shared) (H : Hp) (E : XK), Room k (A.deeper (envOfC q (defScope st) s.heap.objs.size f cdv)) → QSs (cxOf CX0 P w K mg base N q (defScope st) f cdv A outer s H E).nox π (defBody st) ex) :
    QMe P w K mg base c m (k + 1) ps.length (fnF N.length π ex) := by
  obtain ⟨C, f, fd, h1, h2, h3, F, hb⟩ := a
  exact ⟨C, f, fd, ps, h1, h2, h3, hb, fnokQ F S hπ fun cdv A outer s H E _ hr => body f cdv A outer s H E hr⟩
theorem qmkM (a : AtMk K mg c q st ps) (S : FnScope N ps (defScope st)) (hπ : π.length = ps.length)
    (body : ∀ (f : Addr) (cdv : Value) (A : Around) (outer : List Env) (s : Shared) (H : Hp) (E : XK), Room k (A.deeper (envOfC q (defScope st) s.heap.objs.size f cdv)) → QSs (cxOf CX0 P w K mg base N q (defScope st) f cdv A outer s H E).nox π (defBody st) ex) :
    QMk P w K mg base c (k + 1) ps.length (fnF N.length π ex) := by
  obtain ⟨C, f, fd, h1, h2, F, hb⟩ := a
  exact ⟨C, f, fd, ps, h1, h2, hb, fnokQ F S hπ fun cdv A outer s H E _ hr => body f cdv A outer s H E hr⟩
theorem qprM {p1 : Str} (a : AtPr K mg c m q st [p1]) (S : FnScope N [p1] (defScope st)) (hπ : π.length = 1)
    (body : ∀ (f : Addr) (cdv : Value) (A : Around) (outer : List Env) (s : Shared) (H : Hp) (E : XK), Room k (A.deeper (envOfC q (defScope st) s.heap.objs.size f cdv)) → QSs (cxOf CX0 P w K mg base N q (defScope st) f cdv A outer s H E).nox π (defBody st) ex) :
    QPr P w K mg base c m (k + 1) (fnF N.length π ex) := by
  obtain ⟨C, p, f, fd, h1, h2, h3, F, hb⟩ := a
  exact ⟨C, p, f, fd, [p1], h1, h2, h3, hb, fnokQ F S hπ fun cdv A outer s H E _ hr => body f cdv A outer s H E hr⟩
theorem qfnA {x y : Str} (a : AtA K mg x y st ps) (S : FnScope N ps (defScope st)) (hπ : π.length = ps.length)
    (body : ∀ (f : Addr) (cdv : Value) (A : Around) (outer : List Env) (s : Shared) (H : Hp) (E : XK), Room k (A.deeper (envOfC y (defScope st) s.heap.objs.size f cdv)) → QSs (cxOf CX0 P w K mg base N y (defScope st) f cdv A outer s H E).nox π (defBody st) ex) :
    QFn P w K mg base x (k + 1) ps.length (fnF N.length π ex) := by
  obtain ⟨f, fd, hm, F, hb⟩ := a
  exact ⟨f, fd, ps, hm, F.kp, hb, fnokD F S hπ (body f)⟩
theorem AtA.none {x y : Str} {n : Nat} (a : AtA K mg x y st ps) : QFn P w K mg base x k n (fun _ => none) := by
  obtain ⟨f, fd, hm, F, hb⟩ := a
  exact qfn_none hm F.kp hb
theorem code_is {x : Str} {p : He.Defn} {f : Addr} {cdv : Value} (hm : mg x = some (.ref f)) (hg : mg x = some (.ref (He.fAd K p))) (h : CodeAt K f cdv) : cdv = .ref (He.cT K p).1 := by
  rw [hm] at hg; cases hg; exact h.is
end at_
end Q

namespace Q
open PySem PySem.Spec PyProof.Rows L2
/-! ### ways into an owned thing -/
inductive Stp where
  | f (cs : List Str) (x : Str) | ix (n : Nat)
def O.stp : Stp → O → Option O
  | .f cs x, .ob c fs => if c ∈ cs then fs.lookup x else none
  | .f cs x, .fz (.obj c fs) => if c ∈ cs then (fs.lookup x).map .fz else none
  | .ix n, .ns os => os[n]?
  | .ix n, .ls ds => (ds[n]?).map .fz
  | .ix n, .fz (.lst ds) => (ds[n]?).map .fz
  | _, _ => none
def O.get : List Stp → O → Option O
  | [], o => some o
  | s :: p, o => (o.stp s).bind (O.get p)
def repF (x : Str) (o : O) : List (Str × O) → List (Str × O)
  | [] => []
  | (g, y) :: r => if x == g then (g, o) :: r else (g, y) :: repF x o r
def O.stpPut : Stp → O → O → Option O
  | .f cs x, n, .ob c fs => if c ∈ cs then some (.ob c (repF x n fs)) else none
  | .ix k, n, .ns os => some (.ns (os.set k n))
  | _, _, _ => none
def O.put : List Stp → O → O → Option O
  | [], n, _ => some n
  | s :: p, n, o => (o.stp s).bind fun o1 => (O.put p n o1).bind fun o2 => O.stpPut s o2 o
/-- the value at the end of a way -/
def valAt (H : Hp) : V → List Stp → V → Prop
  | v, [], w => v = w
  | v, .f _ x :: p, w => ∃ a C dx vs u, v = .ref a ∧ H a = some (.ins C dx vs) ∧ vs.lookup x = some u ∧ valAt H u p w
  | v, .ix n :: p, w => ∃ a vs u, v = .ref a ∧ H a = some (.lst vs) ∧ vs[n]? = some u ∧ valAt H u p w
theorem valAt_one {H : Hp} : ∀ {p : List Stp} {v w w' : V}, valAt H v p w → valAt H v p w' → w = w'
  | [], v, w, w', h, h' => by cases h; exact h'
  | .f _ x :: p, v, w, w', h, h' => by
    obtain ⟨a, C, dx, vs, u, rfl, h1, h2, h3⟩ := h
    obtain ⟨a', C', dx', vs', u', e, k1, k2, k3⟩ := h'
    cases e
    rw [h1] at k1; cases k1
    rw [h2] at k2; cases k2
    exact valAt_one h3 k3
  | .ix n :: p, v, w, w', h, h' => by
    obtain ⟨a, vs, u, rfl, h1, h2, h3⟩ := h
    obtain ⟨a', vs', u', e, k1, k2, k3⟩ := h'
    cases e
    rw [h1] at k1; cases k1
    rw [h2] at k2; cases k2
    exact valAt_one h3 k3
theorem valAt_same {H H' : Hp} (e : Same H H') : ∀ {p : List Stp} {v w : V}, valAt H v p w → valAt H' v p w
  | [], v, w, h => h
  | .f _ x :: p, v, w, h => by
    obtain ⟨a, C, dx, vs, u, rfl, h1, h2, h3⟩ := h
    exact ⟨a, C, dx, vs, u, rfl, e.eq h1 rfl, h2, valAt_same e h3⟩
  | .ix n :: p, v, w, h => by
    obtain ⟨a, vs, u, rfl, h1, h2, h3⟩ := h
    exact ⟨a, vs, u, rfl, e.eq h1 rfl, h2, valAt_same e h3⟩
theorem valAt_snocF {H : Hp} {cs : List Str} {x : Str} {a C dx : Addr} {vs : List (Str × V)} {u : V} (h1 : H a = some (.ins C dx vs)) (h2 : vs.lookup x = some u) : ∀ {p : List Stp} {v : V}, valAt H v p (.ref a) → valAt H v (p ++ [.f cs x]) u
  | [], v, h => by cases h; exact ⟨a, C, dx, vs, u, rfl, h1, h2, rfl⟩
  | .f _ y :: p, v, h => by
    obtain ⟨b, D, dy, ws, z, rfl, k1, k2, k3⟩ := h
    exact ⟨b, D, dy, ws, z, rfl, k1, k2, valAt_snocF h1 h2 k3⟩
  | .ix n :: p, v, h => by
    obtain ⟨b, ws, z, rfl, k1, k2, k3⟩ := h
    exact ⟨b, ws, z, rfl, k1, k2, valAt_snocF h1 h2 k3⟩
theorem valAt_snocI {H : Hp} {n : Nat} {a : Addr} {vs : List V} {u : V} (h1 : H a = some (.lst vs)) (h2 : vs[n]? = some u) : ∀ {p : List Stp} {v : V}, valAt H v p (.ref a) → valAt H v (p ++ [.ix n]) u
  | [], v, h => by cases h; exact ⟨a, vs, u, rfl, h1, h2, rfl⟩
  | .f _ y :: p, v, h => by
    obtain ⟨b, D, dy, ws, z, rfl, k1, k2, k3⟩ := h
    exact ⟨b, D, dy, ws, z, rfl, k1, k2, valAt_snocI h1 h2 k3⟩
  | .ix n :: p, v, h => by
    obtain ⟨b, ws, z, rfl, k1, k2, k3⟩ := h
    exact ⟨b, ws, z, rfl, k1, k2, valAt_snocI h1 h2 k3⟩
theorem get_snoc (s : Stp) : ∀ (p : List Stp) (o : O), O.get (p ++ [s]) o = (O.get p o).bind (O.stp s)
  | [], o => by simp [O.get]
  | t :: p, o => by simp only [List.cons_append, O.get]; cases o.stp t <;> simp [get_snoc s p]
/-! ### a part of an owned thing -/
structure Foc (G : Gx) (B H : Hp) (p : List Stp) (o : O) (v : V) (own : List Addr) (o1 : O) (v1 : V) (own1 : List Addr) : Prop where
  rep : RepO G B H o1 v1 own1
  sub : own1.Sublist own
  val : valAt H v p v1
  put : ∀ H' o2 o', own.Nodup → RepO G B H' o2 v1 own1 → (∀ b, b ∉ own1 → H' b = H b) → O.put p o2 o = some o' → RepO G B H' o' v own
theorem RepOFs.foc {G : Gx} {B H : Hp} {x : Str} : ∀ {fs : List (Str × O)} {vs : List (Str × V)} {own : List Addr} {o : O}, RepOFs G B H fs vs own → fs.lookup x = some o →
    ∃ v o1, vs.lookup x = some v ∧ RepO G B H o v o1 ∧ o1.Sublist own ∧ ∀ H' o2, own.Nodup → RepO G B H' o2 v o1 → (∀ b, b ∉ o1 → H' b = H b) → RepOFs G B H' (repF x o2 fs) vs own
  | [], vs, own, o, h, e => by simp at e
  | (k, y) :: fs, vs, own, o, h, e => by
    simp only [RepOFs] at h
    obtain ⟨v, r, o1, o2, rfl, rfl, h1, h2⟩ := h
    simp only [List.lookup_cons] at e
    cases q : x == k with
    | true =>
      rw [q] at e; cases e
      refine ⟨v, o1, by simp [List.lookup_cons, q], h1, List.sublist_append_left _ _, fun H' n nd rn fr => ?_⟩
      have dj := (List.nodup_append.mp nd).2.2
      simp only [repF, q, if_true]
      exact ⟨v, r, o1, o2, rfl, rfl, rn, h2.frame (.refl _) fun b hb => fr b fun z => dj b z b hb rfl⟩
    | false =>
      rw [q] at e
      obtain ⟨w, o3, k1, k2, k3, k4⟩ := RepOFs.foc h2 e
      refine ⟨w, o3, by simp [List.lookup_cons, q, k1], k2, k3.trans (List.sublist_append_right _ _), fun H' n nd rn fr => ?_⟩
      have dj := (List.nodup_append.mp nd).2.2
      simp only [repF, q, Bool.false_eq_true, if_false]
      exact ⟨v, r, o1, o2, rfl, rfl, h1.frame (.refl _) fun b hb => fr b fun z => dj b hb b (k3.subset z) rfl, k4 H' n (List.nodup_append.mp nd).2.1 rn fr⟩
theorem RepOs.foc {G : Gx} {B H : Hp} : ∀ {os : List O} {vs : List V} {own : List Addr} {n : Nat} {o : O}, RepOs G B H os vs own → os[n]? = some o →
    ∃ v o1, vs[n]? = some v ∧ RepO G B H o v o1 ∧ o1.Sublist own ∧ ∀ H' o2, own.Nodup → RepO G B H' o2 v o1 → (∀ b, b ∉ o1 → H' b = H b) → RepOs G B H' (os.set n o2) vs own
  | [], vs, own, n, o, h, e => by simp at e
  | y :: os, vs, own, 0, o, h, e => by
    simp only [RepOs] at h
    obtain ⟨v, r, o1, o2, rfl, rfl, h1, h2⟩ := h
    simp at e; subst e
    refine ⟨v, o1, by simp, h1, List.sublist_append_left _ _, fun H' n nd rn fr => ?_⟩
    have dj := (List.nodup_append.mp nd).2.2
    exact ⟨v, r, o1, o2, rfl, rfl, rn, h2.frame (.refl _) fun b hb => fr b fun z => dj b z b hb rfl⟩
  | y :: os, vs, own, n + 1, o, h, e => by
    simp only [RepOs] at h
    obtain ⟨v, r, o1, o2, rfl, rfl, h1, h2⟩ := h
    obtain ⟨w, o3, k1, k2, k3, k4⟩ := RepOs.foc (n := n) h2 (by simpa using e)
    refine ⟨w, o3, by simpa using k1, k2, k3.trans (List.sublist_append_right _ _), fun H' n nd rn fr => ?_⟩
    have dj := (List.nodup_append.mp nd).2.2
    exact ⟨v, r, o1, o2, rfl, rfl, h1.frame (.refl _) fun b hb => fr b fun z => dj b hb b (k3.subset z) rfl, k4 H' n (List.nodup_append.mp nd).2.1 rn fr⟩
theorem RepO.foc {G : Gx} {B H : Hp} (sub : Same B H) : ∀ {p : List Stp} {o : O} {v : V} {own : List Addr} {o1 : O}, RepO G B H o v own → O.get p o = some o1 → ∃ v1 own1, Foc G B H p o v own o1 v1 own1
  | [], o, v, own, o1, h, e => by
    simp only [O.get, Option.some.injEq] at e; subst e
    exact ⟨v, own, h, List.Sublist.refl _, rfl, fun H' o2 o' _ rn _ e => by simp only [O.put, Option.some.injEq] at e; subst e; exact rn⟩
  | .f cs x :: p, .ob c fs, v, own, o1, h, e => by
    simp only [O.get] at e
    obtain ⟨om, e1, e2⟩ := Option.bind_eq_some_iff.mp e
    simp only [O.stp] at e1
    obtain ⟨hc, e1⟩ : c ∈ cs ∧ fs.lookup x = some om := by
      split at e1
      · exact ⟨by assumption, e1⟩
      · cases e1
    simp only [RepO] at h
    obtain ⟨a, C, dx, vs, ow, rfl, rfl, h1, h2, h3⟩ := h
    obtain ⟨u, o2, k1, k2, k3, k4⟩ := h3.foc e1
    obtain ⟨v1, own1, F⟩ := RepO.foc sub k2 e2
    refine ⟨v1, own1, F.rep, (F.sub.trans k3).trans (List.sublist_cons_self _ _), ⟨a, C, dx, vs, u, rfl, h2, k1, F.val⟩, fun H' n o' nd rn fr ep => ?_⟩
    have nd2 := (List.nodup_cons.mp nd).2
    have na : a ∉ o2 := fun z => (List.nodup_cons.mp nd).1 (k3.subset z)
    simp only [O.put, O.stp, if_pos hc, e1, Option.bind_some, O.stpPut] at ep
    obtain ⟨o9, f1, f2⟩ := Option.bind_eq_some_iff.mp ep
    cases f2
    have f2 := F.put H' n o9 (nd2.sublist k3) rn fr f1
    have fr2 : ∀ b, b ∉ o2 → H' b = H b := fun b hb => fr b fun z => hb (F.sub.subset z)
    exact ⟨a, C, dx, vs, ow, rfl, rfl, h1, (fr2 a na).trans h2, k4 H' o9 nd2 f2 fr2⟩
  | .f cs x :: p, .fz (.obj c fs), v, own, o1, h, e => by
    simp only [O.get] at e
    obtain ⟨om, e1, e2⟩ := Option.bind_eq_some_iff.mp e
    simp only [O.stp] at e1
    obtain ⟨hc, e1⟩ : c ∈ cs ∧ (fs.lookup x).map O.fz = some om := by
      split at e1
      · exact ⟨by assumption, e1⟩
      · cases e1
    obtain ⟨d, e3, rfl⟩ := Option.map_eq_some_iff.mp e1
    simp only [RepO, RepD] at h
    obtain ⟨rfl, a, C, dx, vs, rfl, h1, h2, h3⟩ := h
    obtain ⟨u, k1, k2⟩ := RepFs.look h3 e3
    obtain ⟨v1, own1, F⟩ := RepO.foc sub (o := .fz d) (own := []) ⟨rfl, k2⟩ e2
    refine ⟨v1, own1, F.rep, F.sub, ⟨a, C, dx, vs, u, rfl, sub.eq h2 rfl, k1, F.val⟩, fun H' n o' nd rn fr ep => ?_⟩
    simp only [O.put, O.stp, if_pos hc, e3, Option.map_some, Option.bind_some, O.stpPut] at ep
    obtain ⟨o9, f1, f2⟩ := Option.bind_eq_some_iff.mp ep
    cases f2
  | .ix n :: p, .ns os, v, own, o1, h, e => by
    simp only [O.get] at e
    obtain ⟨om, e1, e2⟩ := Option.bind_eq_some_iff.mp e
    simp only [O.stp] at e1
    simp only [RepO] at h
    obtain ⟨a, vs, ow, rfl, rfl, h2, h3⟩ := h
    obtain ⟨u, o2, k1, k2, k3, k4⟩ := h3.foc e1
    obtain ⟨v1, own1, F⟩ := RepO.foc sub k2 e2
    refine ⟨v1, own1, F.rep, (F.sub.trans k3).trans (List.sublist_cons_self _ _), ⟨a, vs, u, rfl, h2, k1, F.val⟩, fun H' n o' nd rn fr ep => ?_⟩
    have nd2 := (List.nodup_cons.mp nd).2
    have na : a ∉ o2 := fun z => (List.nodup_cons.mp nd).1 (k3.subset z)
    simp only [O.put, O.stp, e1, Option.bind_some, O.stpPut] at ep
    obtain ⟨o9, f1, f2⟩ := Option.bind_eq_some_iff.mp ep
    cases f2
    have f2 := F.put H' n o9 (nd2.sublist k3) rn fr f1
    have fr2 : ∀ b, b ∉ o2 → H' b = H b := fun b hb => fr b fun z => hb (F.sub.subset z)
    exact ⟨a, vs, ow, rfl, rfl, (fr2 a na).trans h2, k4 H' o9 nd2 f2 fr2⟩
  | .ix n :: p, .ls ds, v, own, o1, h, e => by
    simp only [O.get] at e
    obtain ⟨om, e1, e2⟩ := Option.bind_eq_some_iff.mp e
    simp only [O.stp] at e1
    obtain ⟨d, e3, rfl⟩ := Option.map_eq_some_iff.mp e1
    simp only [RepO] at h
    obtain ⟨a, vs, rfl, rfl, h2, h3⟩ := h
    obtain ⟨u, k1, k2⟩ := h3.get e3
    obtain ⟨v1, own1, F⟩ := RepO.foc sub (o := .fz d) (own := []) ⟨rfl, k2⟩ e2
    refine ⟨v1, own1, F.rep, F.sub.trans (List.nil_sublist _), ⟨a, vs, u, rfl, h2, k1, F.val⟩, fun H' n o' nd rn fr ep => ?_⟩
    simp only [O.put, O.stp, e3, Option.map_some, Option.bind_some, O.stpPut] at ep
    obtain ⟨o9, f1, f2⟩ := Option.bind_eq_some_iff.mp ep
    cases f2
  | .ix n :: p, .fz (.lst ds), v, own, o1, h, e => by
    simp only [O.get] at e
    obtain ⟨om, e1, e2⟩ := Option.bind_eq_some_iff.mp e
    simp only [O.stp] at e1
    obtain ⟨d, e3, rfl⟩ := Option.map_eq_some_iff.mp e1
    simp only [RepO, RepD] at h
    obtain ⟨rfl, a, vs, rfl, h2, h3⟩ := h
    obtain ⟨u, k1, k2⟩ := h3.get e3
    obtain ⟨v1, own1, F⟩ := RepO.foc sub (o := .fz d) (own := []) ⟨rfl, k2⟩ e2
    refine ⟨v1, own1, F.rep, F.sub, ⟨a, vs, u, rfl, sub.eq h2 rfl, k1, F.val⟩, fun H' n o' nd rn fr ep => ?_⟩
    simp only [O.put, O.stp, e3, Option.map_some, Option.bind_some, O.stpPut] at ep
    obtain ⟨o9, f1, f2⟩ := Option.bind_eq_some_iff.mp ep
    cases f2
  | .f _ _ :: p, .ls _, v, own, o1, h, e => by simp [O.get, O.stp] at e
  | .f _ _ :: p, .ns _, v, own, o1, h, e => by simp [O.get, O.stp] at e
  | .f _ _ :: p, .dc _, v, own, o1, h, e => by simp [O.get, O.stp] at e
  | .f _ _ :: p, .fz .non, v, own, o1, h, e => by simp [O.get, O.stp] at e
  | .f _ _ :: p, .fz (.bl _), v, own, o1, h, e => by simp [O.get, O.stp] at e
  | .f _ _ :: p, .fz (.int _), v, own, o1, h, e => by simp [O.get, O.stp] at e
  | .f _ _ :: p, .fz (.str _), v, own, o1, h, e => by simp [O.get, O.stp] at e
  | .f _ _ :: p, .fz (.tup _), v, own, o1, h, e => by simp [O.get, O.stp] at e
  | .f _ _ :: p, .fz (.lst _), v, own, o1, h, e => by simp [O.get, O.stp] at e
  | .f _ _ :: p, .fz (.dic _), v, own, o1, h, e => by simp [O.get, O.stp] at e
  | .f _ _ :: p, .fz (.scr _), v, own, o1, h, e => by simp [O.get, O.stp] at e
  | .ix _ :: p, .ob _ _, v, own, o1, h, e => by simp [O.get, O.stp] at e
  | .ix _ :: p, .dc _, v, own, o1, h, e => by simp [O.get, O.stp] at e
  | .ix _ :: p, .fz .non, v, own, o1, h, e => by simp [O.get, O.stp] at e
  | .ix _ :: p, .fz (.bl _), v, own, o1, h, e => by simp [O.get, O.stp] at e
  | .ix _ :: p, .fz (.int _), v, own, o1, h, e => by simp [O.get, O.stp] at e
  | .ix _ :: p, .fz (.str _), v, own, o1, h, e => by simp [O.get, O.stp] at e
  | .ix _ :: p, .fz (.tup _), v, own, o1, h, e => by simp [O.get, O.stp] at e
  | .ix _ :: p, .fz (.obj _ _), v, own, o1, h, e => by simp [O.get, O.stp] at e
  | .ix _ :: p, .fz (.dic _), v, own, o1, h, e => by simp [O.get, O.stp] at e
  | .ix _ :: p, .fz (.scr _), v, own, o1, h, e => by simp [O.get, O.stp] at e
mutual
theorem RepO.own_eq {G : Gx} {B H : Hp} : ∀ {o : O} {v : V} {a b : List Addr}, RepO G B H o v a → RepO G B H o v b → a = b
  | .fz d, v, a, b, h, k => by simp only [RepO] at h k; rw [h.1, k.1]
  | .ls ds, v, a, b, h, k => by
    simp only [RepO] at h k
    obtain ⟨x, vs, rfl, rfl, _⟩ := h
    obtain ⟨y, ws, e, rfl, _⟩ := k
    cases e; rfl
  | .dc ds, v, a, b, h, k => by
    simp only [RepO] at h k
    obtain ⟨x, vs, rfl, rfl, _⟩ := h
    obtain ⟨y, ws, e, rfl, _⟩ := k
    cases e; rfl
  | .ns os, v, a, b, h, k => by
    simp only [RepO] at h k
    obtain ⟨x, vs, ow, rfl, rfl, h1, h2⟩ := h
    obtain ⟨y, ws, ow2, e, rfl, k1, k2⟩ := k
    cases e
    rw [h1] at k1; cases k1
    rw [RepOs.own_eq h2 k2]
  | .ob c fs, v, a, b, h, k => by
    simp only [RepO] at h k
    obtain ⟨x, C, dx, vs, ow, rfl, rfl, _, h1, h2⟩ := h
    obtain ⟨y, C', dx', ws, ow2, e, rfl, _, k1, k2⟩ := k
    cases e
    rw [h1] at k1; cases k1
    rw [RepOFs.own_eq h2 k2]
theorem RepOs.own_eq {G : Gx} {B H : Hp} : ∀ {os : List O} {vs : List V} {a b : List Addr}, RepOs G B H os vs a → RepOs G B H os vs b → a = b
  | [], vs, a, b, h, k => by simp only [RepOs] at h k; rw [h.2, k.2]
  | o :: os, vs, a, b, h, k => by
    simp only [RepOs] at h k
    obtain ⟨v, r, o1, o2, rfl, rfl, h1, h2⟩ := h
    obtain ⟨w, t, p1, p2, e, rfl, k1, k2⟩ := k
    cases e
    rw [RepO.own_eq h1 k1, RepOs.own_eq h2 k2]
theorem RepOFs.own_eq {G : Gx} {B H : Hp} : ∀ {os : List (Str × O)} {vs : List (Str × V)} {a b : List Addr}, RepOFs G B H os vs a → RepOFs G B H os vs b → a = b
  | [], vs, a, b, h, k => by simp only [RepOFs] at h k; rw [h.2, k.2]
  | (f, o) :: os, vs, a, b, h, k => by
    simp only [RepOFs] at h k
    obtain ⟨v, r, o1, o2, rfl, rfl, h1, h2⟩ := h
    obtain ⟨w, t, p1, p2, e, rfl, k1, k2⟩ := k
    cases e
    rw [RepO.own_eq h1 k1, RepOFs.own_eq h2 k2]
end
def getP (i : Nat) (p : List Stp) : NF := fun ρ => (ρ[i]?.join).bind (O.get p)
def putP (i : Nat) (p : List Stp) (n : O) (ρ : Ev) : Option Ev := (ρ[i]?.join).bind fun o => (O.put p n o).map fun o' => ρ.set i (some o')
/-- the thing at the end of a way is changed in its place -/
theorem Rel.changeP {G : Gx} {B H H' : Hp} {σ : L2.St} {ρ ρ2 : Ev} {As : List Addr} {i : Nat} {p : List Stp} {o1 o2 : O} (R : Rel G B H σ ρ As) (q : getP i p ρ = some o1) (q2 : putP i p o2 ρ = some ρ2)
    (f : ∀ v1 own1, (∃ v, σ[i]? = some (some v) ∧ valAt H v p v1) → RepO G B H o1 v1 own1 → own1.Nodup → RepO G B H' o2 v1 own1 ∧ (∀ b, b ∉ own1 → H' b = H b) ∧ (∀ b ∈ own1, H' b ≠ none)) :
    ∃ As2, Rel G B H' σ ρ2 As2 ∧ Step B H As B H' As2 := by
  obtain ⟨o, e1, e2⟩ := Option.bind_eq_some_iff.mp q
  have e1 := join_some e1
  obtain ⟨v, own, As1, h1, h2, h3, h4⟩ := R.env.out e1
  obtain ⟨v1, own1, F⟩ := h2.foc R.sub e2
  have nd : own.Nodup := (List.nodup_append.mp (h4.symm.nodup R.nd)).1
  obtain ⟨f1, f2, f3⟩ := f v1 own1 ⟨v, h1, F.val⟩ F.rep (nd.sublist F.sub)
  obtain ⟨o', g1, rfl⟩ : ∃ o', O.put p o2 o = some o' ∧ ρ.set i (some o') = ρ2 := by
    unfold putP at q2
    rw [e1] at q2
    simpa using q2
  have g2 := F.put H' o2 o' nd f1 f2 g1
  refine R.change (H' := H') (o2 := o') e1 fun w ow c1 c2 c3 => ?_
  rw [h1] at c1; cases c1
  have : ow = own := RepO.own_eq c2 h2
  subst this
  exact ⟨g2, fun b hb => f2 b fun z => hb (F.sub.subset z), fun b hb => by
    by_cases z : b ∈ own1
    · exact f3 b z
    · rw [f2 b z]; exact (R.ap b (c3 b hb)).2⟩
end Q

namespace Q
open PySem PySem.Spec PyProof.Rows L2
/-! ### expressions that lead into a slot -/
def tAt (G : Gx) (i : Nat) (p : List Stp) : TE := fun σ H Q => ∃ ρ B As o1, Rel G B H σ ρ As ∧ getP i p ρ = some o1 ∧ ∀ v B' H', Grow B H B' H' → (∃ v0, σ[i]? = some (some v0) ∧ valAt H' v0 p v) → Q v H'
abbrev QAt (X : Cx) (e : Expr) (i : Nat) (p : List Stp) : Prop := PE X e (tAt (gx X) i p)
/-- what stands there -/
theorem Rel.at {G : Gx} {B H : Hp} {σ : L2.St} {ρ : Ev} {As : List Addr} {i : Nat} {p : List Stp} {o1 : O} {v v0 : V} (R : Rel G B H σ ρ As) (q : getP i p ρ = some o1) (h0 : σ[i]? = some (some v0)) (hv : valAt H v0 p v) : ∃ own1, RepO G B H o1 v own1 ∧ ∀ a ∈ own1, a ∈ As := by
  obtain ⟨o, e1, e2⟩ := Option.bind_eq_some_iff.mp q
  obtain ⟨w, own, As1, h1, h2, h3, h4⟩ := R.env.out (join_some e1)
  rw [h0] at h1; cases h1
  obtain ⟨v1, own1, F⟩ := h2.foc R.sub e2
  cases valAt_one hv F.val
  exact ⟨own1, F.rep, fun a h => h4.mem_iff.mp (List.mem_append_left _ (F.sub.subset h))⟩
theorem getP_snoc {i : Nat} {p : List Stp} {s : Stp} {ρ : Ev} {o1 : O} (h : getP i (p ++ [s]) ρ = some o1) : ∃ o, getP i p ρ = some o ∧ o.stp s = some o1 := by
  obtain ⟨o, e1, e2⟩ := Option.bind_eq_some_iff.mp h
  rw [get_snoc] at e2
  obtain ⟨o2, e3, e4⟩ := Option.bind_eq_some_iff.mp e2
  exact ⟨o2, by simp [getP, e1, e3], e4⟩
section ways
variable {X : Cx} {π : List Bool} {e : Expr} {i : Nat} {p : List Stp} {pos : Pos}
theorem qat_var {x : Str} (hN : X.N[i]? = some x := by rfl) (hv : Vis X.env.scope x := by first | exact Or.inl rfl | exact Or.inr (Or.inl rfl) | exact Or.inr (Or.inr rfl)) (hd : (x == ("__debug__" : Str)) = false := by decide)
    (hcd : (x == ("__classdict__" : Str)) = false := by decide) : QAt X (.Name x pos) i [] := pe_imp (pe_var (i := i) hN hv hd hcd) fun σ H Q ⟨ρ, B, As, o1, R, e1, k⟩ => by
  obtain ⟨o, e2, e3⟩ := Option.bind_eq_some_iff.mp e1
  obtain ⟨v, own, As1, h1, h2, _, _⟩ := R.env.out (join_some e2)
  exact ⟨v, h1, k v B H (.refl R.sub) ⟨v, h1, rfl⟩⟩
theorem stp_fld {G : Gx} {B H : Hp} (sub : Same B H) {cs : List Str} {f : Str} {o o1 : O} {v : V} {own : List Addr} (r : RepO G B H o v own) (e : O.stp (.f cs f) o = some o1) :
    ∃ c a C dx vs u, c ∈ cs ∧ v = .ref a ∧ G.mg c = some (.ref C) ∧ H a = some (.ins C dx vs) ∧ vs.lookup f = some u := by
  match o, r, e with
  | .ob c fs, r, e =>
    simp only [O.stp] at e
    split at e
    case isFalse => cases e
    rename_i hm
    simp only [RepO] at r
    obtain ⟨a, C, dx, vs, ow, rfl, rfl, hC, ha, hf⟩ := r
    obtain ⟨u, ou, l, _⟩ := hf.foc e
    exact ⟨c, a, C, dx, vs, u, hm, rfl, hC, ha, l⟩
  | .fz (.obj c fs), r, e =>
    simp only [O.stp] at e
    split at e
    case isFalse => cases e
    rename_i hm
    obtain ⟨d, e3, rfl⟩ := Option.map_eq_some_iff.mp e
    simp only [RepO, RepD] at r
    obtain ⟨rfl, a, C, dx, vs, rfl, hC, ha, hf⟩ := r
    obtain ⟨u, l, _⟩ := RepFs.look hf e3
    exact ⟨c, a, C, dx, vs, u, hm, rfl, hC, sub.eq ha rfl, l⟩
  | .ls _, r, e => simp [O.stp] at e
  | .ns _, r, e => simp [O.stp] at e
  | .dc _, r, e => simp [O.stp] at e
  | .fz .non, r, e => simp [O.stp] at e
  | .fz (.bl _), r, e => simp [O.stp] at e
  | .fz (.int _), r, e => simp [O.stp] at e
  | .fz (.str _), r, e => simp [O.stp] at e
  | .fz (.tup _), r, e => simp [O.stp] at e
  | .fz (.lst _), r, e => simp [O.stp] at e
  | .fz (.dic _), r, e => simp [O.stp] at e
  | .fz (.scr _), r, e => simp [O.stp] at e
theorem stp_ix {G : Gx} {B H : Hp} (sub : Same B H) {n : Nat} {o o1 : O} {v : V} {own : List Addr} (r : RepO G B H o v own) (e : O.stp (.ix n) o = some o1) : ∃ a vs u, v = .ref a ∧ H a = some (.lst vs) ∧ vs[n]? = some u := by
  match o, r, e with
  | .ns os, r, e =>
    simp only [O.stp] at e
    simp only [RepO] at r
    obtain ⟨a, vs, ow, rfl, rfl, ha, hf⟩ := r
    obtain ⟨u, ou, l, _⟩ := hf.foc e
    exact ⟨a, vs, u, rfl, ha, l⟩
  | .ls ds, r, e =>
    simp only [O.stp] at e
    obtain ⟨d, e3, rfl⟩ := Option.map_eq_some_iff.mp e
    simp only [RepO] at r
    obtain ⟨a, vs, rfl, rfl, ha, hf⟩ := r
    obtain ⟨u, l, _⟩ := hf.get e3
    exact ⟨a, vs, u, rfl, ha, l⟩
  | .fz (.lst ds), r, e =>
    simp only [O.stp] at e
    obtain ⟨d, e3, rfl⟩ := Option.map_eq_some_iff.mp e
    simp only [RepO, RepD] at r
    obtain ⟨rfl, a, vs, rfl, ha, hf⟩ := r
    obtain ⟨u, l, _⟩ := hf.get e3
    exact ⟨a, vs, u, rfl, sub.eq ha rfl, l⟩
  | .ob _ _, r, e => simp [O.stp] at e
  | .dc _, r, e => simp [O.stp] at e
  | .fz .non, r, e => simp [O.stp] at e
  | .fz (.bl _), r, e => simp [O.stp] at e
  | .fz (.int _), r, e => simp [O.stp] at e
  | .fz (.str _), r, e => simp [O.stp] at e
  | .fz (.tup _), r, e => simp [O.stp] at e
  | .fz (.obj _ _), r, e => simp [O.stp] at e
  | .fz (.dic _), r, e => simp [O.stp] at e
  | .fz (.scr _), r, e => simp [O.stp] at e
theorem qat_fld {cs : List Str} {f : Str} (hc : ∀ c ∈ cs, AtF X.K X.mg c f) (h : QAt X e i p) (hb : attributeBase e f X.env (eval e X.env) = eval e X.env := by rfl) : QAt X (.Attribute e f pos) i (p ++ [.f cs f]) :=
  pe_imp (pe_fld h hb) fun σ H Q ⟨ρ, B, As, o1, R, e1, k⟩ => by
    obtain ⟨o, e2, e3⟩ := getP_snoc e1
    refine ⟨ρ, B, As, o, R, e2, fun v B1 H1 g1 ⟨v0, h0, hv⟩ => ?_⟩
    obtain ⟨own1, r1, _⟩ := (R.grow g1).at e2 h0 hv
    obtain ⟨c, a, C, dx, vs, u, hm, rfl, hC, ha, l⟩ := stp_fld g1.sub r1 e3
    obtain ⟨C', m1, m2, m3⟩ := (hc c hm).ex
    have : C' = C := by rw [show (gx X).mg c = X.mg c from rfl, m1] at hC; cases hC; rfl
    subst this
    exact ⟨a, C', dx, vs, u, rfl, ha, m2, m3, l, k u B1 H1 g1 ⟨v0, h0, valAt_snocF ha l hv⟩⟩
theorem qat_ix {n j : Nat} {q : Pos} (h : QAt X e i p) (hs : PlainIx (.Constant (.int (n : Int)) j q) := by exact fun _ _ => rfl) : QAt X (.Subscript e (.Constant (.int (n : Int)) j q) pos) i (p ++ [.ix n]) :=
  pe_imp (pe_ix ix_list h pe_int hs) fun σ H Q ⟨ρ, B, As, o1, R, e1, k⟩ => by
    obtain ⟨o, e2, e3⟩ := getP_snoc e1
    refine ⟨ρ, B, As, o, R, e2, fun v B1 H1 g1 ⟨v0, h0, hv⟩ => ?_⟩
    obtain ⟨own1, r1, _⟩ := (R.grow g1).at e2 h0 hv
    obtain ⟨a, vs, u, rfl, ha, l⟩ := stp_ix g1.sub r1 e3
    exact ⟨a, vs, n, u, rfl, rfl, SqL.of ha, by rw [atI_nonneg (by omega)]; simpa using l, k u B1 H1 g1 ⟨v0, h0, valAt_snocI ha l hv⟩⟩
theorem QAt.toP (h : QAt X e i p) : QP X e (getP i p) := pe_imp h fun σ H Q ⟨ρ, B, As, o1, R, e1, k⟩ => by
  refine ⟨ρ, B, As, o1, R, e1, fun v B1 H1 g1 ⟨v0, h0, hv⟩ => ?_⟩
  obtain ⟨own1, r1, _⟩ := (R.grow g1).at e1 h0 hv
  exact k v B1 H1 own1 g1 r1
/-! ### changes at the end of a way -/
def appP (i : Nat) (p : List Stp) (g : PF) : SF := fun ρ => (getP i p ρ).bind fun o => match o with
  | .ls ds => (g ρ).bind fun d => if ds.length < sizeLine then (putP i p (.ls (ds ++ [d])) ρ).map fun ρ' => (.nx, ρ') else none
  | _ => none
theorem qs_appP {b e : Expr} {g : PF} {p2 p3 p4 : Pos} (hb : QAt X b i p) (h : QD X e g)
    (hbase : attributeBase b "append" X.env (eval b X.env) = eval b X.env := by rfl)
    (hfew : ((backTo p3 (starEach (e :: []) X.env)).all (fun x => !x.1) && (backToKw p3 (keywordEach [] X.env)).all (fun x => x.1.isSome)
      && decide ((e :: []).length + ([] : List Keyword).length + (if ([] : List Keyword).isEmpty then 0 else 1) < 30)) = true := by rfl)
    (hline : (p2.endLine == p3.line) = true := by rfl) (hs : starEach (e :: []) X.env = (false, eval e X.env) :: starEach [] X.env := by rfl) (hplain : (backTo p3 (starEach [] X.env)).any (·.1) = false := by rfl)
    (hsw : swapsWith (.Call (.Attribute b "append" p2) [e] [] p3) none p4.line X.env = pure false := by rfl) :
    QS X π (.Expr (.Call (.Attribute b "append" p2) [e] [] p3) p4) (appP i p g) :=
  ps_imp (ps_expr (pe_bm PySem.F.plainAttrs_list PySem.F.slot_list_append PySem.F.type_list_append mt_append hb (pa_cons h pa_nil hs) hbase hfew hline hs hplain) hsw) fun Dn σ H ⟨ρ, B, As, out, ρ', R, e, pp⟩ => by
  obtain ⟨o, q0, e⟩ := Option.bind_eq_some_iff.mp e
  cases o <;> simp only [reduceCtorEq] at e
  rename_i ds
  obtain ⟨d, e1, e⟩ := Option.bind_eq_some_iff.mp e
  split at e
  case isFalse => cases e
  rename_i hz
  obtain ⟨ρ2, e2, e3⟩ := Option.map_eq_some_iff.mp e
  cases e3
  refine ⟨ρ, B, As, _, R, q0, fun v B1 H1 g1 ⟨v0, h0, hv⟩ => ?_⟩
  obtain ⟨own1, r1, _⟩ := (R.grow g1).at q0 h0 hv
  simp only [RepO] at r1
  obtain ⟨l, vs0, rfl, rfl, a3, a4⟩ := r1
  refine ⟨Or.inl ⟨rfl, vs0, SqL.of a3⟩, ρ, B1, As, d, R.grow g1, e1, fun w B2 H2 g2 rw => ?_⟩
  have R2 := (R.grow g1).grow g2
  have hl : H2 l = some (.lst vs0) := g2.hh.eq a3 rfl
  have b4 := a4.mono g2.bb
  obtain ⟨As3, R3, s3⟩ := R2.changeP (H' := upd H2 l (.lst (vs0 ++ [w]))) (o2 := .ls (ds ++ [d])) q0 e2 fun w1 ow1 ⟨w0, c1, c2⟩ c3 _ => by
    rw [h0] at c1; cases c1
    have : w1 = .ref l := valAt_one c2 (valAt_same g2.hh hv)
    subst this
    simp only [RepO] at c3
    obtain ⟨l2, vs2, e4, rfl, c4, c5⟩ := c3
    cases e4
    refine ⟨⟨l, vs0 ++ [w], rfl, rfl, upd_same, b4.append (RepDs.one rw)⟩, fun b hb => upd_ne (by simpa using hb), fun b hb => ?_⟩
    obtain rfl : b = l := by simpa using hb
    rw [upd_same]; simp
  exact ⟨l, vs0, w, rfl, rfl, hl, by rw [a4.length]; exact hz, pp σ _ _ As3 (((g1.trans g2).step As).trans s3) R3 .refl⟩
/-- an element stored -/
def O.sto : O → D → D → Option O
  | .ls ds, .int j, d => (L2.ixN ds.length j).map fun n => .ls (ds.set n d)
  | .ns os, .int j, d => (L2.ixN os.length j).bind fun n => match os[n]? with
    | some (.fz _) => some (.ns (os.set n (.fz d)))
    | _ => none
  | _, _, _ => none
theorem RepOs.setFz {G : Gx} {B H H' : Hp} {d : D} {v : V} (r : RepD G B d v) : ∀ {os : List O} {vs : List V} {own : List Addr} {n : Nat} {d0 : D}, RepOs G B H os vs own → os[n]? = some (.fz d0) → (∀ a ∈ own, H' a = H a) → RepOs G B H' (os.set n (.fz d)) (vs.set n v) own
  | [], vs, own, n, d0, h, e, k => by simp at e
  | o :: os, vs, own, 0, d0, h, e, k => by
    simp only [RepOs] at h
    obtain ⟨w, t, o1, o2, rfl, rfl, h1, h2⟩ := h
    simp at e; subst e
    simp only [RepO] at h1
    obtain ⟨rfl, h1⟩ := h1
    exact ⟨v, t, [], o2, rfl, rfl, ⟨rfl, r⟩, h2.frame (.refl _) fun a h => k a (by simpa using h)⟩
  | o :: os, vs, own, n + 1, d0, h, e, k => by
    simp only [RepOs] at h
    obtain ⟨w, t, o1, o2, rfl, rfl, h1, h2⟩ := h
    exact ⟨w, t.set n v, o1, o2, rfl, rfl, h1.frame (.refl _) fun a h => k a (List.mem_append_left _ h), RepOs.setFz r (n := n) h2 (by simpa using e) fun a h => k a (List.mem_append_right _ h)⟩
def stoP (i : Nat) (p : List Stp) (gi : PF) (g : EF) : SF := fun ρ => (g ρ).bind fun r => (getP i p r.2).bind fun o => (gi r.2).bind fun k => (O.sto o k r.1.fr).bind fun o2 => (putP i p o2 r.2).map fun ρ' => (.nx, ρ')
theorem qs_stoP {b ei e : Expr} {g : EF} {gi : PF} {p2 : Pos} (h : QE X e g) (hb : QAt X b i p) (hi : QD X ei gi)
    (ha : ∀ v, assign (.Subscript b ei p2) X.env v = (do let ov ← holding [v] (eval b X.env); let iv ← holding [v, ov] (eval ei X.env); standAt p2; holding [v, ov, iv] (setItem ov iv v); release [v, ov, iv] []) := by intro _; rfl)
    (hs : swapsWithSole [.Subscript b ei p2] e pos.line X.env = pure false := by rfl) (hw : swappedStores [.Subscript b ei p2] e X.env = pure none := by rfl)
    (h1 : (assignEach [.Subscript b ei p2] X.env).map (·.2) = [assign (.Subscript b ei p2) X.env] := by rfl) :
    QS X π (.Assign [.Subscript b ei p2] e pos) (stoP i p gi g) :=
  ps_imp (ps_asg h (pg_sub hb hi set_list ha) hs hw h1) fun Dn σ H ⟨ρ, B, As, out, ρ', R, e, pp⟩ => by
  obtain ⟨⟨oe, ρ1⟩, e1, e⟩ := Option.bind_eq_some_iff.mp e
  obtain ⟨o, q1, e⟩ := Option.bind_eq_some_iff.mp e
  obtain ⟨k, e2, e⟩ := Option.bind_eq_some_iff.mp e
  obtain ⟨o2, e3, e⟩ := Option.bind_eq_some_iff.mp e
  obtain ⟨ρ2, e4, e5⟩ := Option.map_eq_some_iff.mp e
  cases e5
  refine ⟨ρ, B, As, oe, ρ1, R, e1, fun v B1 H1 As1 own s1 R1 ap => ?_⟩
  obtain ⟨s2, R2, rv⟩ := ap.freeze s1 R1
  refine ⟨ρ1, _, As1, o, R2, q1, fun l B3 H3 g3 ⟨v0, h0, hv⟩ => ⟨ρ1, B3, As1, k, R2.grow g3, e2, fun w B4 H4 g4 rw => ?_⟩⟩
  have R4 := (R2.grow g3).grow g4
  have hv4 := valAt_same g4.hh hv
  obtain ⟨own1, r4, _⟩ := R4.at q1 h0 hv4
  have rv4 := (rv.mono g3.bb).mono g4.bb
  match o, k, e3, q1, e2, rw, r4 with
  | .ls ds, .int j, e3, q1, e2, rw, r4 =>
    simp only [O.sto] at e3
    obtain ⟨n, e6, rfl⟩ := Option.map_eq_some_iff.mp e3
    simp only [RepD] at rw; subst rw
    simp only [RepO] at r4
    obtain ⟨a, vs, rfl, rfl, b3, b4⟩ := r4
    obtain ⟨As5, R5, s5⟩ := R4.changeP (H' := upd H4 a (.lst (vs.set n v))) (o2 := .ls (ds.set n oe.fr)) q1 e4 fun w1 ow1 ⟨w0, c1, c2⟩ c3 _ => by
      rw [h0] at c1; cases c1
      have : w1 = .ref a := valAt_one c2 hv4
      subst this
      simp only [RepO] at c3
      obtain ⟨l2, vs2, e7, rfl, c4, c5⟩ := c3
      cases e7
      refine ⟨⟨a, vs.set n v, rfl, rfl, upd_same, b4.set n rv4⟩, fun b hb => upd_ne (by simpa using hb), fun b hb => ?_⟩
      obtain rfl : b = a := by simpa using hb
      rw [upd_same]; simp
    exact ⟨a, vs, j, n, rfl, rfl, b3, by rw [b4.length]; exact e6, pp σ _ _ As5 ((s2.trans ((g3.trans g4).step As1)).trans s5) R5 .refl⟩
  | .ns os, .int j, e3, q1, e2, rw, r4 =>
    simp only [O.sto] at e3
    obtain ⟨n, e6, e7⟩ := Option.bind_eq_some_iff.mp e3
    split at e7
    case h_2 => cases e7
    rename_i d0 hn
    cases e7
    simp only [RepD] at rw; subst rw
    simp only [RepO] at r4
    obtain ⟨a, vs, ow, rfl, rfl, b3, b4⟩ := r4
    obtain ⟨As5, R5, s5⟩ := R4.changeP (H' := upd H4 a (.lst (vs.set n v))) (o2 := .ns (os.set n (.fz oe.fr))) q1 e4 fun w1 ow1 ⟨w0, c1, c2⟩ c3 nd9 => by
      rw [h0] at c1; cases c1
      have : w1 = .ref a := valAt_one c2 hv4
      subst this
      simp only [RepO] at c3
      obtain ⟨l2, vs2, ow2, e7, rfl, c4, c5⟩ := c3
      cases e7
      rw [b3] at c4; cases c4
      have na : ∀ b ∈ ow2, b ≠ a := fun b hb z => (List.nodup_cons.mp nd9).1 (z ▸ hb)
      refine ⟨⟨a, vs.set n v, ow2, rfl, rfl, upd_same, RepOs.setFz rv4 c5 hn fun b hb => upd_ne (na b hb)⟩, fun b hb => upd_ne fun z => hb (by simp [z]), fun b hb => ?_⟩
      rcases List.mem_cons.mp hb with rfl | hb2
      · rw [upd_same]; simp
      · rw [upd_ne (na b hb2)]
        obtain ⟨u, q, _⟩ := c5.dat b hb2
        rw [q]; simp
    exact ⟨a, vs, j, n, rfl, rfl, b3, by rw [b4.length]; exact e6, pp σ _ _ As5 ((s2.trans ((g3.trans g4).step As1)).trans s5) R5 .refl⟩
end ways
end Q

namespace Q
open PySem PySem.Spec PyProof.Rows L2
section aug
variable {X : Cx} {π : List Bool} {i : Nat} {p : List Stp} {pos tpos : Pos}
theorem RepOFs.setFz {G : Gx} {B H H' : Hp} {x : Str} {d : D} {v : V} (r : RepD G B d v) : ∀ {fs : List (Str × O)} {vs : List (Str × V)} {own : List Addr} {d0 : D}, RepOFs G B H fs vs own → fs.lookup x = some (.fz d0) → (∀ a ∈ own, H' a = H a) → RepOFs G B H' (repF x (.fz d) fs) (putF x v vs) own
  | [], vs, own, d0, h, e, k => by simp at e
  | (g, o) :: fs, vs, own, d0, h, e, k => by
    simp only [RepOFs] at h
    obtain ⟨w, t, o1, o2, rfl, rfl, h1, h2⟩ := h
    simp only [List.lookup_cons] at e
    cases q : x == g with
    | true =>
      rw [q] at e; cases e
      have : g = x := (LawfulBEq.eq_of_beq q).symm
      subst this
      simp only [RepO] at h1
      obtain ⟨rfl, h1⟩ := h1
      simp only [repF, beq_self_eq_true, if_true, putF]
      exact ⟨v, t, [], o2, rfl, rfl, ⟨rfl, r⟩, h2.frame (.refl _) fun a h => k a (by simpa using h)⟩
    | false =>
      rw [q] at e
      have ng : ¬ g = x := fun z => by subst z; simp at q
      simp only [repF, q, Bool.false_eq_true, if_false, putF, if_neg ng]
      exact ⟨w, _, o1, o2, rfl, rfl, h1.frame (.refl _) fun a h => k a (List.mem_append_left _ h), RepOFs.setFz r h2 e fun a h => k a (List.mem_append_right _ h)⟩
theorem RepOFs.getFz {G : Gx} {B H : Hp} {x : Str} {d : D} : ∀ {fs : List (Str × O)} {vs : List (Str × V)} {own : List Addr}, RepOFs G B H fs vs own → fs.lookup x = some (.fz d) → ∃ v, vs.lookup x = some v ∧ RepD G B d v := fun h e => by
  obtain ⟨v, o1, k1, k2, _⟩ := h.foc e
  simp only [RepO] at k2
  exact ⟨v, k1, k2.2⟩
/-- x.f op= e, ints -/
def augP (i : Nat) (p : List Stp) (cs : List Str) (f : Str) (fn : Int → Int → Int) (g : PF) : SF := fun ρ => (getP i p ρ).bind fun o => match o with
  | .ob c fs => if c ∈ cs ∧ fs.length < 1000 then (g ρ).bind fun d => match d, fs.lookup f with
    | .int b, some (.fz (.int a)) => (putP i p (.ob c (repF f (.fz (.int (fn a b))) fs)) ρ).map fun ρ' => (.nx, ρ')
    | _, _ => none
    else none
  | _ => none
theorem qs_augP {o value : Expr} {f : Str} {cs : List Str} {op : Operator} {fn : Int → Int → Int} {g : PF} (hc : ∀ c ∈ cs, AtF X.K X.mg c f) (hop : InOp X op fun x y H Q => ∃ i j, x = .int i ∧ y = .int j ∧ Q (.int (fn i j)) H) (hb : QAt X o i p) (h : QD X value g) :
    QS X π (.AugAssign (.Attribute o f tpos) op value pos) (augP i p cs f fn g) :=
  ps_imp (ps_fldaug hb h hop) fun Dn σ H ⟨ρ, B, As, out, ρ', R, e, pp⟩ => by
  obtain ⟨ob, q0, e⟩ := Option.bind_eq_some_iff.mp e
  cases ob <;> simp only [reduceCtorEq] at e
  rename_i c fs
  split at e
  case isFalse => cases e
  rename_i hcz
  obtain ⟨d, e1, e⟩ := Option.bind_eq_some_iff.mp e
  split at e
  case h_2 => cases e
  rename_i b a hl
  obtain ⟨ρ2, e2, e3⟩ := Option.map_eq_some_iff.mp e
  cases e3
  refine ⟨ρ, B, As, _, R, q0, fun v B1 H1 g1 ⟨v0, h0, hv⟩ => ?_⟩
  obtain ⟨own1, r1, _⟩ := (R.grow g1).at q0 h0 hv
  simp only [RepO] at r1
  obtain ⟨ad, C, dx, vs, ow, rfl, rfl, hC, a3, a4⟩ := r1
  obtain ⟨C', m1, m2, m3⟩ := (hc c hcz.1).ex
  have : C' = C := by rw [m1] at hC; cases hC; rfl
  subst this
  obtain ⟨z, l1, l2⟩ := a4.getFz hl
  simp only [RepD] at l2; subst l2
  refine ⟨ad, C', dx, vs, _, rfl, a3, m2, m3, l1, ρ, B1, As, _, R.grow g1, e1, fun w B2 H2 g2 rw => ?_⟩
  simp only [RepD] at rw; subst rw
  have R2 := (R.grow g1).grow g2
  have hl2 : H2 ad = some (.ins C' dx vs) := g2.hh.eq a3 rfl
  refine ⟨a, b, rfl, rfl, dx, vs, hl2, by rw [a4.length]; exact hcz.2, ?_⟩
  obtain ⟨As3, R3, s3⟩ := R2.changeP (H' := upd H2 ad (.ins C' dx (putF f (.int (fn a b)) vs))) (o2 := .ob c (repF f (.fz (.int (fn a b))) fs)) q0 e2 fun w1 ow1 ⟨w0, c1, c2⟩ c3 nd9 => by
    rw [h0] at c1; cases c1
    have : w1 = .ref ad := valAt_one c2 (valAt_same g2.hh hv)
    subst this
    simp only [RepO] at c3
    obtain ⟨l2, C2, dx2, vs2, ow2, e4, rfl, d1, c4, c5⟩ := c3
    cases e4
    rw [hl2] at c4; cases c4
    have na : ∀ b ∈ ow2, b ≠ ad := fun b hb z => (List.nodup_cons.mp nd9).1 (z ▸ hb)
    refine ⟨⟨ad, C', dx, _, ow2, rfl, rfl, d1, upd_same, RepOFs.setFz (show RepD (gx X) B2 (.int (fn a b)) (.int (fn a b)) from rfl) c5 hl fun b hb => upd_ne (na b hb)⟩, fun b hb => upd_ne fun z => hb (by simp [z]), fun b hb => ?_⟩
    rcases List.mem_cons.mp hb with rfl | hb2
    · rw [upd_same]; simp
    · rw [upd_ne (na b hb2)]
      obtain ⟨u, q, _⟩ := c5.dat b hb2
      rw [q]; simp
  exact pp σ _ _ As3 (((g1.trans g2).step As).trans s3) R3 .refl
end aug
/-! ### methods of an owned thing -/
theorem tA_m {G : Gx} {i : Nat} {as : List Arg} {σ : L2.St} {H : Hp} {Q : List V → Hp → Prop} (h : tA G (.m i :: as) σ H Q) : ∃ v, σ[i]? = some (some v) ∧ tA G as σ H fun vs H' => Q (v :: vs) H' := by
  obtain ⟨ρ, κ, B, As, AsK, os, κ', R, RK, sb, e, k⟩ := h
  simp only [takeA] at e
  obtain ⟨o, e1, e2⟩ := Option.bind_eq_some_iff.mp e
  obtain ⟨⟨os2, κ2⟩, e3, e4⟩ := Option.map_eq_some_iff.mp e2
  cases e4
  obtain ⟨v, own, As1, h1, h2, h3, h4⟩ := RK.out (join_some e1)
  have own_in : ∀ a ∈ own, a ∈ AsK := fun a h => h4.mem_iff.mp (List.mem_append_left _ h)
  have as_in : ∀ a ∈ As1, a ∈ AsK := fun a h => h4.mem_iff.mp (List.mem_append_right _ h)
  refine ⟨v, h1, ρ, κ.set i none, B, As, As1, os2, κ2, R, h3, fun a h => sb a (as_in a h), e3, fun vs B2 H2 own2 As2 g2 r2 k2 pm mv => ?_⟩
  refine k (v :: vs) B2 H2 (own ++ own2) As2 g2 ⟨v, vs, own, own2, rfl, rfl, h2.frame g2.bb (fun a h => R.keep g2 (sb a (own_in a h))), r2⟩ k2 ?_ ⟨h1, mv⟩
  rw [List.append_assoc]
  exact (List.Perm.append_left _ pm).trans h4
def recvO (c m : Str) : O → Option Unit
  | .ob c' fs => if c' = c ∧ fs.lookup m = none then some () else none
  | _ => none
theorem RepOFs.none {G : Gx} {B H : Hp} {f : Str} : ∀ {fs : List (Str × O)} {vs : List (Str × V)} {own : List Addr}, RepOFs G B H fs vs own → fs.lookup f = none → vs.lookup f = none
  | [], vs, own, h, e => by simp only [RepOFs] at h; rw [h.1]; rfl
  | (k, x) :: fs, vs, own, h, e => by
    simp only [RepOFs] at h
    obtain ⟨v, r, o1, o2, rfl, rfl, h1, h2⟩ := h
    simp only [List.lookup_cons] at e ⊢
    cases q : f == k with
    | true => rw [q] at e; cases e
    | false => rw [q] at e; exact RepOFs.none h2 e
def callME (c m : Str) (f : FS) (i : Nat) (as : List Arg) : EF := fun ρ => ((ρ[i]?.join).bind (recvO c m)).bind fun _ => callE f (.m i :: as) ρ
section meth
variable {X : Cx} {e : Expr} {es : List Expr} {as : List Arg} {pos apos p1 : Pos} {x c m : Str} {f : FS} {k n i : Nat} {pl : Sem Bool}
theorem callME_of {G : Gx} {σ : L2.St} {H : Hp} {Q : VK} {C : Addr} (hC : G.mg c = some (.ref C)) (hn : as.length + 1 = n) (h : tE G (callME c m f i as) σ H Q) :
    ∃ v, σ[i]? = some (some v) ∧ ∃ a dx fs, v = .ref a ∧ H a = some (.ins C dx fs) ∧ fs.lookup m = none ∧ tA G as σ H fun vs H2 => spF G n f (v :: (vs ++ [])) H2 Q E0 := by
  have h2 := h
  obtain ⟨ρ, B, As, o, ρ', R, e, k⟩ := h
  obtain ⟨u, e1, e9⟩ := Option.bind_eq_some_iff.mp e
  clear e
  obtain ⟨o1, e2, e3⟩ := Option.bind_eq_some_iff.mp e1
  cases o1 <;> simp only [recvO, reduceCtorEq] at e3
  rename_i c' fs
  obtain ⟨⟨rfl, hm⟩, _⟩ := if_some e3
  obtain ⟨v, own, As1, h3, h4, _, _⟩ := R.env.out (join_some e2)
  simp only [RepO] at h4
  obtain ⟨a, C', dx, vs, ow, rfl, rfl, q1, q2, q3⟩ := h4
  rw [hC] at q1; cases q1
  obtain ⟨w, k1, k2⟩ := tA_m (spF_move (G := G) (E := E0) (n := n) (as := .m i :: as) (by simpa using hn) (show tE G (callE f (.m i :: as)) σ H Q from ⟨ρ, B, As, o, ρ', R, e9, k⟩))
  rw [h3] at k1; cases k1
  refine ⟨_, h3, a, _, vs, rfl, q2, q3.none hm, ?_⟩
  simpa only [List.append_nil] using k2
theorem qe_meth (F : QMe X.prog X.w X.K X.mg X.base c m k n f) (hr : Room k X.A) (hn : as.length + 1 = n) (ha : QAs X (e :: es) as)
    (hN : X.N[i]? = some x := by rfl) (hv : Vis X.env.scope x := by first | exact Or.inl rfl | exact Or.inr (Or.inl rfl) | exact Or.inr (Or.inr rfl)) (hd : (x == ("__debug__" : Str)) = false := by decide)
    (hcd : (x == ("__classdict__" : Str)) = false := by decide)
    (hst : starEach (e :: es) X.env = (false, eval e X.env) :: starEach es X.env := by rfl) (hpl : (backTo pos (starEach es X.env)).any (·.1) = false := by rfl)
    (ht : eval (.Call (.Attribute (.Name x p1) m apos) (e :: es) [] pos) X.env = (do
      let ov ← eval (.Name x p1) X.env
      standAt apos.atName
      let (f, first) ← holding [ov] (getMethod ov m pl)
      callWith pos f first (backTo pos (starEach (e :: es) X.env)) (backToKw pos (keywordEach [] X.env))) := by rfl) : QE X (.Call (.Attribute (.Name x p1) m apos) (e :: es) [] pos) (callME c m f i as) := by
  obtain ⟨C, fa, fd, ps, hC, hc, hm, hb, F⟩ := F.ex
  exact pe_imp (pe_meth (pl := pl) (dvs := []) (pe_var (i := i) hN hv hd hcd) hc hm F hr hb .nil pass0 ha hst hpl ht) fun σ H Q h => callME_of (G := gx X) hC hn h
theorem qe_meth0 (F : QMe X.prog X.w X.K X.mg X.base c m k 1 f) (hr : Room k X.A)
    (hN : X.N[i]? = some x := by rfl) (hv : Vis X.env.scope x := by first | exact Or.inl rfl | exact Or.inr (Or.inl rfl) | exact Or.inr (Or.inr rfl)) (hd : (x == ("__debug__" : Str)) = false := by decide)
    (hcd : (x == ("__classdict__" : Str)) = false := by decide)
    (ht : eval (.Call (.Attribute (.Name x p1) m apos) [] [] pos) X.env = (do
      let ov ← eval (.Name x p1) X.env
      standAt apos.atName
      let (f, first) ← holding [ov] (getMethod ov m pl)
      callWith pos f first (backTo pos (starEach [] X.env)) (backToKw pos (keywordEach [] X.env))) := by rfl) : QE X (.Call (.Attribute (.Name x p1) m apos) [] [] pos) (callME c m f i []) := by
  obtain ⟨C, fa, fd, ps, hC, hc, hm, hb, F⟩ := F.ex
  refine pe_imp (pe_meth0 (pl := pl) (dvs := []) (pe_var (i := i) hN hv hd hcd) hc hm F hr hb .nil pass0 ht) fun σ H Q h => ?_
  obtain ⟨v, h1, a, dx, fs, h2, h3, h4, h5⟩ := callME_of (G := gx X) (n := 1) hC rfl h
  refine ⟨v, h1, a, dx, fs, h2, h3, h4, ?_⟩
  obtain ⟨ρ, κ, B, As, AsK, os, κ', R, RK, sb, e, k⟩ := h5
  simp only [takeA, Option.some.injEq, Prod.mk.injEq] at e
  obtain ⟨rfl, rfl⟩ := e
  exact k [] B H [] AsK (.refl R.sub) ⟨rfl, rfl⟩ RK (List.Perm.refl _) trivial
end meth
end Q

namespace Q
open PySem PySem.Spec PyProof.Rows L2
/-! ### the frame of a generator expression -/
def gcx (X : Cx) (A2 : Around) (s0 : Shared) (H0 : Hp) (cenv : Env) (ex : List Addr) (pn : List (Addr × Obj)) : Cx :=
  { prog := X.prog, w := X.w, K := X.K, mg := X.mg, base := X.base, A := A2.deeper cenv, N := X.N, s_0 := s0, H_0 := H0, env := cenv, outer := X.stack, stack := cenv :: X.stack, ex := ex, fn := fun _ => false, calm := true, pn := pn, xe := fun _ _ => False }
/-- its scope: own names are targets, the free ones are the def's -/
structure GSc (osc : Scope) (N : List Str) (scope : Scope) (vs : List Nat) : Prop where
  kind : scope.kind = .function
  co : scope.isCoroutine = false
  cell : ∀ y ∈ scope.names, y.2 ≠ .cell
  dot : scope.names.lookup (".0" : Str) = some NameKind.local
  free : ∀ y ∈ scope.names, y.2 = .free → osc.names.lookup y.1 = some .cell ∨ osc.names.lookup y.1 = some .free
  loc : ∀ i x, N[i]? = some x → scope.names.lookup x = some .local → i ∈ vs
theorem gsc_by {osc : Scope} {N : List Str} {scope : Scope} {vs : List Nat} (hk : scope.kind = .function) (hc : scope.isCoroutine = false)
    (h : ((scope.names.all fun y => y.2 != .cell && (y.2 != .free || (osc.names.lookup y.1 == some .cell || osc.names.lookup y.1 == some .free))) && (scope.names.lookup (".0" : Str) == some NameKind.local)
      && ((List.range N.length).all fun i => (N[i]?.bind fun x => scope.names.lookup x) != some .local || vs.contains i)) = true) : GSc osc N scope vs := by
  simp only [Bool.and_eq_true] at h
  obtain ⟨⟨h1, h2⟩, h3⟩ := h
  have h1 := List.all_eq_true.mp h1
  have h3 := List.all_eq_true.mp h3
  refine ⟨hk, hc, fun y hy z => ?_, by simpa using h2, fun y hy z => ?_, fun i x hx hl => ?_⟩
  · have := (Bool.and_eq_true_iff.mp (h1 y hy)).1
    rw [z] at this; exact absurd this (by decide)
  · have := (Bool.and_eq_true_iff.mp (h1 y hy)).2
    rw [z] at this
    simpa using this
  · have hi : i < N.length := (List.getElem?_eq_some_iff.mp hx).1
    have := h3 i (List.mem_range.mpr hi)
    rw [hx] at this
    simp only [Option.bind_some, hl] at this
    simpa using this
theorem clo_look {cells : List (Str × Addr)} {names : List (Str × NameKind)} {x : Str} {c : Addr} (hn : names.lookup x = some .free) (hc : cells.lookup x = some c) : (cloFrom cells names []).lookup x = some c := by
  have h1 := cloFrom_has (cells := cells) (acc := []) (PySem.mem_of_lookup hn)
  obtain ⟨c', h2⟩ := mem_lookup h1
  rcases cloFrom_mem (PySem.mem_of_lookup h2) with h3 | ⟨_, h3⟩
  · cases h3
  · rw [hc] at h3; rw [h2, h3]; rfl
theorem clo_of {cells : List (Str × Addr)} {names : List (Str × NameKind)} {x : Str} {c : Addr} (h : (cloFrom cells names []).lookup x = some c) : (x, NameKind.free) ∈ names ∧ c = (cells.lookup x).getD 0 := by
  rcases cloFrom_mem (PySem.mem_of_lookup h) with h3 | h3
  · cases h3
  · exact h3
section start
variable {X : Cx} {pins : List (Addr × Obj)} {σ : L2.St} {H : Hp} {s : Shared} {A2 : Around} {scope : Scope} {vs : List Nat} {code it : Value} {h' : Heap} {go : Obj} {ex : List Addr} {g0 : GenState} {tk : Nat}
theorem inv_gen (I : Inv X pins σ H s) (S : GSc X.env.scope X.N scope vs) (hA : A2.handled = none) (hf : A2.frames = X.A.frames) (hn : h'.Ns s.heap.objs.size (fun y => if y = ".0" then some it else none))
    (hs : Heap.SameBut s.heap.objs.size (s.heap.push { cls := .type "frame", data := .dict #[] }) h') (hgo : ∀ v, go.data ≠ .cell v) (hfl : go.isFreed = false) (hex : ∀ b ∈ ex, FpOk X pins H b ∧ ∃ o, s.heap.get? b = some o) (hg : g0.bare = true) :
    Inv (gcx X A2 s H (genEnv scope (cloFrom X.env.cells scope.names []) s.heap.objs.size code builtinsNs X.env) ex [(h'.objs.size, go)]) [] (L2.wipe σ vs) H
      { s with gens := s.gens.push g0, toks := tk, heap := h'.push go } := by
  have ks : ∀ b u, s.heap.get? b = some u → b ≠ s.heap.objs.size := fun b u e => Nat.ne_of_lt (Heap.lt_size e)
  have kp : ∀ b u, s.heap.get? b = some u → (h'.push go).get? b = some u := fun b u e => Heap.get?_push_of_some _ ((hs.2 b (ks b u e)).trans (Heap.get?_push_of_some _ e))
  have hsz : h'.objs.size = s.heap.objs.size + 1 := by rw [hs.1, Heap.size_push]
  have cl : ∀ {x : Str} {c : Addr}, (cloFrom X.env.cells scope.names []).lookup x = some c → X.env.cells.lookup x = some c := fun {x c} e => by
    obtain ⟨h1, h2⟩ := clo_of e
    obtain ⟨c', e'⟩ := I.ok.has x (S.free _ h1 rfl)
    rw [e'] at h2
    rw [e', h2]; rfl
  refine ⟨⟨I.mod, S.kind, I.ok.glob, rfl, Nat.le_refl _, fun x y c h1 h2 => I.ok.inj x y c (cl h1) (cl h2), fun x hx => ?_, fun x c e => (nomatch e), fun _ => hA, Around.frames_deeper (hf.trans I.ok.frames), .inr ⟨rfl, rfl⟩, fun b hb => ⟨?_, fun x c e => (hex b hb).1.2.2.2.2.1 x c (cl e)⟩, I.bs, Nat.le_trans I.ok.bsz I.sz, fun b o e hb => ?_, fun b hb hz => ?_, I.stack, I.stkFree⟩,
    rfl, I.bare.push hg, Un.kept kp, ⟨_, hn.push _, fun i x v e1 e2 hv => ?_⟩, fun x c e => ?_, I.hok.fresh (Nat.le_refl _), fun x c e => I.freeC x c (cl e), fun p hp => ?_, I.hok.kept kp, by rw [wipe_length]; exact I.len⟩
  · rcases hx with hx | hx
    · exact absurd rfl (S.cell _ (PySem.mem_of_lookup hx))
    · obtain ⟨c, e⟩ := I.ok.has x (S.free _ (PySem.mem_of_lookup hx) rfl)
      exact ⟨c, clo_look hx e⟩
  · obtain ⟨o, e⟩ := (hex b hb).2
    exact ks b o e
  · rcases (hex b hb).1.2.2.2.1 with z | z
    · exact I.ok.noex b o e z
    · exact absurd (Nat.lt_of_lt_of_le (Heap.lt_size e) (Nat.le_trans I.ok.bsz z)) (Nat.lt_irrefl _)
  · rcases List.mem_cons.mp (I.stkSub b hz) with z | z
    · exact (hex b hb).1.2.1 z
    · exact (hex b hb).1.2.2.1 z
  · obtain ⟨e3, nv⟩ := wipe_some e2
    rcases hv with hv | hv | hv
    · exact absurd (S.loc i x e1 hv) nv
    · exact absurd rfl (S.cell _ (PySem.mem_of_lookup hv))
    · have hk := S.free _ (PySem.mem_of_lookup hv) rfl
      obtain ⟨m0, _, hl⟩ := I.loc
      obtain ⟨u, r, lk⟩ := hl i x v e1 e3 (.inr hk)
      refine ⟨u, r, .inr ⟨.inr hv, ?_⟩⟩
      rcases lk with ⟨k, _⟩ | ⟨_, c, e, o, ho, hd⟩
      · rcases hk with hk | hk <;> (rw [show X.env.kindOf x = _ from hk] at k; cases k)
      · exact ⟨c, clo_look hv e, o, kp c o ho, hd⟩
  · obtain ⟨v, o, ho, hd⟩ := I.cell x c (cl e)
    exact ⟨v, o, kp c o ho, hd⟩
  · obtain rfl : p = (h'.objs.size, go) := by simpa [gcx] using hp
    refine ⟨Heap.get?_push_size _ hfl, I.hok.fresh (by rw [hsz]; omega), ?_, fun z => ?_, hgo⟩
    · show h'.objs.size ≠ s.heap.objs.size
      omega
    · obtain ⟨_, o, ho, _⟩ := I.stack.mem z
      have : h'.objs.size < s.heap.objs.size := Heap.lt_size ho
      omega
end start
/-! ### its turns -/
/-- the answer of any (stop at true), of all (stop at false) -/
def evalGo (stop : Bool) (tgt : TgF) (gt : BF) (ρ : Ev) : List D → Option Bool
  | [] => some (!stop)
  | d :: ds => (tgt d ρ).bind fun ρ1 => (gt ρ1).bind fun b => if b = stop then some stop else evalGo stop tgt gt ρ ds
/-- the state at a turn -/
def GTn (Y : Cx) (σw : L2.St) (fp : List Addr) (tn : Nat → Heap → Prop) (B1 H1 : Hp) (i : Nat) (s : Shared) : Prop := ∃ B' H', Grow B1 H1 B' H' ∧ L2.Inv Y [] σw H' s ∧ tn i s.heap ∧ ∀ b ∈ fp, H' b = none
def GEn (Y : Cx) (σw : L2.St) (B1 H1 : Hp) (s : Shared) : Prop := ∃ B' H', Grow B1 H1 B' H' ∧ L2.Inv Y [] σw H' s
theorem GTn.en {Y : Cx} {σw : L2.St} {fp : List Addr} {tn : Nat → Heap → Prop} {B1 H1 : Hp} {i : Nat} {s : Shared} (T : GTn Y σw fp tn B1 H1 i s) : GEn Y σw B1 H1 s := let ⟨B', H', g1, I, _, _⟩ := T; ⟨B', H', g1, I⟩
theorem inv_gens {Y : Cx} {pins : List (Addr × Obj)} {σ : L2.St} {H : Hp} {s : Shared} (I : L2.Inv Y pins σ H s) {g : Array GenState} (hg : AllBare g) : L2.Inv Y pins σ H { s with gens := g } :=
  ⟨I.ok, I.os, hg, I.base, I.loc, I.cell, I.free, I.freeC, I.pin, I.hok, I.len⟩
theorem allBare_set {s : Shared} {g : Nat} {x : GenState} (h : AllBare s.gens) (hx : x.bare = true) : AllBare (s.setGen g x).gens := fun y hy => by
  obtain ⟨i, hi, e⟩ := Array.mem_iff_getElem.mp hy
  have e2 : (s.gens.setIfInBounds g x)[i]? = some y := Array.getElem?_eq_some_iff.mpr ⟨hi, e⟩
  rw [Array.getElem?_setIfInBounds] at e2
  split at e2
  · split at e2
    · cases e2; exact hx
    · cases e2
  · obtain ⟨hj, e3⟩ := Array.getElem?_eq_some_iff.mp e2
    exact h y (e3 ▸ Array.getElem_mem hj)
theorem GTn.setGen {Y : Cx} {σw : L2.St} {fp : List Addr} {tn : Nat → Heap → Prop} {B1 H1 : Hp} {i : Nat} {s : Shared} (T : GTn Y σw fp tn B1 H1 i s) (g : Nat) {x : GenState} (hx : x.bare = true) : GTn Y σw fp tn B1 H1 i (s.setGen g x) := by
  obtain ⟨B', H', g1, I, t, k⟩ := T
  exact ⟨B', H', g1, inv_gens I (allBare_set I.bare hx), t, k⟩
section turns
variable {Y : Cx} {A2 : Around} {cenv : Env} {σw : L2.St} {fp : List Addr} {it : Addr} {tn : Nat → Heap → Prop} {J : It} {B1 H1 : Hp} {ds : List D} {tg elt iter : Expr} {scope : Scope} {pos : Pos} {tgt : TgF} {gt : BF} {sl vs : List Nat} {ρw : Ev} {As : List Addr} {stop r : Bool}
def gR (Y : Cx) (σw : L2.St) (B1 H1 : Hp) (stop r : Bool) : GenEnd := fun _ _ x s₁ => x = .ok .next ∧ r = (!stop) ∧ GEn Y σw B1 H1 s₁
def gY (Y : Cx) (σw : L2.St) (fp : List Addr) (tn : Nat → Heap → Prop) (B1 H1 : Hp) (ds : List D) (tgt : TgF) (gt : BF) (ρw : Ev) (stop r : Bool) : Protocol := fun m _ v s kap =>
  ∃ b i, v = .bool b ∧ (i + m = ds.length ∧ i < ds.length) ∧ GTn Y σw fp tn B1 H1 (i + 1) s ∧ (b = stop → r = stop) ∧ (b ≠ stop → evalGo stop tgt gt ρw (ds.drop (i + 1)) = some r ∧ ∀ s'', GTn Y σw fp tn B1 H1 (i + 1) s'' → kap (.send .none) s'')
theorem seg_turns (hY : Y.A = A2.deeper cenv) (he0 : Y.env = cenv) (hA : A2.handled = none) (hcalm : Y.calm = true) (hxe : Y.xe = fun _ _ => False) (hco : cenv.scope.isCoroutine = false) (hstat : ∀ {s σ H'}, L2.Inv Y [] σ H' s → (∀ b ∈ fp, H' b = none) → ∀ b ∈ fp, FpOk Y [] H' b)
    (T : Turn Y.prog Y.w Y.K tg J fp it tn) (hJ : Yl (gx Y) B1 H1 J ds) (ht : QG Y tg sl tgt) (he : QD Y elt (asB gt)) (hsl : ∀ i ∈ sl, i ∈ vs) (hvs : ∀ i ∈ vs, ∀ v, σw[i]? ≠ some (some v)) (R1 : Rel (gx Y) B1 H1 σw ρw As) :
    ∀ (k i : Nat) (s₀ s : Shared), ds.length - i = k → i ≤ ds.length → evalGo stop tgt gt ρw (ds.drop i) = some r → GTn Y σw fp tn B1 H1 i s →
      Seg (model Y.prog Y.w) A2 (gR Y σw B1 H1 stop r) (gY Y σw fp tn B1 H1 ds tgt gt ρw stop r) (k + 1) s₀
        (.compLoop (.GeneratorExp elt [⟨tg, iter, [], 0⟩] scope pos) 0 (.ref it) .none cenv) ((model Y.prog Y.w).den (.compLoop (.GeneratorExp elt [⟨tg, iter, [], 0⟩] scope pos) 0 (.ref it) .none cenv)) [] s := by
  subst he0
  have hov : A2.over (.compLoop (.GeneratorExp elt [⟨tg, iter, [], 0⟩] scope pos) 0 (.ref it) .none Y.env) [] = Y.A := by
    rw [hY]
    first
      | rfl
      | (obtain ⟨hd, d, fr, gs, u⟩ := A2; simp [Around.over, Around.deeper, marksOver, frameCount, unitsOf, envsOf, guardsOf, pushEnvs, pushGuards, Code.envs, Code.env?, Code.isFrame, Code.guards, Code.isGuard, Code.weight, Code.frames, Code.isCreation, Code.isCaller, Code.cUnits])
  intro k
  induction k with
  | zero =>
    intro i s₀ s hk hi hev hst
    have hin : i = ds.length := by omega
    subst hin
    rw [List.drop_length] at hev
    simp only [evalGo, Option.some.injEq] at hev
    obtain ⟨B', H', g1, I, t1, k1⟩ := hst
    show Seg _ A2 _ _ _ s₀ _ ((compTurn (.GeneratorExp elt [⟨tg, iter, [], 0⟩] scope pos) 0 (.ref it) .none Y.env).onRaise (leaving Y.env)) [] s
    rw [compTurn_gen, Sem.onRaise_eq_wrap]
    refine seg_bind_wrap (wpAny_standAt ?_)
    refine seg_bind_wrap ?_
    rw [hov]
    refine thn (T.done Y rfl rfl rfl hcalm _ [] s σw H' _ I (hstat I k1) t1 (hJ.stop _ _ g1.hh (Nat.le_refl _))) fun rr s1 ⟨hr, I1⟩ => ?_
    subst hr
    exact seg_end (.ok .next) ⟨rfl, hev.symm, B', H', g1, I1⟩
  | succ k ih =>
    intro i s₀ s hk hi hev hst
    have hlt : i < ds.length := by omega
    obtain ⟨B', H', g1, I, t1, k1⟩ := hst
    rw [List.drop_eq_getElem_cons hlt] at hev
    simp only [evalGo] at hev
    obtain ⟨ρ1, e1, hev⟩ := Option.bind_eq_some_iff.mp hev
    obtain ⟨b, e2, hev⟩ := Option.bind_eq_some_iff.mp hev
    show Seg _ A2 _ _ _ s₀ _ ((compTurn (.GeneratorExp elt [⟨tg, iter, [], 0⟩] scope pos) 0 (.ref it) .none Y.env).onRaise (leaving Y.env)) [] s
    rw [compTurn_gen, Sem.onRaise_eq_wrap]
    refine seg_bind_wrap (wpAny_standAt ?_)
    refine seg_bind_wrap ?_
    rw [hov]
    refine thn (T.item Y rfl rfl rfl hcalm i [] s σw H' _ I (hstat I k1) t1 (hJ.go i H' g1.hh hlt)) fun rr s1 ⟨u, hr, h4⟩ => ?_
    subst hr
    refine seg_bind_wrap ?_
    rw [hov]
    refine thn h4 fun _ s2 ⟨x, H2, I2, rx, y2, t2, k2⟩ => ?_
    obtain ⟨rfl, rd⟩ := hJ.yld i H' x H2 g1.hh y2
    have rd := (rd ds[i] (List.getElem?_eq_getElem hlt)).mono g1.bb
    have I2' := I2.pinned (hstat I2 k2) (T.obj _ _ t2)
    refine seg_bind_wrap ?_
    rw [hov]
    refine wpAny_mono (ht.run _ s2 σw H2 x u (fun σ3 H3 => H3 = H2 ∧ ∃ As3, Rel (gx Y) B' H2 σ3 ρ1 As3 ∧ (∀ i, i ∉ sl → σ3[i]? = σw[i]?) ∧ σ3.length = σw.length) I2' rx ⟨ρw, B', As, ds[i], ρ1, R1.grow g1, rd, e1, fun σ3 As3 R3 s3 k3 l3 => ⟨rfl, As3, R3, k3, l3⟩⟩) (fun _ s3 ⟨σ3, H3, I3, q3⟩ => ?_) fun x s' hx => ?_
    rotate_left
    · rw [hxe] at hx; exact hx.elim
    obtain ⟨rfl, As3, R3, k3, l3⟩ := q3
    refine seg_bind_wrap ?_
    simp only [List.forIn_nil]
    refine wpAny_pure ?_
    simp only [if_true]
    have hy : ∀ v, yieldOut Y.env v = yieldValue v := fun v => by simp only [yieldOut, hco, Bool.false_eq_true, if_false]
    simp only [hy]
    rw [Sem.bind_eq_wrap', Sem.bind_eq_wrap', Sem.wrap_wrap, Sem.wrap_wrap]
    refine seg_wrap ?_
    rw [hov]
    refine wpAny_mono (he.run _ s3 σ3 H3 (fun v H4 => v = .bl b ∧ ∃ B4, Grow B' H3 B4 H4) I3 ⟨ρ1, B', As3, .bl b, R3, by simp [asB, e2], fun v B4 H4 g4 r4 => ⟨by simpa only [RepD] using r4, B4, g4⟩⟩) (fun y s4 ⟨v4, H4, I4, rv4, q4⟩ => ?_) fun x s' hx => ?_
    rotate_left
    · rw [hxe] at hx; exact hx.elim
    obtain ⟨rfl, B4, g4⟩ := q4
    obtain rfl : y = .bool b := rv4
    have t4 : tn (i + 1) s4.heap := T.keep _ _ _ t2 fun b hb o e => (I4.pin (b, o) (List.mem_append_right _ (List.mem_append_right _ (mem_pinsAt hb e)))).1
    have k4 : ∀ b ∈ fp, H4 b = none := fun b hb => by
      obtain ⟨o, e, d⟩ := T.obj _ _ t2 b hb
      exact (I4.pin (b, o) (List.mem_append_right _ (List.mem_append_right _ (mem_pinsAt hb e)))).2.1
    have I5 : L2.Inv Y [] σw H4 s4 := (I4.unpinned).weak l3.symm fun j v e => by
      rw [k3 j fun z => hvs j (hsl j z) v e]; exact e
    have G5 : GTn Y σw fp tn B1 H1 (i + 1) s4 := ⟨B4, H4, g1.trans g4, I5, t4, k4⟩
    refine seg_at (seg_yield rfl rfl rfl ⟨b, i, rfl, ⟨by omega, hlt⟩, G5, fun hb => ?_, fun hb => ?_⟩)
    · rw [if_pos hb] at hev; cases hev; rfl
    · rw [if_neg hb] at hev
      exact ⟨hev, fun s'' h'' => seg_again rfl (ih (i + 1) s'' s'' (by omega) hlt hev h'')⟩
theorem seg_starts (hY : Y.A = A2.deeper cenv) (he0 : Y.env = cenv) (T : Turn Y.prog Y.w Y.K tg J fp it tn) {k : Nat} {s₀ s : Shared} {R : GenEnd} {P : Protocol} (hst : tn 0 s.heap)
    (h : Seg (model Y.prog Y.w) A2 R P k s₀ (.compLoop (.GeneratorExp elt [⟨tg, iter, [], 0⟩] scope pos) 0 (.ref it) .none cenv) ((model Y.prog Y.w).den (.compLoop (.GeneratorExp elt [⟨tg, iter, [], 0⟩] scope pos) 0 (.ref it) .none cenv)) [] s) :
    Seg (model Y.prog Y.w) A2 R P k s₀ (.compStart (.GeneratorExp elt [⟨tg, iter, [], 0⟩] scope pos) 0 (.ref it) .none cenv) ((model Y.prog Y.w).den (.compStart (.GeneratorExp elt [⟨tg, iter, [], 0⟩] scope pos) 0 (.ref it) .none cenv)) [] s := by
  show Seg _ A2 _ _ _ s₀ _ ((compStart (.GeneratorExp elt [⟨tg, iter, [], 0⟩] scope pos) 0 (.ref it) .none cenv).onRaise (leaving cenv)) [] s
  unfold compStart
  rw [Sem.onRaise_eq_wrap]
  show Seg _ A2 _ _ _ s₀ _ ((ask >>= _).wrap _ _ _ _) [] s
  refine seg_bind_wrap (wpAny_askSetting ?_)
  split
  · exact seg_again rfl h
  · first
      | exact seg_bind_wrap (wpAny_rule (seg_bind_wrap (wpAny_standAt (seg_bind_wrap (T.self _ 0 s _ _ hst (seg_again rfl h))))))
      | (refine seg_bind_wrap (wpAny_rule ?_); show Seg _ A2 _ _ _ s₀ _ ((standAt iter.pos >>= _).wrap _ _ _ _) [] s; exact seg_bind_wrap (wpAny_standAt (seg_bind_wrap (T.self _ 0 s _ _ hst (seg_again rfl h)))))
end turns
/-- asleep at a turn, with k turns left -/
def Sleeps (Y : Cx) (A2 : Around) (σw : L2.St) (fp : List Addr) (tn : Nat → Heap → Prop) (B1 H1 : Hp) (ds : List D) (tgt : TgF) (gt : BF) (ρw : Ev) (stop r : Bool) (a : Addr) (g i : Nat) (s : Shared) : Prop :=
  s.heap.IsGen a g ∧ GTn Y σw fp tn B1 H1 i s ∧ ∃ gs, s.gens[g]? = some gs ∧ ∀ s'', GTn Y σw fp tn B1 H1 i s'' →
    gs.Goes (model Y.prog Y.w) A2 (gR Y σw B1 H1 stop r) (gY Y σw fp tn B1 H1 ds tgt gt ρw stop r) (ds.length - i + 1) (.send .none) s''
section wakes
variable {Y : Cx} {A : Around} {σw : L2.St} {fp : List Addr} {tn : Nat → Heap → Prop} {B1 H1 : Hp} {ds : List D} {tgt : TgF} {gt : BF} {ρw : Ev} {stop r : Bool} {a : Addr} {g : Nat}
/-- one item is asked for -/
theorem gen_next {s : Shared} {i : Nat} {Q : Option Value → Shared → Prop} {E : Value → Shared → Prop} (hh : A.handled = none) (hroom : A.depth < recursionLimit) (hgen : ∀ {s' H'}, L2.Inv Y [] σw H' s' → s'.heap.IsGen a g)
    (h : Sleeps Y A.in1 σw fp tn B1 H1 ds tgt gt ρw stop r a g i s) (hi : i ≤ ds.length) (hlt : g < s.gens.size)
    (hY : ∀ b s1, g < s1.gens.size → GTn Y σw fp tn B1 H1 (i + 1) s1 → i < ds.length → (b = stop → r = stop) → (b ≠ stop → Sleeps Y A.in1 σw fp tn B1 H1 ds tgt gt ρw stop r a g (i + 1) s1) → Q (some (.bool b)) s1)
    (hE : ∀ s1, r = (!stop) → GEn Y σw B1 H1 s1 → Q none s1) : wpAny (model Y.prog Y.w) A (pyNext (.ref a)) Q E s := by
  obtain ⟨hg, T, gs, hgs, hgo⟩ := h
  have nl : s.heap.NoLimit := let ⟨_, _, _, I, _, _⟩ := T; I.nolimit
  refine GenW.wpAny_gsz (n := g + 1) hlt ?_
  refine wpAny_mono (wpAny_pyNext_genexpQ (Q := fun x s1 => g + 1 ≤ s1.gens.size → Q x s1) (E := fun _ _ => False) (P := fun _ _ s1 => r = (!stop) ∧ GEn Y σw B1 H1 s1) hh nl hroom hg hgs (hgo _ (T.setGen g rfl)) (fun v s1 gs' hb hv => ?_) (fun s1 hp h' hk => ?_)) (fun _ _ x => x) fun _ _ x => x.elim
  · obtain ⟨b, j, rfl, ⟨hj, hln⟩, T1, h1, h2⟩ := hv
    intro hsz
    rw [GenW.setGen_size] at hsz
    have hji : j = i := by omega
    subst hji
    refine hY b _ (by rw [GenW.setGen_size]; exact hsz) (T1.setGen g hb) hln h1 fun hne => ?_
    obtain ⟨ev, kap⟩ := h2 hne
    obtain ⟨B', H', g1, I, t, k⟩ := T1.setGen g hb
    refine ⟨hgen I, ⟨B', H', g1, I, t, k⟩, gs', ?_, fun s'' h'' => ?_⟩
    · have : (s1.setGen g gs').gens[g]? = some gs' := by
        simp only [Shared.setGen]
        rw [Array.getElem?_setIfInBounds_self]
        simp [show g < s1.gens.size from hsz]
      exact this
    · have e : ds.length - (j + 1) + 1 = ds.length - j := by omega
      rw [e]
      exact kap s'' h''
  · intro _
    obtain ⟨hr, B', H', g1, I⟩ := hp
    exact hE _ hr ⟨B', H', g1, (inv_gens I (allBare_set I.bare rfl)).kept hk⟩
end wakes
end Q

namespace Q
open PySem PySem.Spec PyProof.Rows L2
section loops
variable {Y : Cx} {A : Around} {σw : L2.St} {fp : List Addr} {tn : Nat → Heap → Prop} {B1 H1 : Hp} {ds : List D} {tgt : TgF} {gt : BF} {ρw : Ev} {r : Bool} {a : Addr} {g : Nat} {R : Result → Shared → Prop}
theorem any_turns (hh : A.handled = none) (hroom : A.depth < recursionLimit) (hgen : ∀ {s' H'}, L2.Inv Y [] σw H' s' → s'.heap.IsGen a g) (fin : ∀ s', GEn Y σw B1 H1 s' → R (.ok (.ret (.bool r))) s') : ∀ (k i : Nat) (s : Shared), ds.length - i = k → i ≤ ds.length → g < s.gens.size →
    Sleeps Y A.in1.in1 σw fp tn B1 H1 ds tgt gt ρw true r a g i s → codeAny (model Y.prog Y.w) A (.builtin "any.loop" ⟨[.ref a], []⟩) R s := by
  intro k
  induction k with
  | zero =>
    intro i s hk hi hlt h
    refine codeAny_builtin F.entry_any_loop ?_
    rw [Around.under_plainId F.plain_any_loop _]
    show wpAny _ A.in1 (pyNext (.ref a) >>= _) _ _ s
    refine wpAny_bind (gen_next (A := A.in1) hh hroom hgen h hi hlt (fun b s1 hsz T hln h1 h2 => by omega) (fun s1 hr hE => ?_))
    refine wpAny_bind (wpAny_rule (wpAny_pure ?_))
    have := fin s1 hE
    rw [hr] at this
    exact this
  | succ k ih =>
    intro i s hk hi hlt h
    refine codeAny_builtin F.entry_any_loop ?_
    rw [Around.under_plainId F.plain_any_loop _]
    show wpAny _ A.in1 (pyNext (.ref a) >>= _) _ _ s
    refine wpAny_bind (gen_next (A := A.in1) hh hroom hgen h hi hlt (fun b s1 hsz T hln h1 h2 => ?_) (fun s1 hr hE => ?_))
    · refine wpAny_bind (wpAny_holding (wpAny_truthy_bool ?_))
      refine wpAny_bind (wpAny_letGo ?_)
      cases b with
      | false =>
        simp only [Bool.false_eq_true, if_false]
        exact wpAny_pure ⟨plainId_quiet F.plain_any_loop _, ih (i + 1) s1 (by omega) hln hsz (h2 (by decide))⟩
      | true =>
        simp only [if_true]
        refine wpAny_bind (wpAny_rule (wpAny_pure ?_))
        have := fin s1 T.en
        rw [h1 rfl] at this
        exact this
    · refine wpAny_bind (wpAny_rule (wpAny_pure ?_))
      have := fin s1 hE
      rw [hr] at this
      exact this
theorem all_turns (hh : A.handled = none) (hroom : A.depth < recursionLimit) (hgen : ∀ {s' H'}, L2.Inv Y [] σw H' s' → s'.heap.IsGen a g) (fin : ∀ s', GEn Y σw B1 H1 s' → R (.ok (.ret (.bool r))) s') : ∀ (k i : Nat) (s : Shared), ds.length - i = k → i ≤ ds.length → g < s.gens.size →
    Sleeps Y A.in1.in1 σw fp tn B1 H1 ds tgt gt ρw false r a g i s → codeAny (model Y.prog Y.w) A (.builtin "all.loop" ⟨[.ref a], []⟩) R s := by
  intro k
  induction k with
  | zero =>
    intro i s hk hi hlt h
    refine codeAny_builtin F.entry_all_loop ?_
    rw [Around.under_plainId F.plain_all_loop _]
    show wpAny _ A.in1 (pyNext (.ref a) >>= _) _ _ s
    refine wpAny_bind (gen_next (A := A.in1) hh hroom hgen h hi hlt (fun b s1 hsz T hln h1 h2 => by omega) (fun s1 hr hE => ?_))
    refine wpAny_bind (wpAny_rule (wpAny_pure ?_))
    have := fin s1 hE
    rw [hr] at this
    exact this
  | succ k ih =>
    intro i s hk hi hlt h
    refine codeAny_builtin F.entry_all_loop ?_
    rw [Around.under_plainId F.plain_all_loop _]
    show wpAny _ A.in1 (pyNext (.ref a) >>= _) _ _ s
    refine wpAny_bind (gen_next (A := A.in1) hh hroom hgen h hi hlt (fun b s1 hsz T hln h1 h2 => ?_) (fun s1 hr hE => ?_))
    · refine wpAny_bind (wpAny_holding (wpAny_truthy_bool ?_))
      refine wpAny_bind (wpAny_letGo ?_)
      cases b with
      | true =>
        simp only [if_true]
        exact wpAny_pure ⟨plainId_quiet F.plain_all_loop _, ih (i + 1) s1 (by omega) hln hsz (h2 (by decide))⟩
      | false =>
        simp only [Bool.false_eq_true, if_false]
        refine wpAny_bind (wpAny_rule (wpAny_pure ?_))
        have := fin s1 T.en
        rw [h1 rfl] at this
        exact this
    · refine wpAny_bind (wpAny_rule (wpAny_pure ?_))
      have := fin s1 hE
      rw [hr] at this
      exact this
end loops
/-- the code object of a generator expression: the def's table may grow -/
theorem gen_code {X : Cx} {pins : List (Addr × Obj)} {σ : L2.St} {H : Hp} {s : Shared} {c P : Addr} {gpos : Pos} {q : Str} {scope : Scope} {Q : Value → Shared → Prop} {E : Value → Shared → Prop} (I : L2.Inv X pins σ H s) (hTab : GxR.TabB X.base X.mg c P) (hCo : X.env.code = .ref c) (hP : GxR.TabG H P)
    (h : ∀ code s3 H3, L2.Inv X pins σ H3 s3 → GxR.Tabbed P H H3 → (∀ b o, b ≠ P → s.heap.get? b = some o → s3.heap.get? b = some o) → Q code s3) : wpAny (model X.prog X.w) X.A (genexprCode X.env gpos q scope) Q E s := by
  obtain ⟨ps, hps, ht⟩ := hP
  have pS : s.heap.get? P = some { cls := .none, data := .fields ps } := I.hok P _ hps
  have cd : PySem.W.CodeHd s.heap c P := hTab.code.keeps I.bk
  cases hf : codeAmong gpos ps.toList with
  | none =>
    refine wpAny_genexprCodeX hCo (cd.code pS ht) (cd.tab pS) hf fun c' h' tk xx hge hlt hco' _ htab' _ => ?_
    obtain ⟨o1, vs, f1, tf, fl, tg, inF, tx, tt, op, _, _, _, _, _, _, _, _, _, htr, _⟩ := hco'
    exact h _ _ _ (GxR.inv_tab (g' := s.gens) (d' := s.drawn) (t' := tk) I hps (fun b o hb e => xx b o hb e) htab'.2 I.bare) ⟨⟨_, upd_same, htr⟩, fun b hb => upd_ne hb⟩ fun b o hb e => xx b o hb e
  | some cv => exact wpAny_genexprCode_hit hCo (cd.code pS ht) hf (h cv s H I ⟨⟨ps, hps, ht⟩, fun _ _ => rfl⟩ fun b o _ e => e)
section main
variable {X : Cx} {tg elt iter : Expr} {scope : Scope} {gi : IF} {tgt : TgF} {gt : BF} {sl vs : List Nat} {k : Nat} {p pos gpos : Pos}
def evalG (stop : Bool) (gi : IF) (vs : List Nat) (tgt : TgF) (gt : BF) : PF := fun ρ => (gi ρ).bind fun ds => (evalGo stop tgt gt (wipeE ρ vs) ds).map .bl
theorem wipe_none {σ : L2.St} : ∀ {vs : List Nat} {i : Nat}, i ∈ vs → ∀ v, (L2.wipe σ vs)[i]? ≠ some (some v) := fun {vs i} h v e => (wipe_some e).2 h
/-- the generator is made; what follows sees it asleep ahead of its first turn -/
theorem gen_made {c P : Addr} {f : He.Defn} {stop : Bool} {Q' : Value → Shared → Prop} {Q : VK} {pins : List (Addr × Obj)} {σ : L2.St} {H : Hp} {s : Shared} (hf : f ∈ tabDefs) (hcP : He.cT X.K f = (c, P)) (hr : Room (k + 1) X.A) (hT : GxR.TabB X.base X.mg c P) (hc : X.env.code = .ref c) (S : GSc X.env.scope X.N scope vs) (hi : QIw X tg iter gi)
    (ht : ∀ (A2 : Around) (s0 : Shared) (H0 : Hp) (cl : List (Str × Addr)) (C : Addr) (cd : Value) (ex : List Addr) (pn : List (Addr × Obj)), QG (gcx X A2 s0 H0 (genEnv scope cl C cd builtinsNs X.env) ex pn) tg sl tgt)
    (he : ∀ (A2 : Around) (s0 : Shared) (H0 : Hp) (cl : List (Str × Addr)) (C : Addr) (cd : Value) (ex : List Addr) (pn : List (Addr × Obj)), Room k (A2.deeper (genEnv scope cl C cd builtinsNs X.env)) → QD (gcx X A2 s0 H0 (genEnv scope cl C cd builtinsNs X.env) ex pn) elt (asB gt))
    (hsl : ∀ i ∈ sl, i ∈ vs) (hs : ∀ v, genFold iter X.env v = pure v) (I : L2.Inv X pins σ H s) (h : tD (gx X) (evalG stop gi vs tgt gt) σ H Q)
    (hQ : ∀ (Y : Cx) (σw : L2.St) (fp : List Addr) (tn : Nat → Heap → Prop) (B1 H1 : Hp) (ds : List D) (ρw : Ev) (r : Bool) (a : Addr) (g : Nat) (s5 : Shared), Y.prog = X.prog → Y.w = X.w → (∀ {s' H'}, L2.Inv Y [] σw H' s' → s'.heap.IsGen a g) → g < s5.gens.size → Sleeps Y X.A.in1.in1 σw fp tn B1 H1 ds tgt gt ρw stop r a g 0 s5 →
      (∀ s', GEn Y σw B1 H1 s' → EP X pins σ Q (.bool r) s') → Q' (.ref a) s5) :
    wpAny (model X.prog X.w) X.A (eval (.GeneratorExp elt [⟨tg, iter, [], 0⟩] scope gpos) X.env) Q' X.xe s := by
  obtain ⟨ρ, B, As, d, R, e1, kk⟩ := h
  obtain ⟨ds, e2, e3⟩ := Option.bind_eq_some_iff.mp e1
  obtain ⟨r, e4, rfl⟩ := Option.map_eq_some_iff.mp e3
  refine wpAny_GeneratorExp_make S.co (closure_ok fun y hy z => I.ok.has y.1 (S.free y hy z)) S.cell S.dot S.kind hr.depth ?_ hs
  refine thn ((qiw_pi hi).run pins s σ H (fun J H2 => ∃ B2, Grow B H B2 H2 ∧ Yl (gx X) B2 H2 J ds) I ⟨ρ, B, As, ds, R, e2, fun J B2 H2 g2 y => ⟨B2, g2, y⟩⟩) fun v s1 h1 => thn h1 fun itv s2 h2 => ?_
  obtain ⟨it, fp, tn, J, H2, rfl, I2, T, t2, f2, B2, g2, y2⟩ := h2
  refine ⟨I2.nolimit, ?_⟩
  have R2 := R.grow g2
  have hP : GxR.TabG H2 P := by
    have := R2.tb f hf
    rw [show (gx X).K = X.K from rfl, hcP] at this; exact this
  refine gen_code I2 hT hc hP fun code s3 H3 I3 tb k3 => ?_
  obtain ⟨bm, ob, b1, b2, b3, b4, b5, b6, b7, b8⟩ := hT.bm
  refine wpAny_builtinsFor (m := X.mg) (by rw [I3.ok.glob]; exact I3.mod.glob.keeps I3.bk) b1 b2 (I3.bk _ _ b5) b6 b7 b8 ?_
  intro h' hn hsb
  have sm : Same H2 H3 := fun b o q => by
    obtain ⟨ps, q1, q2⟩ := hP
    obtain ⟨⟨qs, q3, q4⟩, same⟩ := tb
    by_cases z : b = P
    · subst z
      rw [q1] at q; cases q
      exact ⟨qs, q3, fun _ => q4⟩
    · exact kept_of (by rw [same b z]; exact q)
  have g3 : Grow B2 H2 B2 H3 := ⟨sm, .refl _, R2.sub.trans sm, fun _ _ => rfl⟩
  have none3 : ∀ {b}, H2 b = none → H3 b = none := fun {b} e => by
    by_cases z : b = P
    · subst z
      obtain ⟨ps, q1, _⟩ := hP
      rw [q1] at e; cases e
    · rw [tb.2 b z]; exact e
  have fne : ∀ b ∈ fp, b ≠ P := fun b hb z => by
    have := (f2 b hb).1
    obtain ⟨ps, q1, _⟩ := hP
    rw [z, q1] at this; cases this
  have t3 : tn 0 s3.heap := T.keep _ _ _ t2 fun b hb o e => k3 b o (fne b hb) e
  have f3 : ∀ b ∈ fp, FpOk X pins H3 b := fun b hb => ⟨none3 (f2 b hb).1, (f2 b hb).2⟩
  have J0 := inv_gen (A2 := X.A.in1.in1) (code := code) (it := .ref it) (ex := fp) (g0 := .fresh (.compStart (.GeneratorExp elt [⟨tg, iter, [], 0⟩] scope gpos) 0 (.ref it) .none (genEnv scope (cloFrom X.env.cells scope.names []) s3.heap.objs.size code builtinsNs X.env)))
    (tk := s3.toks + 1 + 1 + 1) (go := { cls := .type "generator", data := .fields #[.int s3.gens.size 0, .str "<genexpr>" (s3.toks + 1), .str (X.env.qual ++ "<genexpr>") (s3.toks + 1 + 1)] }) I3 S hr.hd rfl hn hsb (fun v z => by cases z) rfl (fun b hb => ⟨f3 b hb, by
      obtain ⟨o, e, _⟩ := T.obj _ _ t3 b hb
      exact ⟨o, e⟩⟩) rfl
  generalize hcenv : genEnv scope (cloFrom X.env.cells scope.names []) s3.heap.objs.size code builtinsNs X.env = cenv at J0 ⊢
  generalize hgo : ({ cls := .type "generator", data := .fields #[.int s3.gens.size 0, .str "<genexpr>" (s3.toks + 1), .str (X.env.qual ++ "<genexpr>") (s3.toks + 1 + 1)] } : Obj) = go at J0 ⊢
  generalize hs5 : ({ s3 with gens := s3.gens.push (.fresh (.compStart (.GeneratorExp elt [⟨tg, iter, [], 0⟩] scope gpos) 0 (.ref it) .none cenv)), toks := s3.toks + 1 + 1 + 1, heap := h'.push go } : Shared) = s5 at J0 ⊢
  generalize hY : gcx X X.A.in1.in1 s3 H3 cenv fp [(h'.objs.size, go)] = Y at J0
  have genIs : ∀ {s' H'}, L2.Inv Y [] (L2.wipe σ vs) H' s' → s'.heap.IsGen h'.objs.size s3.gens.size := fun {s' H'} I' => by
    have := (I'.pin (h'.objs.size, go) (by subst hY; simp [gcx])).1
    subst hgo
    exact ⟨_, _, _, this, rfl, rfl, rfl⟩
  have R3 := R2.grow g3
  obtain ⟨Asw, k1, ss1⟩ := R3.env.wipe vs
  have Rw : Rel (gx X) B2 H3 (L2.wipe σ vs) (wipeE ρ vs) Asw := R3.sublist k1 ss1
  have t5 : tn 0 s5.heap := by
    subst hs5
    refine T.keep _ _ _ t3 fun b hb o e => ?_
    exact Heap.get?_push_of_some _ ((hsb.2 b (Nat.ne_of_lt (Heap.lt_size e))).trans (Heap.get?_push_of_some _ e))
  have G5 : GTn Y (L2.wipe σ vs) fp tn B2 H3 0 s5 := ⟨B2, H3, .refl Rw.sub, J0, t5, fun b hb => (f3 b hb).1⟩
  have hrk : Room k (X.A.in1.in1.deeper cenv) := ⟨hr.hd, by have := hr.dp; show X.A.depth + 1 + 3 * k + 5 < _; omega, by have := hr.un; show X.A.units + 1 + 1 + 3 + 16 * k + 200 < _; omega⟩
  have st : ∀ {s9 : Shared} {σ9 : L2.St} {H9 : Hp}, L2.Inv Y [] σ9 H9 s9 → (∀ b ∈ fp, H9 b = none) → ∀ b ∈ fp, FpOk Y [] H9 b := fun {s9 σ9 H9} I9 hn9 b hb => by
    subst hY
    obtain ⟨q1, q2⟩ := I9.ok.exf b hb
    refine ⟨hn9 b hb, q1, I9.ok.exfs b hb, .inl hb, fun x c e => q2 x c e, fun pp hp => ?_⟩
    obtain rfl : pp = (h'.objs.size, go) := by simpa [gcx] using hp
    obtain ⟨o, e, _⟩ := T.obj _ _ t3 b hb
    have h9 := Heap.lt_size e
    have hsz : h'.objs.size = s3.heap.objs.size + 1 := by rw [hsb.1, Heap.size_push]
    intro z
    have z : h'.objs.size = b := z
    rw [← z, hsz] at h9
    exact absurd h9 (Nat.not_lt.mpr (Nat.le_succ _))
  refine hQ Y (L2.wipe σ vs) fp tn B2 H3 ds (wipeE ρ vs) r _ s3.gens.size s5 (by subst hY; rfl) (by subst hY; rfl) genIs (by subst hs5; show _ < (s3.gens.push _).size; rw [Array.size_push]; omega) ⟨genIs J0, G5, .fresh (.compStart (.GeneratorExp elt [⟨tg, iter, [], 0⟩] scope gpos) 0 (.ref it) .none cenv), by subst hs5; exact Array.getElem?_push_size .., fun s'' h'' => ⟨rfl, ?_⟩⟩ fun s' ⟨B', H', g', I'⟩ => ?_
  · have ht0 := ht X.A.in1.in1 s3 H3 (cloFrom X.env.cells scope.names []) s3.heap.objs.size code fp [(h'.objs.size, go)]
    have he0 := he X.A.in1.in1 s3 H3 (cloFrom X.env.cells scope.names []) s3.heap.objs.size code fp [(h'.objs.size, go)] (by rw [hcenv]; exact hrk)
    rw [hcenv, hY] at ht0 he0
    have tt := h''
    obtain ⟨_, _, _, _, t6, _⟩ := tt
    refine seg_starts (Y := Y) (A2 := X.A.in1.in1) (cenv := cenv) (by subst hY; rfl) (by subst hY; rfl) (by subst hY; exact T) t6 ?_
    refine seg_turns (Y := Y) (A2 := X.A.in1.in1) (cenv := cenv) (iter := iter) (scope := scope) (pos := gpos) (ds := ds) (sl := sl) (vs := vs) (As := Asw) (by subst hY; rfl) (by subst hY; rfl) hr.hd (by subst hY; rfl) (by subst hY; rfl) (by subst hcenv; exact S.co) st (by subst hY; exact T) ?_ ht0 he0 hsl (fun i hi => wipe_none hi) ?_ ds.length 0 s'' s'' rfl (Nat.zero_le _) e4 h''
    · have : Yl (gx X) B2 H3 J ds := ⟨fun i H s => y2.go i H (sm.trans s), fun i H s => y2.stop i H (sm.trans s), fun i H x H' s => y2.yld i H x H' (sm.trans s)⟩
      subst hY; exact this
    · subst hY; exact Rw
  · have base := I'.base
    subst hY
    refine ⟨.bl r, H', I3.call' (ch := fp) I'.os base I'.hok I'.bare fun b hb => ⟨(f3 b hb).2.2.2.1, (f3 b hb).2.1, fun x c e z => (f3 b hb).2.2.2.2.1 x c e z, fun pp hp z => (f3 b hb).2.2.2.2.2 pp hp z⟩, rfl, kk _ B' H' ((g2.trans g3).trans g') rfl⟩
theorem qd_anyG {c P : Addr} {f : He.Defn} (hf : f ∈ tabDefs) (hcP : He.cT X.K f = (c, P)) (hr : Room (k + 1) X.A) (hg : Gl X "any") (hm : X.mg "any" = none) (hT : GxR.TabB X.base X.mg c P) (hc : X.env.code = .ref c) (S : GSc X.env.scope X.N scope vs) (hi : QIw X tg iter gi)
    (ht : ∀ (A2 : Around) (s0 : Shared) (H0 : Hp) (cl : List (Str × Addr)) (C : Addr) (cd : Value) (ex : List Addr) (pn : List (Addr × Obj)), QG (gcx X A2 s0 H0 (genEnv scope cl C cd builtinsNs X.env) ex pn) tg sl tgt)
    (he : ∀ (A2 : Around) (s0 : Shared) (H0 : Hp) (cl : List (Str × Addr)) (C : Addr) (cd : Value) (ex : List Addr) (pn : List (Addr × Obj)), Room k (A2.deeper (genEnv scope cl C cd builtinsNs X.env)) → QD (gcx X A2 s0 H0 (genEnv scope cl C cd builtinsNs X.env) ex pn) elt (asB gt))
    (hsl : ∀ i ∈ sl, i ∈ vs := by decide) (hs : ∀ v, genFold iter X.env v = pure v := by intro _; rfl)
    (hst : starEach [.GeneratorExp elt [⟨tg, iter, [], 0⟩] scope gpos] X.env = (false, eval (.GeneratorExp elt [⟨tg, iter, [], 0⟩] scope gpos) X.env) :: starEach [] X.env := by rfl) :
    QD X (.Call (.Name "any" p) [.GeneratorExp elt [⟨tg, iter, [], 0⟩] scope gpos] [] pos) (evalG true gi vs tgt gt) := by
  refine ⟨fun pins s σ H Q I h => wpAny_Call_Name_kw (ld_blt I hg hm bt_any (PyProof.Rows.callWith_builtin1 ?_ hst (by rfl)))⟩
  rw [hst]
  show wpAny _ _ (spliced ((false, eval (.GeneratorExp elt [⟨tg, iter, [], 0⟩] scope gpos) X.env) :: backTo pos (starEach [] X.env))) _ _ s
  refine Calls.spliced_cons (gen_made hf hcP hr hT hc S hi ht he hsl hs I h fun Y σw fp tn B1 H1 ds ρw r a g s5 hp hw genIs hlt sl0 fin => Calls.spliced_nil ?_)
  refine call_function_tree F.kind_any F.plain_any F.entry_any (F.args_any1 _) ?_
  unfold Builtin.«any»
  refine wpAny_bind (m := oneArg "any" _) (wpAny_pure ?_)
  refine wpAny_bind (wpAny_pyIter_gen sl0.1 ?_)
  refine wpAny_pure ⟨plainId_quiet F.plain_any_loop _, ?_⟩
  rw [← hp, ← hw]
  exact any_turns hr.hd hr.depth genIs (fun s' e => fin s' e) ds.length 0 s5 rfl (Nat.zero_le _) hlt sl0
theorem qd_allG {c P : Addr} {f : He.Defn} (hf : f ∈ tabDefs) (hcP : He.cT X.K f = (c, P)) (hr : Room (k + 1) X.A) (hg : Gl X "all") (hm : X.mg "all" = none) (hT : GxR.TabB X.base X.mg c P) (hc : X.env.code = .ref c) (S : GSc X.env.scope X.N scope vs) (hi : QIw X tg iter gi)
    (ht : ∀ (A2 : Around) (s0 : Shared) (H0 : Hp) (cl : List (Str × Addr)) (C : Addr) (cd : Value) (ex : List Addr) (pn : List (Addr × Obj)), QG (gcx X A2 s0 H0 (genEnv scope cl C cd builtinsNs X.env) ex pn) tg sl tgt)
    (he : ∀ (A2 : Around) (s0 : Shared) (H0 : Hp) (cl : List (Str × Addr)) (C : Addr) (cd : Value) (ex : List Addr) (pn : List (Addr × Obj)), Room k (A2.deeper (genEnv scope cl C cd builtinsNs X.env)) → QD (gcx X A2 s0 H0 (genEnv scope cl C cd builtinsNs X.env) ex pn) elt (asB gt))
    (hsl : ∀ i ∈ sl, i ∈ vs := by decide) (hs : ∀ v, genFold iter X.env v = pure v := by intro _; rfl)
    (hst : starEach [.GeneratorExp elt [⟨tg, iter, [], 0⟩] scope gpos] X.env = (false, eval (.GeneratorExp elt [⟨tg, iter, [], 0⟩] scope gpos) X.env) :: starEach [] X.env := by rfl) :
    QD X (.Call (.Name "all" p) [.GeneratorExp elt [⟨tg, iter, [], 0⟩] scope gpos] [] pos) (evalG false gi vs tgt gt) := by
  refine ⟨fun pins s σ H Q I h => wpAny_Call_Name_kw (ld_blt I hg hm bt_all (PyProof.Rows.callWith_builtin1 ?_ hst (by rfl)))⟩
  rw [hst]
  show wpAny _ _ (spliced ((false, eval (.GeneratorExp elt [⟨tg, iter, [], 0⟩] scope gpos) X.env) :: backTo pos (starEach [] X.env))) _ _ s
  refine Calls.spliced_cons (gen_made hf hcP hr hT hc S hi ht he hsl hs I h fun Y σw fp tn B1 H1 ds ρw r a g s5 hp hw genIs hlt sl0 fin => Calls.spliced_nil ?_)
  refine call_function_tree F.kind_all F.plain_all F.entry_all (F.args_all1 _) ?_
  unfold Builtin.«all»
  refine wpAny_bind (m := oneArg "all" _) (wpAny_pure ?_)
  refine wpAny_bind (wpAny_pyIter_gen sl0.1 ?_)
  refine wpAny_pure ⟨plainId_quiet F.plain_all_loop _, ?_⟩
  rw [← hp, ← hw]
  exact all_turns hr.hd hr.depth genIs (fun s' e => fin s' e) ds.length 0 s5 rfl (Nat.zero_le _) hlt sl0
end main
@[simp] theorem wp_evalG {stop : Bool} {gi : IF} {vs : List Nat} {tgt : TgF} {gt : BF} {ρ : Ev} {Q : D → Prop} : wp (evalG stop gi vs tgt gt ρ) Q ↔ wp (gi ρ) fun ds => wp (evalGo stop tgt gt (wipeE ρ vs) ds) fun b => Q (.bl b) := by simp [evalG]
/-- each test is defined -/
theorem evalGo_any {α : Type} {enc : α → D} {tgt : TgF} {gt : BF} {ρ : Ev} {xs : List α} {p : α → Bool} (h : ∀ x ∈ xs, wp (tgt (enc x) ρ) fun ρ1 => wp (gt ρ1) fun b => b = p x) : evalGo true tgt gt ρ (xs.map enc) = some (xs.any p) := by
  induction xs with
  | nil => rfl
  | cons x xs ih =>
    obtain ⟨ρ1, e1, b, e2, rfl⟩ := h x (by simp)
    simp only [List.map_cons, evalGo, e1, e2, Option.bind_some, List.any_cons]
    rw [ih fun y hy => h y (by simp [hy])]
    cases p x <;> rfl
theorem evalGo_all {α : Type} {enc : α → D} {tgt : TgF} {gt : BF} {ρ : Ev} {xs : List α} {p : α → Bool} (h : ∀ x ∈ xs, wp (tgt (enc x) ρ) fun ρ1 => wp (gt ρ1) fun b => b = p x) : evalGo false tgt gt ρ (xs.map enc) = some (xs.all p) := by
  induction xs with
  | nil => rfl
  | cons x xs ih =>
    obtain ⟨ρ1, e1, b, e2, rfl⟩ := h x (by simp)
    simp only [List.map_cons, evalGo, e1, e2, Option.bind_some, List.all_cons]
    rw [ih fun y hy => h y (by simp [hy])]
    cases p x <;> rfl
end Q

namespace Q
open PySem PySem.Spec PyProof.Rows L2
theorem hu_of {k : Nat} {A : Around} (r : Room k A) : A.units + 1 < cLine := by have := r.units; omega
@[simp] theorem wp_valP {g : NF} {ρ : Ev} {Q : D → Prop} : wp (valP g ρ) Q ↔ wp (g ρ) (fzK Q) := by
  unfold valP
  rw [wp_bind]
  constructor <;> intro h <;> refine wp_mono h fun r h => ?_ <;> cases r <;> simpa [fzK] using h
@[simp] theorem wp_viewP {g : NF} {ρ : Ev} {Q : D → Prop} : wp (viewP g ρ) Q ↔ wp (g ρ) fun o => wp o.view Q := by simp [viewP]
@[simp] theorem wp_getP {i : Nat} {p : List Stp} {ρ : Ev} {Q : O → Prop} : wp (getP i p ρ) Q ↔ wp (ρ[i]?.join) fun o => wp (O.get p o) Q := by simp [getP]
@[simp] theorem get_nil {o : O} : O.get [] o = some o := rfl
@[simp] theorem wp_get_cons {s : Stp} {p : List Stp} {o : O} {Q : O → Prop} : wp (O.get (s :: p) o) Q ↔ wp (O.stp s o) fun o1 => wp (O.get p o1) Q := by simp [O.get]
@[simp] theorem stp_ob {cs : List Str} {x c : Str} {fs : List (Str × O)} : O.stp (.f cs x) (.ob c fs) = if c ∈ cs then fs.lookup x else none := rfl
@[simp] theorem stp_fzo {cs : List Str} {x c : Str} {fs : List (Str × D)} : O.stp (.f cs x) (.fz (.obj c fs)) = if c ∈ cs then (fs.lookup x).map .fz else none := rfl
@[simp] theorem stp_ns {n : Nat} {os : List O} : O.stp (.ix n) (.ns os) = os[n]? := rfl
@[simp] theorem stp_ls {n : Nat} {os : List D} : O.stp (.ix n) (.ls os) = (os[n]?).map .fz := rfl
@[simp] theorem stp_fzl {n : Nat} {os : List D} : O.stp (.ix n) (.fz (.lst os)) = (os[n]?).map .fz := rfl
@[simp] theorem wp_putP {i : Nat} {p : List Stp} {n : O} {ρ : Ev} {Q : Ev → Prop} : wp (putP i p n ρ) Q ↔ wp (ρ[i]?.join) fun o => wp (O.put p n o) fun o' => Q (ρ.set i (some o')) := by simp [putP]
@[simp] theorem put_nil {n o : O} : O.put [] n o = some n := rfl
@[simp] theorem wp_put_cons {s : Stp} {p : List Stp} {n o : O} {Q : O → Prop} : wp (O.put (s :: p) n o) Q ↔ wp (O.stp s o) fun o1 => wp (O.put p n o1) fun o2 => wp (O.stpPut s o2 o) Q := by simp [O.put]
@[simp] theorem stpPut_ob {cs : List Str} {x c : Str} {n : O} {fs : List (Str × O)} : O.stpPut (.f cs x) n (.ob c fs) = if c ∈ cs then some (.ob c (repF x n fs)) else none := rfl
@[simp] theorem stpPut_ns {k : Nat} {n : O} {os : List O} : O.stpPut (.ix k) n (.ns os) = some (.ns (os.set k n)) := rfl
def apPK (i : Nat) (p : List Stp) (g : PF) (ρ : Ev) (Q : Out × Ev → Prop) : O → Prop
  | .ls ds => wp (g ρ) fun d => ds.length < sizeLine ∧ wp (putP i p (.ls (ds ++ [d])) ρ) fun ρ' => Q (.nx, ρ')
  | _ => False
@[simp] theorem apPK_ls {i p g ρ Q ds} : apPK i p g ρ Q (.ls ds) ↔ wp (g ρ) fun d => ds.length < sizeLine ∧ wp (putP i p (.ls (ds ++ [d])) ρ) fun ρ' => Q (.nx, ρ') := Iff.rfl
@[simp] theorem wp_appP {i : Nat} {p : List Stp} {g : PF} {ρ : Ev} {Q : Out × Ev → Prop} : wp (appP i p g ρ) Q ↔ wp (getP i p ρ) (apPK i p g ρ Q) := by
  unfold appP; rw [wp_bind]
  constructor <;> intro h <;> refine wp_mono h fun o ho => ?_ <;> cases o <;> first | (simp only [wp_none] at ho) | (simp only [apPK] at ho) | skip
  · simpa [apPK] using ho
  · simpa [apPK] using ho
@[simp] theorem wp_stoP {i : Nat} {p : List Stp} {gi : PF} {g : EF} {ρ : Ev} {Q : Out × Ev → Prop} : wp (stoP i p gi g ρ) Q ↔ wp (g ρ) fun r => wp (getP i p r.2) fun o => wp (gi r.2) fun k => wp (O.sto o k r.1.fr) fun o2 => wp (putP i p o2 r.2) fun ρ' => Q (.nx, ρ') := by simp [stoP]
@[simp] theorem sto_ls {ds : List D} {j : Int} {d : D} : O.sto (.ls ds) (.int j) d = (L2.ixN ds.length j).map fun n => .ls (ds.set n d) := rfl
@[simp] theorem sto_ns {os : List O} {j : Int} {d : D} : O.sto (.ns os) (.int j) d = (L2.ixN os.length j).bind fun n => match os[n]? with
    | some (.fz _) => some (.ns (os.set n (.fz d)))
    | _ => none := rfl
@[simp] theorem wp_callME {c m : Str} {f : FS} {i : Nat} {as : List Arg} {ρ : Ev} {Q : O × Ev → Prop} : wp (callME c m f i as ρ) Q ↔ wp (ρ[i]?.join) fun o => wp (recvO c m o) fun _ => wp (callE f (.m i :: as) ρ) Q := by simp [callME]
@[simp] theorem recvO_ob {c m c' : Str} {fs : List (Str × O)} : recvO c m (.ob c' fs) = if c' = c ∧ fs.lookup m = none then some () else none := rfl
/-! ### texts and lists: index, count -/
def idxF (x : D) (ds : List D) : Nat := ds.findIdx fun d => eqF d x == some true
def indexD : D → D → Option D
  | .lst ds, x => if flatD x = true ∧ inF x ds = some true then some (.int (idxF x ds)) else none
  | _, _ => none
def indexF (ga gb : PF) : PF := fun ρ => (ga ρ).bind fun x => (gb ρ).bind fun y => indexD x y
theorem inF_defined {x : D} : ∀ {ds : List D} {b : Bool}, inF x ds = some b → ∀ d ∈ ds, (eqF d x).isSome = true
  | [], b, h, d, hd => by cases hd
  | e :: ds, b, h, d, hd => by
    simp only [inF] at h
    obtain ⟨c, e1, e2⟩ := Option.bind_eq_some_iff.mp h
    obtain ⟨c', e3, _⟩ := Option.map_eq_some_iff.mp e2
    rcases List.mem_cons.mp hd with rfl | hd
    · rw [e1]; rfl
    · exact inF_defined e3 d hd
theorem inF_true {x : D} : ∀ {ds : List D}, inF x ds = some true → ∃ d ∈ ds, eqF d x = some true
  | [], h => by simp [inF] at h
  | e :: ds, h => by
    simp only [inF] at h
    obtain ⟨c, e1, e2⟩ := Option.bind_eq_some_iff.mp h
    obtain ⟨c', e3, e4⟩ := Option.map_eq_some_iff.mp e2
    cases c with
    | true => exact ⟨e, by simp, e1⟩
    | false =>
      have e4 : c' = true := by simpa using e4
      subst e4
      obtain ⟨d, hd, h⟩ := inF_true e3
      exact ⟨d, by simp [hd], h⟩
section meths
variable {X : Cx} {o e : Expr} {ga gb : PF} {apos cpos : Pos}
theorem qd_index (ho : QW X o ga) (he : QW X e gb)
    (hbase : attributeBase o "index" X.env (eval o X.env) = eval o X.env := by rfl)
    (hfew : ((backTo cpos (starEach (e :: []) X.env)).all (fun x => !x.1) && (backToKw cpos (keywordEach [] X.env)).all (fun x => x.1.isSome)
      && decide ((e :: []).length + ([] : List Keyword).length + (if ([] : List Keyword).isEmpty then 0 else 1) < 30)) = true := by rfl)
    (hline : (apos.endLine == cpos.line) = true := by rfl) (hs : starEach (e :: []) X.env = (false, eval e X.env) :: starEach [] X.env := by rfl) (hplain : (backTo cpos (starEach [] X.env)).any (·.1) = false := by rfl) :
    QD X (.Call (.Attribute o "index" apos) [e] [] cpos) (indexF ga gb) :=
  pe_imp (pe_bm PySem.F.plainAttrs_list PySem.F.slot_list_index PySem.F.type_list_index mt_index ho (pa_cons he pa_nil hs) hbase hfew hline hs hplain) fun σ H Q ⟨ρ, B, As, d, R, e0, k⟩ => by
  obtain ⟨x, y, e1, e2, e3⟩ := two e0
  refine ⟨ρ, B, As, x, R, e1, fun v B1 H1 g1 w1 => ?_⟩
  cases x <;> simp only [indexD, reduceCtorEq] at e3
  rename_i ds
  obtain ⟨⟨hf, hin⟩, rfl⟩ := if_some e3
  obtain ⟨a, vs, rfl, h1, h2⟩ := w1
  refine ⟨Or.inl ⟨rfl, vs, SqL.of h1⟩, ρ, B1, As, y, R.grow g1, e2, fun w B2 H2 g2 w2 => ?_⟩
  have h1' : H2 a = some (.lst vs) := g2.hh.eq h1 rfl
  have h2' := h2.mono g2.bb
  obtain ⟨f1, f2, _⟩ := inF_of w2 hin h2'
  obtain ⟨d0, hd0, he0⟩ := inF_true hin
  have hlt : idxF y ds < ds.length := List.findIdx_lt_length.mpr ⟨d0, hd0, by simp [he0]⟩
  obtain ⟨z, z1, z2⟩ := h2'.get (List.getElem?_eq_getElem hlt)
  have ez : eqF ds[idxF y ds] y = some true := by
    have := List.findIdx_getElem (w := hlt)
    exact eq_of_beq this
  refine ⟨a, vs, w, idxF y ds, z, rfl, rfl, SqL.of h1', flatD_of w2 hf, f1, z1, (eqF_of ez z2 w2).2.2, fun m z' hm hz' => ?_, k _ B2 H2 (g1.trans g2) rfl⟩
  have hml : m < ds.length := by omega
  obtain ⟨z3, z4, z5⟩ := h2'.get (List.getElem?_eq_getElem hml)
  rw [z4] at hz'; cases hz'
  have hne : (eqF ds[m] y == some true) = false := by
    have := List.not_of_lt_findIdx (h := hm)
    simpa using this
  obtain ⟨b, hb⟩ := Option.isSome_iff_exists.mp (inF_defined hin ds[m] (List.getElem_mem hml))
  rw [hb] at hne
  cases b with
  | true => simp at hne
  | false => exact (eqF_of hb z5 w2).2.2
def countD : D → D → Option D
  | .str a, .str b => some (.int (Txt.count a b))
  | _, _ => none
def countF (ga gb : PF) : PF := fun ρ => (ga ρ).bind fun x => (gb ρ).bind fun y => countD x y
theorem qd_count (ho : QW X o ga) (he : QW X e gb)
    (hbase : attributeBase o "count" X.env (eval o X.env) = eval o X.env := by rfl)
    (hfew : ((backTo cpos (starEach (e :: []) X.env)).all (fun x => !x.1) && (backToKw cpos (keywordEach [] X.env)).all (fun x => x.1.isSome)
      && decide ((e :: []).length + ([] : List Keyword).length + (if ([] : List Keyword).isEmpty then 0 else 1) < 30)) = true := by rfl)
    (hline : (apos.endLine == cpos.line) = true := by rfl) (hs : starEach (e :: []) X.env = (false, eval e X.env) :: starEach [] X.env := by rfl) (hplain : (backTo cpos (starEach [] X.env)).any (·.1) = false := by rfl) :
    QD X (.Call (.Attribute o "count" apos) [e] [] cpos) (countF ga gb) :=
  pe_imp (pe_bm PySem.F.plainAttrs_str PySem.F.slot_str_count PySem.F.type_str_count mt_count ho (pa_cons he pa_nil hs) hbase hfew hline hs hplain) fun σ H Q ⟨ρ, B, As, d, R, e0, k⟩ => by
  obtain ⟨x, y, e1, e2, e3⟩ := two e0
  refine ⟨ρ, B, As, x, R, e1, fun v B1 H1 g1 w1 => ?_⟩
  unfold countD at e3
  split at e3
  case h_2 => cases e3
  cases e3
  cases rw_str w1
  refine ⟨rfl, ρ, B1, As, _, R.grow g1, e2, fun w B2 H2 g2 w2 => ?_⟩
  cases rw_str w2
  exact ⟨_, _, rfl, rfl, k _ B2 H2 (g1.trans g2) rfl⟩
end meths
/-! ### dicts -/
def kD : D → Option Key
  | .int i => some (.inl i)
  | .str x => some (.inr x)
  | _ => none
@[simp] theorem kD_keyD (q : Key) : kD (keyD q) = some q := by cases q <;> rfl
def dget (q : Key) : List (D × D) → Option D
  | [] => none
  | (k, d) :: r => if kD k = some q then some d else dget q r
def dput (q : Key) (d : D) (kvs : List (D × D)) : List (D × D) :=
  if (dget q kvs).isSome = true then kvs.map fun p => if kD p.1 = some q then (p.1, d) else p else kvs ++ [(keyD q, d)]
theorem RepKs.get {G : Gx} {B : Hp} {q : Key} : ∀ {kvs : List (D × D)} {ps : List (Key × V)}, RepKs G B kvs ps → match dget q kvs with
    | some d => ∃ v, valV ps q = some v ∧ RepD G B d v
    | none => valV ps q = none
  | [], ps, h => by simp only [RepKs] at h; subst h; rfl
  | (k, d) :: kvs, ps, h => by
    simp only [RepKs] at h
    obtain ⟨q', v, r, rfl, rfl, h1, h2⟩ := h
    simp only [dget, kD_keyD, Option.some.injEq]
    by_cases z : q' = q
    · subst z
      rw [if_pos rfl]
      exact ⟨v, valV_pos rfl, h1⟩
    · rw [if_neg z]
      have := RepKs.get (q := q) h2
      cases hh : dget q kvs with
      | none => rw [hh] at this; exact (valV_neg (p := (q', v)) z).trans this
      | some d2 =>
        rw [hh] at this
        obtain ⟨v2, e1, e2⟩ := this
        exact ⟨v2, (valV_neg (p := (q', v)) z).trans e1, e2⟩
theorem RepKs.map {G : Gx} {B : Hp} {q : Key} {d : D} {v : V} (r : RepD G B d v) : ∀ {kvs : List (D × D)} {ps : List (Key × V)}, RepKs G B kvs ps → RepKs G B (kvs.map fun p => if kD p.1 = some q then (p.1, d) else p) (ps.map fun kv => if kv.1 = q then (kv.1, v) else kv)
  | [], ps, h => by simp only [RepKs] at h; subst h; rfl
  | (k, e) :: kvs, ps, h => by
    simp only [RepKs] at h
    obtain ⟨q', w, t, rfl, rfl, h1, h2⟩ := h
    simp only [List.map_cons, kD_keyD, Option.some.injEq]
    by_cases z : q' = q
    · rw [if_pos z, if_pos z]
      exact ⟨q', v, _, rfl, rfl, r, RepKs.map r h2⟩
    · rw [if_neg z, if_neg z]
      exact ⟨q', w, _, rfl, rfl, h1, RepKs.map r h2⟩
theorem RepKs.snoc {G : Gx} {B : Hp} {q : Key} {d : D} {v : V} (r : RepD G B d v) : ∀ {kvs : List (D × D)} {ps : List (Key × V)}, RepKs G B kvs ps → RepKs G B (kvs ++ [(keyD q, d)]) (ps ++ [(q, v)])
  | [], ps, h => by simp only [RepKs] at h; subst h; exact ⟨q, v, [], rfl, rfl, r, rfl⟩
  | (k, e) :: kvs, ps, h => by
    simp only [RepKs] at h
    obtain ⟨q', w, t, rfl, rfl, h1, h2⟩ := h
    exact ⟨q', w, _, rfl, rfl, h1, RepKs.snoc r h2⟩
theorem RepKs.put {G : Gx} {B : Hp} {q : Key} {d : D} {v : V} (r : RepD G B d v) {kvs : List (D × D)} {ps : List (Key × V)} (h : RepKs G B kvs ps) : RepKs G B (dput q d kvs) (putK ps q v) := by
  have hg := RepKs.get (q := q) h
  unfold dput putK
  rw [valV_any]
  cases hh : dget q kvs with
  | none =>
    rw [hh] at hg
    have hg : valV ps q = none := hg
    rw [hg]
    simp only [Option.isSome_none, Bool.false_eq_true, if_false]
    exact RepKs.snoc r h
  | some d2 =>
    rw [hh] at hg
    obtain ⟨w, e1, _⟩ := hg
    rw [e1]
    simp only [Option.isSome_some, if_true]
    exact RepKs.map r h
theorem kV_of {G : Gx} {B H : Hp} {k : D} {q : Key} {v : V} (e : kD k = some q) (w : RepW G B H k v) : v = kV q := by
  cases k <;> simp only [kD, reduceCtorEq, Option.some.injEq] at e
  · subst e; exact rw_int w
  · subst e; exact rw_str w
def dicN : NF := fun _ => some (.dc [])
def ixKD : D → D → Option D
  | .dic kvs, k => (kD k).bind fun q => dget q kvs
  | _, _ => none
def ixK (ga gb : PF) : PF := fun ρ => (ga ρ).bind fun x => (gb ρ).bind fun y => ixKD x y
def inKD (x : D) : D → Option Bool
  | .dic kvs => (kD x).map fun q => (dget q kvs).isSome
  | _ => none
def inK (ga gb : PF) : BF := fun ρ => (ga ρ).bind fun x => (gb ρ).bind fun y => inKD x y
def ninK (ga gb : PF) : BF := fun ρ => (inK ga gb ρ).map (! ·)
section dicts
variable {X : Cx} {π : List Bool} {o i e : Expr} {ga gb : PF} {pos tpos : Pos}
theorem qn_dic : QN X (.Dict [] [] pos) dicN := pe_imp pe_dnewK fun σ H Q ⟨ρ, B, As, o, R, e, k⟩ p hp => by
  cases e
  have hs : Same H (upd H p (.dK [])) := .of fun b u q => by rw [upd_ne (ne_of_none q hp)]; exact q
  refine k _ B _ [p] ⟨⟨hs, .refl _, R.sub.trans hs, fun _ _ => rfl⟩, ⟨p, [], rfl, rfl, upd_same, rfl⟩, by simp, fun a h => ?_⟩
  obtain rfl : a = p := by simpa using h
  exact ⟨hp, R.sub.free hp, by rw [upd_same]; simp⟩
theorem qd_ixK (hu : X.A.units + 1 < cLine) (ho : QW X o ga) (hi : QW X i gb) (hs : NoSl i := by exact fun _ _ => rfl) : QD X (.Subscript o i pos) (ixK ga gb) := pe_imp (pe_dget hu ho hi hs) fun σ H Q ⟨ρ, B, As, d, R, e, k⟩ => by
  obtain ⟨x, y, e1, e2, e3⟩ := two e
  refine ⟨ρ, B, As, x, R, e1, fun v B1 H1 g1 w1 => ⟨ρ, B1, As, y, R.grow g1, e2, fun w B2 H2 g2 w2 => ?_⟩⟩
  cases x <;> simp only [ixKD, reduceCtorEq] at e3
  rename_i kvs
  obtain ⟨q, e4, e5⟩ := Option.bind_eq_some_iff.mp e3
  obtain ⟨a, ps, rfl, h1, h2⟩ := w1
  have hg := RepKs.get (q := q) (h2.mono g2.bb)
  rw [e5] at hg
  obtain ⟨u, h3, h4⟩ := hg
  exact ⟨a, u, rfl, .inl ⟨ps, q, .inl (g2.hh.eq h1 rfl), kV_of e4 w2, h3.symm⟩, k u B2 H2 (g1.trans g2) h4⟩
theorem inK_of {G : Gx} {σ : L2.St} {H : Hp} {Q : VK} (h : ∃ ρ B As b, Rel G B H σ ρ As ∧ inK ga gb ρ = some b ∧ ∀ B' H', Grow B H B' H' → Q (.bl b) H') : tDIn (tW G ga) (tW G gb) σ H Q := by
  obtain ⟨ρ, B, As, b, R, e, k⟩ := h
  obtain ⟨x, y, e1, e2, e3⟩ := two e
  refine ⟨ρ, B, As, x, R, e1, fun v B1 H1 g1 w1 => ⟨ρ, B1, As, y, R.grow g1, e2, fun w B2 H2 g2 w2 => ?_⟩⟩
  cases y <;> simp only [inKD, reduceCtorEq] at e3
  rename_i kvs
  obtain ⟨q, e4, rfl⟩ := Option.map_eq_some_iff.mp e3
  obtain ⟨a, ps, rfl, h1, h2⟩ := w2
  have hg := RepKs.get (q := q) h2
  refine ⟨a, valV ps q, rfl, .inl ⟨ps, q, .inl h1, kV_of e4 (w1.grow g2), rfl⟩, ?_⟩
  have : (valV ps q).isSome = (dget q kvs).isSome := by
    cases hh : dget q kvs with
    | none => rw [hh] at hg; have hg : valV ps q = none := hg; rw [hg]; rfl
    | some d => rw [hh] at hg; obtain ⟨u, h3, _⟩ := hg; rw [h3]; rfl
  rw [this]
  exact k B2 H2 (g1.trans g2)
theorem qd_inK (hu : X.A.units + 1 < cLine) (hi : QW X i ga) (ho : QW X o gb) (h1 : behindInMarks .In o = false := by first | exact nobehind _ (by decide) (by decide) | rfl) : QD X (.Compare i [.In] [o] pos) (asB (inK ga gb)) := pe_imp (L2.pe_cmp (pc_din hu hi ho) h1) fun _ _ _ h => inK_of (bl_of h)
theorem qd_ninK (hu : X.A.units + 1 < cLine) (hi : QW X i ga) (ho : QW X o gb) (h1 : behindInMarks .NotIn o = false := by first | exact nobehind _ (by decide) (by decide) | rfl) : QD X (.Compare i [.NotIn] [o] pos) (asB (ninK ga gb)) := pe_imp (L2.pe_cmp (pc_dnotin hu hi ho) h1) fun σ H Q h => by
  obtain ⟨ρ, B, As, b, R, e, k⟩ := bl_of h
  obtain ⟨c, e1, rfl⟩ := Option.map_eq_some_iff.mp e
  exact inK_of (Q := fun v H => ∃ b, v = .bl b ∧ Q (.bl !b) H) ⟨ρ, B, As, c, R, e1, fun B' H' g => ⟨c, rfl, k B' H' g⟩⟩ |> fun z => by
    obtain ⟨ρ1, B1, As1, x1, R1, q1, k1⟩ := z
    refine ⟨ρ1, B1, As1, x1, R1, q1, fun v B2 H2 g2 w2 => ?_⟩
    obtain ⟨ρ3, B3, As3, x3, R3, q3, k3⟩ := k1 v B2 H2 g2 w2
    refine ⟨ρ3, B3, As3, x3, R3, q3, fun w B4 H4 g4 w4 => ?_⟩
    obtain ⟨a, o, h1, h2, b, h3, h4⟩ := k3 w B4 H4 g4 w4
    cases h3
    exact ⟨a, o, h1, h2, h4⟩
def dputP (i : Nat) (p : List Stp) (gi : PF) (g : EF) : SF := fun ρ => (g ρ).bind fun r => (getP i p r.2).bind fun o => (gi r.2).bind fun k => match o with
  | .dc kvs => (kD k).bind fun q => if kvs.length < sizeLine then (putP i p (.dc (dput q r.1.fr kvs)) r.2).map fun ρ' => (.nx, ρ') else none
  | _ => none
theorem qs_dputP {j : Nat} {p : List Stp} {b ei ev : Expr} {g : EF} {gi : PF} (hu : X.A.units + 1 < cLine) (hb : QAt X b j p) (hi : QD X ei gi) (h : QE X ev g) (hs : swapsWith ev (some (.Subscript b ei tpos)) pos.line X.env = pure false := by rfl) :
    QS X π (.Assign [.Subscript b ei tpos] ev pos) (dputP j p gi g) := ps_imp (ps_dput hu hb hi h hs) fun Dn σ H ⟨ρ, B, As, out, ρ', R, e, pp⟩ => by
  obtain ⟨⟨oe, ρ1⟩, e1, e⟩ := Option.bind_eq_some_iff.mp e
  obtain ⟨o, q1, e⟩ := Option.bind_eq_some_iff.mp e
  obtain ⟨k, e2, e⟩ := Option.bind_eq_some_iff.mp e
  obtain ⟨kvs, rfl⟩ : ∃ kvs, o = .dc kvs := by cases o <;> first | exact ⟨_, rfl⟩ | cases e
  obtain ⟨q, e3, e⟩ := Option.bind_eq_some_iff.mp e
  split at e
  case isFalse => cases e
  rename_i hz
  obtain ⟨ρ2, e4, e5⟩ := Option.map_eq_some_iff.mp e
  cases e5
  refine ⟨ρ, B, As, oe, ρ1, R, e1, fun v B1 H1 As1 own s1 R1 ap => ?_⟩
  obtain ⟨s2, R2, rv⟩ := ap.freeze s1 R1
  refine ⟨ρ1, _, As1, _, R2, q1, fun l B3 H3 g3 ⟨v0, h0, hv⟩ => ⟨ρ1, B3, As1, k, R2.grow g3, e2, fun w B4 H4 g4 rw => ?_⟩⟩
  have R4 := (R2.grow g3).grow g4
  have hv4 := valAt_same g4.hh hv
  obtain ⟨own1, r4, _⟩ := R4.at q1 h0 hv4
  have rv4 := (rv.mono g3.bb).mono g4.bb
  simp only [RepO] at r4
  obtain ⟨a, ps, rfl, rfl, b3, b4⟩ := r4
  have hk : w = kV q := kV_of e3 (rw.w R4.sub)
  subst hk
  obtain ⟨As5, R5, s5⟩ := R4.changeP (H' := upd H4 a (.dK (putK ps q v))) (o2 := .dc (dput q oe.fr kvs)) q1 e4 fun w1 ow1 ⟨w0, c1, c2⟩ c3 _ => by
    rw [h0] at c1; cases c1
    have : w1 = .ref a := valAt_one c2 hv4
    subst this
    simp only [RepO] at c3
    obtain ⟨l2, vs2, e7, rfl, c4, c5⟩ := c3
    cases e7
    refine ⟨⟨a, putK ps q v, rfl, rfl, upd_same, RepKs.put rv4 b4⟩, fun b hb => upd_ne (by simpa using hb), fun b hb => ?_⟩
    obtain rfl : b = a := by simpa using hb
    rw [upd_same]; simp
  exact ⟨a, _, rfl, .inl ⟨ps, q, b3, rfl, by rw [b4.length]; exact hz, rfl⟩, pp σ _ _ As5 ((s2.trans ((g3.trans g4).step As1)).trans s5) R5 .refl⟩
end dicts
end Q

namespace Q
open PySem PySem.Spec PyProof.Rows L2
/-! ### a list of owned things -/
def evE : List EF → Ev → Option (List O × Ev)
  | [], ρ => some ([], ρ)
  | g :: gs, ρ => (g ρ).bind fun r => (evE gs r.2).map fun q => (r.1 :: q.1, q.2)
def tEs (G : Gx) (gs : List EF) : TA := fun σ H Q => ∃ ρ B As os ρ', Rel G B H σ ρ As ∧ evE gs ρ = some (os, ρ') ∧
  ∀ vs B' H' As' own, Step B H As B' H' (own ++ As') → Rel G B' H' σ ρ' As' → RepOs G B' H' os vs own → (own ++ As').Nodup → (∀ a ∈ own, B' a = none ∧ H' a ≠ none) → Q vs H'
abbrev QEs (X : Cx) (es : List Expr) (gs : List EF) : Prop := PA X es (tEs (gx X) gs)
theorem evE_len : ∀ {gs : List EF} {ρ ρ' : Ev} {os : List O}, evE gs ρ = some (os, ρ') → os.length = gs.length
  | [], ρ, ρ', os, h => by simp only [evE, Option.some.injEq, Prod.mk.injEq] at h; rw [← h.1]; rfl
  | g :: gs, ρ, ρ', os, h => by
    simp only [evE] at h
    obtain ⟨r, e1, e2⟩ := Option.bind_eq_some_iff.mp h
    obtain ⟨⟨os2, ρ2⟩, e3, e4⟩ := Option.map_eq_some_iff.mp e2
    cases e4
    simp [evE_len e3]
section nested
variable {X : Cx} {e : Expr} {es : List Expr} {g : EF} {gs : List EF} {pos : Pos}
theorem qes_nil : QEs X [] [] := pa_imp pa_nil fun σ H Q ⟨ρ, B, As, os, ρ', R, e, k⟩ => by
  simp only [evE, Option.some.injEq, Prod.mk.injEq] at e
  obtain ⟨rfl, rfl⟩ := e
  exact k [] B H As [] (.refl R.sub _) R ⟨rfl, rfl⟩ R.nd (by simp)
theorem qes_cons (h : QE X e g) (t : QEs X es gs) (hs : starEach (e :: es) X.env = (false, eval e X.env) :: starEach es X.env := by rfl) : QEs X (e :: es) (g :: gs) := pa_imp (pa_cons h t hs) fun σ H Q ⟨ρ, B, As, os, ρ', R, e, k⟩ => by
  simp only [evE] at e
  obtain ⟨⟨o, ρ1⟩, e1, e2⟩ := Option.bind_eq_some_iff.mp e
  obtain ⟨⟨os2, ρ2⟩, e3, e4⟩ := Option.map_eq_some_iff.mp e2
  cases e4
  refine ⟨ρ, B, As, o, ρ1, R, e1, fun v B1 H1 As1 own s1 R1 ap => ⟨ρ1, B1, As1, os2, ρ2, R1, e3, fun vs B2 H2 As2 own2 s2 R2 r2 nd2 ap2 => ?_⟩⟩
  have dj : ∀ a ∈ own, a ∉ As1 := fun a h z => (List.nodup_append.mp ap.nd).2.2 a h a z rfl
  have ka : ∀ a ∈ own, H2 a = H1 a ∧ B2 a = B1 a ∧ a ∉ own2 ++ As2 := fun a h => s2.apart (ap.rep.dat a h) (dj a h)
  refine k (v :: vs) B2 H2 As2 (own ++ own2) ?_ R2 ⟨v, vs, own, own2, rfl, rfl, ap.rep.frame s2.bb fun a h => (ka a h).1, r2⟩ ?_ fun a h => ?_
  · refine ⟨s1.bb.trans s2.bb, s2.sub, fun a o h hn => ?_, fun a h => ?_, fun a h => s2.there a (s1.there a h), fun P t => s2.tb P (s1.tb P t)⟩
    · obtain ⟨h1, b1⟩ := s1.keep a o h hn
      have n1 : a ∉ As1 := fun z => (s1.own a (List.mem_append_right _ z)).elim hn fun q => by rw [h] at q; cases q
      have b2 : B2 a = B1 a := by
        cases q : H1 a with
        | none => exact absurd q (kept_ne h1)
        | some u => exact (s2.keep a u q n1).2
      exact ⟨kept_tr h1 fun u q => (s2.keep a u q n1).1, b2.trans b1⟩
    · rcases List.mem_append.mp h with h | h
      · rcases List.mem_append.mp h with h | h
        · exact s1.own a (List.mem_append_left _ h)
        · rcases s2.own a (List.mem_append_left _ h) with z | z
          · exact s1.own a (List.mem_append_right _ z)
          · right
            cases q : H a with
            | none => rfl
            | some o => exact absurd z (s1.there a (by simp [q]))
      · rcases s2.own a (List.mem_append_right _ h) with z | z
        · exact s1.own a (List.mem_append_right _ z)
        · right
          cases q : H a with
          | none => rfl
          | some o => exact absurd z (s1.there a (by simp [q]))
  · rw [List.append_assoc]
    exact List.nodup_append.mpr ⟨(List.nodup_append.mp ap.nd).1, nd2, fun a ha b hb z => (ka a ha).2.2 (z ▸ hb)⟩
  · rcases List.mem_append.mp h with h | h
    · exact ⟨(ka a h).2.1.trans (ap.ap a h).1, by rw [(ka a h).1]; exact (ap.ap a h).2⟩
    · exact ap2 a h
def nsE (gs : List EF) : EF := fun ρ => (evE gs ρ).map fun r => (.ns r.1, r.2)
theorem qe_ns (h : QEs X es gs) (hl : gs.length ≤ 1000 := by decide) : QE X (.List es pos) (nsE gs) := pe_imp (pe_lst h) fun σ H Q ⟨ρ, B, As, o, ρ', R, e, k⟩ => by
  obtain ⟨⟨os, ρ1⟩, e1, e2⟩ := Option.map_eq_some_iff.mp e
  cases e2
  refine ⟨ρ, B, As, os, ρ1, R, e1, fun vs B1 H1 As1 own s1 R1 r1 nd1 ap1 => ⟨?_, fun p hp => ?_⟩⟩
  · rw [r1.length, evE_len e1]; exact Nat.le_of_lt (small1000 hl)
  · have hB : B1 p = none := R1.sub.free hp
    have np : p ∉ own ++ As1 := fun z => by
      rcases List.mem_append.mp z with z | z
      · exact (ap1 p z).2 hp
      · exact (R1.ap p z).2 hp
    have nt : NoTab H1 p := .of_none hp
    have R2 := R1.upd (o := .lst vs) hB (fun z => np (List.mem_append_right _ z)) nt
    have sm : Same H1 (upd H1 p (.lst vs)) := .of fun b u q => by rw [upd_ne (ne_of_none q hp)]; exact q
    refine k (.ref p) B1 _ As1 (p :: own) ⟨s1.bb, R2.sub, fun a o h hn => ?_, fun a h => ?_, fun a h => sm.ne (s1.there a h), fun P t => nt.tab (s1.tb P t)⟩ R2 ⟨⟨p, vs, own, rfl, rfl, upd_same, r1.frame (.refl _) fun a h => upd_ne fun z => np (List.mem_append_left _ (z ▸ h))⟩, ?_, fun a h => ?_⟩
    · obtain ⟨h1, h2⟩ := s1.keep a o h hn
      exact ⟨kept_tr h1 fun u q => sm a u q, h2⟩
    · rw [List.cons_append] at h
      rcases List.mem_cons.mp h with rfl | h
      · right
        cases q : H a with
        | none => rfl
        | some o => exact absurd hp (s1.there a (by simp [q]))
      · exact s1.own a h
    · rw [List.cons_append]; exact List.nodup_cons.mpr ⟨np, nd1⟩
    · rcases List.mem_cons.mp h with rfl | h
      · exact ⟨hB, by rw [upd_same]; simp⟩
      · exact ⟨(ap1 a h).1, sm.ne (ap1 a h).2⟩
end nested
@[simp] theorem wp_evE_nil {ρ : Ev} {Q : List O × Ev → Prop} : wp (evE [] ρ) Q ↔ Q ([], ρ) := by simp [evE]
@[simp] theorem wp_evE_cons {g : EF} {gs : List EF} {ρ : Ev} {Q : List O × Ev → Prop} : wp (evE (g :: gs) ρ) Q ↔ wp (g ρ) fun r => wp (evE gs r.2) fun q => Q (r.1 :: q.1, q.2) := by simp [evE]
@[simp] theorem wp_nsE {gs : List EF} {ρ : Ev} {Q : O × Ev → Prop} : wp (nsE gs ρ) Q ↔ wp (evE gs ρ) fun r => Q (.ns r.1, r.2) := by simp [nsE]
/-! ### list(range(..)), tuple(range(..)), range with a step -/
def rngOk (a b : Int) : Prop := -(2 ^ 62) ≤ a ∧ a < 2 ^ 62 ∧ -(2 ^ 62) ≤ b ∧ b < 2 ^ 62 ∧ (b - a).toNat ≤ 2 ^ 24
instance (a b : Int) : Decidable (rngOk a b) := by unfold rngOk; infer_instance
def rngB (f : List D → O) (ga gb : PF) : NF := fun ρ => (ga ρ).bind fun x => (gb ρ).bind fun y => match x, y with
  | .int a, .int b => if rngOk a b then some (f (rngD a (b - a).toNat)) else none
  | _, _ => none
abbrev listR := rngB .ls
abbrev tupleR := rngB fun ds => .fz (.tup ds)
section ranges
variable {X : Cx} {a b c : Expr} {ga gb gc : PF} {p p1 pos pos1 : Pos} {tg : Expr}
theorem rgV_rep {G : Gx} {B : Hp} {a b : Int} : RepDs G B (rngD a (b - a).toNat) (rgV a b) := by
  unfold rngD rgV
  generalize List.range (b - a).toNat = l
  induction l with
  | nil => rfl
  | cons n l ih => exact ⟨_, _, rfl, rfl, ih⟩
theorem rngB_two {f : List D → O} {ρ : Ev} {o : O} (h : rngB f ga gb ρ = some o) : ∃ i j, ga ρ = some (.int i) ∧ gb ρ = some (.int j) ∧ rngOk i j ∧ o = f (rngD i (j - i).toNat) := by
  obtain ⟨x, y, e1, e2, e3⟩ := two h
  split at e3
  · obtain ⟨hz, rfl⟩ := if_some e3
    exact ⟨_, _, e1, e2, hz, rfl⟩
  · cases e3
theorem qn_listR2 (hc : X.calm = true) (hgl : Gl X "list") (hml : X.mg "list" = none) (hg : Gl X "range") (hm : X.mg "range" = none) (ha : QW X a ga) (hb : QW X b gb)
    (na : starEach [a, b] X.env = (false, eval a X.env) :: starEach [b] X.env := by rfl) (nb : starEach [b] X.env = (false, eval b X.env) :: starEach [] X.env := by rfl) (hpl : (backTo pos1 (starEach [b] X.env)).any (·.1) = false := by rfl)
    (n2 : starEach [.Call (.Name "range" p1) [a, b] [] pos1] X.env = (false, eval (.Call (.Name "range" p1) [a, b] [] pos1) X.env) :: starEach [] X.env := by rfl) :
    QN X (.Call (.Name "list" p) [.Call (.Name "range" p1) [a, b] [] pos1] [] pos) (listR ga gb) :=
  pe_imp (pe_listRg hc hgl hml (prg_2 hg hm ha hb na nb hpl) n2) fun σ H Q ⟨ρ, B, As, o, R, e, k⟩ => by
    obtain ⟨i, j, e1, e2, hz, rfl⟩ := rngB_two e
    refine ⟨ρ, B, As, _, R, e1, fun v B1 H1 g1 w1 => ⟨ρ, B1, As, _, R.grow g1, e2, fun w B2 H2 g2 w2 => ?_⟩⟩
    cases rw_int w1; cases rw_int w2
    exact ⟨i, j, rfl, rfl, hz, fun q hq => k _ _ _ _ ((Fresh.lst g2.sub hq rgV_rep).behind (g1.trans g2))⟩
theorem qn_listR1 (hc : X.calm = true) (hgl : Gl X "list") (hml : X.mg "list" = none) (hg : Gl X "range") (hm : X.mg "range" = none) (hb : QW X b gb)
    (nb : starEach [b] X.env = (false, eval b X.env) :: starEach [] X.env := by rfl)
    (n2 : starEach [.Call (.Name "range" p1) [b] [] pos1] X.env = (false, eval (.Call (.Name "range" p1) [b] [] pos1) X.env) :: starEach [] X.env := by rfl) :
    QN X (.Call (.Name "list" p) [.Call (.Name "range" p1) [b] [] pos1] [] pos) (listR (cst (.int 0)) gb) :=
  pe_imp (pe_listRg hc hgl hml (prg_1 hg hm hb nb) n2) fun σ H Q ⟨ρ, B, As, o, R, e, k⟩ => by
    obtain ⟨i, j, e1, e2, hz, rfl⟩ := rngB_two e
    cases e1
    refine ⟨ρ, B, As, _, R, e2, fun w B2 H2 g2 w2 => ?_⟩
    cases rw_int w2
    exact ⟨j, rfl, hz, fun q hq => k _ _ _ _ ((Fresh.lst g2.sub hq rgV_rep).behind g2)⟩
theorem qn_tupleR2 (hc : X.calm = true) (hgl : Gl X "tuple") (hml : X.mg "tuple" = none) (hg : Gl X "range") (hm : X.mg "range" = none) (ha : QW X a ga) (hb : QW X b gb)
    (na : starEach [a, b] X.env = (false, eval a X.env) :: starEach [b] X.env := by rfl) (nb : starEach [b] X.env = (false, eval b X.env) :: starEach [] X.env := by rfl) (hpl : (backTo pos1 (starEach [b] X.env)).any (·.1) = false := by rfl)
    (n2 : starEach [.Call (.Name "range" p1) [a, b] [] pos1] X.env = (false, eval (.Call (.Name "range" p1) [a, b] [] pos1) X.env) :: starEach [] X.env := by rfl) :
    QN X (.Call (.Name "tuple" p) [.Call (.Name "range" p1) [a, b] [] pos1] [] pos) (tupleR ga gb) :=
  pe_imp (pe_tupRg hc hgl hml (prg_2 hg hm ha hb na nb hpl) n2) fun σ H Q ⟨ρ, B, As, o, R, e, k⟩ => by
    obtain ⟨i, j, e1, e2, hz, rfl⟩ := rngB_two e
    refine ⟨ρ, B, As, _, R, e1, fun v B1 H1 g1 w1 => ⟨ρ, B1, As, _, R.grow g1, e2, fun w B2 H2 g2 w2 => ?_⟩⟩
    cases rw_int w1; cases rw_int w2
    exact ⟨i, j, rfl, rfl, hz, fun q hq => k _ _ _ _ ((Fresh.tup g2.sub hq rgV_rep).behind (g1.trans g2))⟩
/-- how many items -/
def stepN (i j c : Int) : Option Nat := if -2 ^ 62 ≤ i ∧ i < 2 ^ 62 ∧ -2 ^ 62 ≤ j ∧ j < 2 ^ 62 then (if c = -1 then some (i - j).toNat else if 0 < c ∧ c ≤ 1000000 ∧ i = 0 ∧ 0 ≤ j ∧ j ≤ 1000000 then some ((j + c - 1) / c).toNat else none) else none
def itR3 (ga gb gc : PF) : IF := fun ρ => (ga ρ).bind fun x => (gb ρ).bind fun y => (gc ρ).bind fun z => match x, y, z with
  | .int i, .int j, .int c => (stepN i j c).map fun n => (List.range n).map fun k => .int (i + ((k : Nat) : Int) * c)
  | _, _, _ => none
theorem stepN_ok {i j c : Int} {n : Nat} (h : stepN i j c = some n) : RgC i j c n := by
  unfold stepN at h
  split at h
  case isFalse => cases h
  rename_i hb
  split at h
  · rename_i hc
    subst hc
    cases h
    exact RgC.neg hb.1 hb.2.1 hb.2.2.1 hb.2.2.2
  · split at h
    case isFalse => cases h
    rename_i hc
    obtain ⟨c1, c2, rfl, c3, c4⟩ := hc
    cases h
    refine ⟨by omega, by omega, ?_, ?_⟩
    · have hs := PyProof.Rows.rangeSize_pos (len := j) (c := c) (by omega) c3
      unfold Builtin.Range.small
      simp only [hs]
      have hx : (j + c - 1) / c ≤ 2000000 := Int.le_trans (Int.ediv_le_self _ (by omega)) (by omega)
      have h0 : 0 ≤ (j + c - 1) / c := Int.ediv_nonneg (by omega) (by omega)
      generalize (j + c - 1) / c = q at hx h0
      have hc0 : c > 0 := by omega
      simp only [Builtin.Range.rangeFitsLong, Bool.and_eq_true, Bool.or_eq_true, decide_eq_true_eq, if_pos hc0]
      refine ⟨⟨⟨⟨?_, ?_⟩, ?_⟩, ?_⟩, .inr ?_⟩ <;> constructor <;> omega
    · rw [PyProof.Rows.rangeSize_pos (len := j) (c := c) (by omega) c3]
      exact (Int.toNat_of_nonneg (Int.ediv_nonneg (by omega) (by omega))).symm
theorem yl_rngC {G : Gx} {B Hs : Hp} {lo c : Int} {n : Nat} : Yl G B Hs (Itc lo c n) ((List.range n).map fun k => .int (lo + ((k : Nat) : Int) * c)) := by
  refine ⟨fun i H s hi => show i < n by simpa using hi, fun i H s hi => show n ≤ i by simpa using hi, fun i H x H' s ⟨e1, e2⟩ => ⟨e1, fun d hd => ?_⟩⟩
  rw [List.getElem?_map] at hd
  obtain ⟨j, h1, rfl⟩ := Option.map_eq_some_iff.mp hd
  rw [List.getElem?_range] at h1
  · cases h1; exact e2
  · rcases Nat.lt_or_ge i n with q | q
    · exact q
    · rw [List.getElem?_eq_none_iff.mpr (by simpa using q)] at h1; cases h1
theorem qi_rng3 (hg : Gl X "range") (hm : X.mg "range" = none) (ha : QW X a ga) (hb : QW X b gb) (hc : QW X c gc) (h3 : starEach [a, b, c] X.env = (false, eval a X.env) :: starEach [b, c] X.env := by rfl) (h2 : starEach [b, c] X.env = (false, eval b X.env) :: starEach [c] X.env := by rfl) (h1 : starEach [c] X.env = (false, eval c X.env) :: starEach [] X.env := by rfl)
    (hpl : (backTo pos (starEach [b, c] X.env)).any (·.1) = false := by rfl) : QI X tg (.Call (.Name "range" p) [a, b, c] [] pos) (itR3 ga gb gc) :=
  ⟨_, pi_range3 hg hm (qws_cons ha (qws_cons hb (qws_cons hc qws_nil h1) h2) h3) h3 hpl, fun σ H R ⟨ρ, B, As, ds, r, e, k⟩ => by
  obtain ⟨x, e1, e⟩ := Option.bind_eq_some_iff.mp e
  obtain ⟨y, e2, e⟩ := Option.bind_eq_some_iff.mp e
  obtain ⟨z, e3, e⟩ := Option.bind_eq_some_iff.mp e
  refine ⟨ρ, B, As, [x, y, z], r, by simp [evs, e1, e2, e3], fun vs B1 H1 g1 w => ?_⟩
  obtain ⟨u1, r1, rfl, w1, w⟩ := w
  obtain ⟨u2, u3, rfl, w2, w3⟩ := w.two
  split at e
  · obtain ⟨n, e4, rfl⟩ := Option.map_eq_some_iff.mp e
    cases rw_int w1; cases rw_int w2; cases rw_int w3
    exact ⟨_, _, _, n, rfl, stepN_ok e4, k _ B1 H1 g1 yl_rngC⟩
  · cases e⟩
end ranges
/-! ### methods that only look, of an owned thing -/
def callSM (c m : Str) (f : FS) (g : PF) (gs : List PF) : PF := fun ρ => (g ρ).bind fun d => (recvD c m d).bind fun _ => (evs gs ρ).bind fun ds => (f ((d :: ds).map .fz)).bind fun r => scaO r.1
section look
variable {X : Cx} {o e : Expr} {es : List Expr} {g : PF} {gs : List PF} {pos apos : Pos} {c m : Str} {k n : Nat} {f : FS} {pl : Sem Bool}
theorem qd_callSM (F : QMe X.prog X.w X.K X.mg X.base c m k n f) (hr : Room k X.A) (hn : gs.length + 1 = n) (ho : QV X o g) (ha : QVs X (e :: es) gs)
    (hst : starEach (e :: es) X.env = (false, eval e X.env) :: starEach es X.env := by rfl) (hpl : (backTo pos (starEach es X.env)).any (·.1) = false := by rfl)
    (ht : eval (.Call (.Attribute o m apos) (e :: es) [] pos) X.env = (do
      let ov ← eval o X.env
      standAt apos.atName
      let (f, first) ← holding [ov] (getMethod ov m pl)
      callWith pos f first (backTo pos (starEach (e :: es) X.env)) (backToKw pos (keywordEach [] X.env))) := by rfl) : QD X (.Call (.Attribute o m apos) (e :: es) [] pos) (callSM c m f g gs) := by
  obtain ⟨C, fa, fd, ps, hC, hc, hm, hb, F⟩ := F.ex
  refine pe_imp (pe_meth (pl := pl) (dvs := []) ho hc hm F hr hb .nil pass0 ha hst hpl ht) fun σ H Q ⟨ρ, B, As, r, R, e, k⟩ => ?_
  obtain ⟨d, e1, e⟩ := Option.bind_eq_some_iff.mp e
  obtain ⟨u, e2, e⟩ := Option.bind_eq_some_iff.mp e
  obtain ⟨ds, e3, e4⟩ := Option.bind_eq_some_iff.mp e
  refine ⟨ρ, B, As, d, R, e1, fun v B1 H1 g1 w1 => ?_⟩
  obtain ⟨a, dx, vs, rfl, ha, hl⟩ := recv_ok (G := gx X) e2 hC w1
  refine ⟨a, dx, vs, rfl, ha, hl, ρ, B1, As, ds, R.grow g1, e3, fun us B2 H2 g2 w2 => ?_⟩
  show spF _ n f (_ :: (us ++ [])) H2 Q E0
  rw [List.append_nil]
  exact spF_look (ds := d :: ds) g2.sub ((R.grow g1).tb.same g2.hh) (by rw [List.length_cons, evs_len e3]; exact hn) ⟨_, _, rfl, w1.mono g2.hh, w2⟩ e4 fun v B3 H3 g3 r3 => k v B3 H3 ((g1.trans g2).trans g3) r3
theorem qd_callSM0 (F : QMe X.prog X.w X.K X.mg X.base c m k 1 f) (hr : Room k X.A) (ho : QV X o g)
    (ht : eval (.Call (.Attribute o m apos) [] [] pos) X.env = (do
      let ov ← eval o X.env
      standAt apos.atName
      let (f, first) ← holding [ov] (getMethod ov m pl)
      callWith pos f first (backTo pos (starEach [] X.env)) (backToKw pos (keywordEach [] X.env))) := by rfl) : QD X (.Call (.Attribute o m apos) [] [] pos) (callSM c m f g []) := by
  obtain ⟨C, fa, fd, ps, hC, hc, hm, hb, F⟩ := F.ex
  refine pe_imp (pe_meth0 (pl := pl) (dvs := []) ho hc hm F hr hb .nil pass0 ht) fun σ H Q ⟨ρ, B, As, r, R, e, k⟩ => ?_
  obtain ⟨d, e1, e⟩ := Option.bind_eq_some_iff.mp e
  obtain ⟨u, e2, e⟩ := Option.bind_eq_some_iff.mp e
  obtain ⟨ds, e3, e4⟩ := Option.bind_eq_some_iff.mp e
  simp only [evs, Option.some.injEq] at e3
  subst e3
  refine ⟨ρ, B, As, d, R, e1, fun v B1 H1 g1 w1 => ?_⟩
  obtain ⟨a, dx, vs, rfl, ha, hl⟩ := recv_ok (G := gx X) e2 hC w1
  refine ⟨a, dx, vs, rfl, ha, hl, ?_⟩
  exact spF_look (E := E0) (ds := [d]) g1.sub (R.tb.same g1.hh) rfl ⟨_, _, rfl, w1, rfl⟩ e4 fun v B3 H3 g3 r3 => k v B3 H3 (g1.trans g3) r3
end look
@[simp] theorem wp_callSM {c m : Str} {f : FS} {g : PF} {gs : List PF} {ρ : Ev} {Q : D → Prop} : wp (callSM c m f g gs ρ) Q ↔ wp (g ρ) fun d => wp (recvD c m d) fun _ => wp (evs gs ρ) fun ds => wp (f ((d :: ds).map .fz)) fun r => wp (scaO r.1) Q := by simp [callSM]
/-! ### methods, their code object known -/
theorem qmeQ {P : Program} {w : World} {K : PySem.W.Frag} {mg : Str → Option Value} {base : Heap} {c m q : Str} {st : Stmt} {N ps : List Str} {k : Nat} {π : List Bool} {ex : SF} (a : AtMe K mg c m q st ps) (S : FnScope N ps (defScope st)) (hπ : π.length = ps.length)
    (body : ∀ (C f : Addr) (cdv : Value) (A : Around) (outer : List Env) (s : Shared) (H : Hp) (E : XK), CodeAt K f cdv → mg c = some (.ref C) → Meth K C m f → Room k (A.deeper (envOfC q (defScope st) s.heap.objs.size f cdv)) → QSs (cxOf CX0 P w K mg base N q (defScope st) f cdv A outer s H E).nox π (defBody st) ex) :
    QMe P w K mg base c m (k + 1) ps.length (fnF N.length π ex) := by
  obtain ⟨C, f, fd, h1, h2, h3, F, hb⟩ := a
  exact ⟨C, f, fd, ps, h1, h2, h3, hb, fnokQ F S hπ fun cdv A outer s H E hc hr => body C f cdv A outer s H E hc h1 h3 hr⟩
/-! ### more of what holds -/
def augK (i : Nat) (p : List Stp) (cs : List Str) (f : Str) (fn : Int → Int → Int) (g : PF) (ρ : Ev) (Q : Out × Ev → Prop) : O → Prop
  | .ob c fs => (c ∈ cs ∧ fs.length < 1000) ∧ wp (g ρ) (intK fun b => wp (fs.lookup f) (fzK (intK fun a => wp (putP i p (.ob c (repF f (.fz (.int (fn a b))) fs)) ρ) fun ρ' => Q (.nx, ρ'))))
  | _ => False
@[simp] theorem augK_ob {i p cs f fn g ρ Q c fs} : augK i p cs f fn g ρ Q (.ob c fs) ↔ (c ∈ cs ∧ fs.length < 1000) ∧ wp (g ρ) (intK fun b => wp (fs.lookup f) (fzK (intK fun a => wp (putP i p (.ob c (repF f (.fz (.int (fn a b))) fs)) ρ) fun ρ' => Q (.nx, ρ')))) := Iff.rfl
@[simp] theorem wp_augP {i : Nat} {p : List Stp} {cs : List Str} {f : Str} {fn : Int → Int → Int} {g : PF} {ρ : Ev} {Q : Out × Ev → Prop} : wp (augP i p cs f fn g ρ) Q ↔ wp (getP i p ρ) (augK i p cs f fn g ρ Q) := by
  unfold augP; rw [wp_bind]
  constructor <;> intro h <;> refine wp_mono h fun o ho => ?_
  · cases o with
    | ob c fs =>
      have ho : wp (if c ∈ cs ∧ fs.length < 1000 then _ else none) Q := ho
      rw [wp_ite_none] at ho
      obtain ⟨h1, h2⟩ := ho
      refine ⟨h1, ?_⟩
      rw [wp_bind] at h2
      refine wp_mono h2 fun d hd => ?_
      cases d with
      | int b =>
        cases hl : fs.lookup f with
        | none => rw [hl] at hd; simp at hd
        | some x =>
          rw [hl] at hd
          cases x with
          | fz y =>
            cases y with
            | int a => simpa [intK, fzK] using hd
            | _ => simp at hd
          | _ => simp at hd
      | _ => cases hl : fs.lookup f <;> rw [hl] at hd <;> simp at hd
    | _ => simp at ho
  · cases o with
    | ob c fs =>
      obtain ⟨h1, h2⟩ := ho
      show wp (if c ∈ cs ∧ fs.length < 1000 then _ else none) Q
      rw [wp_ite_none]
      refine ⟨h1, ?_⟩
      rw [wp_bind]
      refine wp_mono h2 fun d hd => ?_
      cases d with
      | int b =>
        obtain ⟨x, hl, hx⟩ := hd
        rw [hl]
        cases x with
        | fz y =>
          cases y with
          | int a => simpa [intK, fzK] using hx
          | _ => exact hx.elim
        | _ => exact hx.elim
      | _ => exact hd.elim
    | _ => exact ho.elim
def dcK (Q : List (D × D) → Prop) : O → Prop
  | .dc kvs => Q kvs
  | _ => False
@[simp] theorem dcK_dc {Q : List (D × D) → Prop} {kvs} : dcK Q (.dc kvs) ↔ Q kvs := Iff.rfl
@[simp] theorem wp_dputP {i : Nat} {p : List Stp} {gi : PF} {g : EF} {ρ : Ev} {Q : Out × Ev → Prop} : wp (dputP i p gi g ρ) Q ↔ wp (g ρ) fun r => wp (getP i p r.2) fun o => wp (gi r.2) fun k => dcK (fun kvs => wp (kD k) fun q => kvs.length < sizeLine ∧ wp (putP i p (.dc (dput q r.1.fr kvs)) r.2) fun ρ' => Q (.nx, ρ')) o := by
  unfold dputP
  simp only [wp_bind]
  constructor <;> intro h <;> refine wp_mono h fun r hr => wp_mono hr fun o ho => wp_mono ho fun k hk => ?_ <;> cases o <;> simp_all [dcK]
@[simp] theorem wp_dicN {ρ : Ev} {Q : O → Prop} : wp (dicN ρ) Q ↔ Q (.dc []) := by simp [dicN]
@[simp] theorem view_dc {kvs : List (D × D)} : (O.dc kvs).view = some (.dic kvs) := rfl
@[simp] theorem fr_dc {kvs : List (D × D)} : (O.dc kvs).fr = .dic kvs := rfl
@[simp] theorem wp_ixK {ga gb : PF} {ρ : Ev} {Q : D → Prop} : wp (ixK ga gb ρ) Q ↔ wp (ga ρ) fun x => wp (gb ρ) fun y => wp (ixKD x y) Q := by simp [ixK]
@[simp] theorem ixKD_dic {kvs : List (D × D)} {k : D} : ixKD (.dic kvs) k = (kD k).bind fun q => dget q kvs := rfl
@[simp] theorem kD_int {i : Int} : kD (.int i) = some (.inl i) := rfl
@[simp] theorem kD_str {i : Str} : kD (.str i) = some (.inr i) := rfl
@[simp] theorem wp_indexF {ga gb : PF} {ρ : Ev} {Q : D → Prop} : wp (indexF ga gb ρ) Q ↔ wp (ga ρ) fun x => wp (gb ρ) fun y => wp (indexD x y) Q := by simp [indexF]
@[simp] theorem wp_countF {ga gb : PF} {ρ : Ev} {Q : D → Prop} : wp (countF ga gb ρ) Q ↔ wp (ga ρ) fun x => wp (gb ρ) fun y => wp (countD x y) Q := by simp [countF]
@[simp] theorem wp_rngB {f : List D → O} {ga gb : PF} {ρ : Ev} {Q : O → Prop} : wp (rngB f ga gb ρ) Q ↔ wp (ga ρ) fun x => wp (gb ρ) fun y => intK (fun i => intK (fun j => rngOk i j ∧ Q (f (rngD i (j - i).toNat))) y) x := by
  unfold rngB
  simp only [wp_bind]
  constructor <;> intro h <;> refine wp_mono h fun x hx => wp_mono hx fun y hy => ?_ <;> cases x <;> cases y <;> simp_all [intK]
@[simp] theorem wp_itR3 {ga gb gc : PF} {ρ : Ev} {Q : List D → Prop} : wp (itR3 ga gb gc ρ) Q ↔ wp (ga ρ) fun x => wp (gb ρ) fun y => wp (gc ρ) fun z => intK (fun i => intK (fun j => intK (fun c => wp (stepN i j c) fun n => Q ((List.range n).map fun k => .int (i + ((k : Nat) : Int) * c))) z) y) x := by
  unfold itR3
  simp only [wp_bind]
  constructor
  · intro h
    refine wp_mono h fun x hx => wp_mono hx fun y hy => wp_mono hy fun z hz => ?_
    cases x with
    | int i => cases y with
      | int j => cases z with
        | int c => simpa [intK] using hz
        | _ => simp at hz
      | _ => simp at hz
    | _ => simp at hz
  · intro h
    refine wp_mono h fun x hx => wp_mono hx fun y hy => wp_mono hy fun z hz => ?_
    cases x with
    | int i => cases y with
      | int j => cases z with
        | int c => simpa [intK] using hz
        | _ => exact hz.elim
      | _ => exact hz.elim
    | _ => exact hz.elim
/-- while: by a measure -/
theorem wp_while {gc : BF} {body : SF} {Q : Out × Ev → Prop} (I : Nat → Ev → Prop) (step : ∀ m ρ, I m ρ → wp (gc ρ) fun b => if b = true then wp (body ρ) (turnK (fun ρ' => ∃ m', m' < m ∧ I m' ρ') Q) else Q (.nx, ρ)) : ∀ (m : Nat) (ρ : Ev), I m ρ → wp (whileS gc body ρ) Q := by
  intro m
  induction m using Nat.strongRecOn with
  | ind m ih =>
    intro ρ h
    obtain ⟨b, e1, h1⟩ := step m ρ h
    cases b with
    | false =>
      simp only [Bool.false_eq_true, if_false] at h1
      exact ⟨(.nx, ρ), whileS_step (by simp [e1]), h1⟩
    | true =>
      simp only [if_true] at h1
      obtain ⟨⟨o, ρ1⟩, e2, h2⟩ := h1
      cases o with
      | nx =>
        obtain ⟨m', hm, h3⟩ := h2
        obtain ⟨r, e3, h4⟩ := ih m' hm ρ1 h3
        exact ⟨r, whileS_step (by simp only [e1, e2, Option.bind_some, if_true]; exact e3), h4⟩
      | ct =>
        obtain ⟨m', hm, h3⟩ := h2
        obtain ⟨r, e3, h4⟩ := ih m' hm ρ1 h3
        exact ⟨r, whileS_step (by simp only [e1, e2, Option.bind_some, if_true]; exact e3), h4⟩
      | brk => exact ⟨(.nx, ρ1), whileS_step (by simp only [e1, e2, Option.bind_some, if_true]), h2⟩
      | ret o => exact ⟨(.ret o, ρ1), whileS_step (by simp only [e1, e2, Option.bind_some, if_true]), h2⟩
end Q

namespace Q
open PySem PySem.Spec PyProof.Rows L2
variable {X : Cx} {π : List Bool}
/-! ### a, b = x, y of local names -/
def parS (i j : Nat) (ga gb : PF) : SF := fun ρ => (ga ρ).bind fun a => (gb ρ).bind fun b => some (.nx, (ρ.set i (some (.fz a))).set j (some (.fz b)))
theorem qs_par {i j : Nat} {x y : Str} {a b : Expr} {ga gb : PF} {px py pt : Pos} {kt k2 pt2 pos} (hN : X.N.Nodup) (ha : QDs X [a, b] [ga, gb]) (hij : i ≠ j := by decide) (hpi : π[i]? ≠ some true := by decide) (hpj : π[j]? ≠ some true := by decide) (hi : X.N[i]? = some x := by rfl) (hj : X.N[j]? = some y := by rfl)
    (hx : X.env.scope.names.lookup x = some .local := by rfl) (hy : X.env.scope.names.lookup y = some .local := by rfl) (hc : X.calm = true := by rfl)
    (hw : swappedStores [.Tuple [.Name x px, .Name y py] kt pt] (.Tuple [a, b] k2 pt2) X.env = pure (some [x, y]) := by rfl)
    (hs : swapsWithSole [.Tuple [.Name x px, .Name y py] kt pt] (.Tuple [a, b] k2 pt2) pos.line X.env = pure false := by rfl) :
    QS X π (.Assign [.Tuple [.Name x px, .Name y py] kt pt] (.Tuple [a, b] k2 pt2) pos) (parS i j ga gb) :=
  ps_imp (ps_par hc hN hi hj hij hx hy ha hw hs) fun Dn σ H ⟨ρ, B, As, out, ρ', R, e, p⟩ => by
  obtain ⟨d1, e1, e⟩ := Option.bind_eq_some_iff.mp e
  obtain ⟨d2, e2, e⟩ := Option.bind_eq_some_iff.mp e
  cases e
  refine ⟨ρ, B, As, [d1, d2], R, by simp only [evs, e1, e2, Option.bind_some, Option.map_some], fun vs B' H' g r => ?_⟩
  obtain ⟨v, r1, rfl, h1, w, r2, rfl, h2, rfl⟩ := r
  refine ⟨v, w, rfl, ?_⟩
  have R' := R.grow g
  obtain ⟨As2, k1, k2, k3⟩ := R'.env.assign i (o := .fz d1) (v := v) (own := []) ⟨rfl, h1⟩ R'.nd
  obtain ⟨As3, m1, m2, m3⟩ := k1.assign j (o := .fz d2) (v := w) (own := []) ⟨rfl, h2⟩ k2
  have ks : ∀ a ∈ As3, a ∈ As := fun a h => k3 a (m3 a h)
  refine p _ B' H' As3 ((g.step As).less ks) ⟨g.sub, R'.tb, m2, fun a h => R'.ap a (ks a h), m1⟩ fun k hk => ?_
  rw [List.getElem?_set_ne (by rintro rfl; exact hpj hk), List.getElem?_set_ne (by rintro rfl; exact hpi hk)]
@[simp] theorem wp_parS {i j : Nat} {ga gb : PF} {ρ : Ev} {Q : Out × Ev → Prop} : wp (parS i j ga gb ρ) Q ↔ wp (ga ρ) fun a => wp (gb ρ) fun b => Q (.nx, (ρ.set i (some (.fz a))).set j (some (.fz b))) := by
  unfold parS
  simp only [wp_bind]
  constructor <;> intro h <;> refine wp_mono h fun a ha => wp_mono ha fun b hb => ?_
  · exact wp_some.mp hb
  · exact wp_some.mpr hb
end Q

namespace W
open PySem PySem.Spec PyProof.Rows L2 Q
def top (i : Nat) : Stmt := PySem.Challenge.pw_clockless_k86_tidied_netlists.main.body.getD i (.Pass ⟨0, 0, 0, 0⟩)
def inCls (st : Stmt) (j : Nat) : Stmt := match st with
  | .ClassDef _ _ _ b _ _ _ _ _ _ _ => b.getD j (.Pass ⟨0, 0, 0, 0⟩)
  | st => st
abbrev s_is_name : Stmt := top 10
abbrev s_is_code : Stmt := top 11
abbrev s_are_signals : Stmt := top 12
abbrev s_is_cube : Stmt := top 15
abbrev s_are_cubes : Stmt := top 16
abbrev s_are_wires : Stmt := top 17
abbrev s_fits_inner : Stmt := top 18
abbrev s_fits_signal : Stmt := top 19
abbrev s_Netlist_init : Stmt := inCls (top 20) 0
abbrev s_Netlist_signal_count : Stmt := inCls (top 20) 3
abbrev s_source : Stmt := top 22
abbrev s_inner_inputs : Stmt := top 23
abbrev s_needed_wires : Stmt := top 24
abbrev s_needed : Stmt := top 25
abbrev s_bypassed : Stmt := top 26
abbrev s_renumbered : Stmt := top 27
abbrev s_tidied : Stmt := top 28
abbrev s_law_cell : Stmt := top 30
abbrev s_law_draws : Stmt := top 31
abbrev s_law_is_int : Stmt := top 32
abbrev s_law_ints : Stmt := top 33
abbrev s_law_is_list : Stmt := top 34
abbrev s_law_is_text : Stmt := top 35
abbrev s_law_is_number : Stmt := top 36
abbrev s_law_bits : Stmt := top 37
abbrev s_law_name : Stmt := top 38
abbrev s_law_names : Stmt := top 39
abbrev s_law_sequence : Stmt := top 40
abbrev s_law_groups : Stmt := top 41
abbrev s_law_add_groups : Stmt := top 42
abbrev s_law_free_net : Stmt := top 43
abbrev s_law_world : Stmt := top 44
abbrev s_law_same_signals : Stmt := top 45
abbrev s_law_cube : Stmt := top 46
abbrev s_law_netlist : Stmt := top 47
abbrev s_law_qsame_gates : Stmt := top 48
abbrev s_law_qsame_netlist : Stmt := top 49
abbrev s_law_qwired : Stmt := top 50
abbrev s_law_qsource : Stmt := top 51
abbrev s_law_qreads : Stmt := top 52
abbrev s_law_qneeded : Stmt := top 53
abbrev s_law_qtidied : Stmt := top 54
abbrev s_law : Stmt := top 55
structure Facts (K : PySem.W.Frag) (mg : Str → Option Value) (base : Heap) : Prop where
  f_is_name : At K mg "is_name" s_is_name ["name"]
  g_is_name : mg "is_name" = some (.ref (He.fAd K ("is_name", none)))
  f_is_code : At K mg "is_code" s_is_code ["text", "width"]
  g_is_code : mg "is_code" = some (.ref (He.fAd K ("is_code", none)))
  f_are_signals : At K mg "are_signals" s_are_signals ["signals"]
  f_is_cube : At K mg "is_cube" s_is_cube ["cube", "width"]
  g_is_cube : mg "is_cube" = some (.ref (He.fAd K ("is_cube", none)))
  f_are_cubes : At K mg "are_cubes" s_are_cubes ["cubes", "width"]
  g_are_cubes : mg "are_cubes" = some (.ref (He.fAd K ("are_cubes", none)))
  f_are_wires : At K mg "are_wires" s_are_wires ["wires", "low", "high"]
  f_fits_inner : At K mg "fits_inner" s_fits_inner ["gate", "wire", "width"]
  f_fits_signal : At K mg "fits_signal" s_fits_signal ["gate", "width", "count"]
  f_Netlist_init : AtMk K mg "Netlist" "Netlist.__init__" s_Netlist_init ["self", "signals", "start", "gates"]
  f_Netlist_signal_count : AtPr K mg "Netlist" "signal_count" "Netlist.signal_count" s_Netlist_signal_count ["self"]
  f_source : At K mg "source" s_source ["netlist", "wire"]
  f_inner_inputs : At K mg "inner_inputs" s_inner_inputs ["gate"]
  f_needed_wires : At K mg "needed_wires" s_needed_wires ["gates", "width"]
  f_needed : At K mg "needed" s_needed ["netlist"]
  f_bypassed : At K mg "bypassed" s_bypassed ["netlist", "gate"]
  f_renumbered : At K mg "renumbered" s_renumbered ["gate", "numbers"]
  f_tidied : At K mg "tidied" s_tidied ["netlist"]
  f_law_cell : At K mg "_law_cell" s_law_cell ["_law_script", "_law_k"]
  f_law_draws : At K mg "_law_draws" s_law_draws ["_law_cell_here", "_law_count"]
  f_law_is_int : At K mg "_law_is_int" s_law_is_int ["_law_x"]
  f_law_ints : At K mg "_law_ints" s_law_ints ["_law_x", "_law_kind"]
  f_law_is_list : At K mg "_law_is_list" s_law_is_list ["_law_x", "_law_due"]
  f_law_is_text : At K mg "_law_is_text" s_law_is_text ["_law_x", "_law_due"]
  f_law_is_number : At K mg "_law_is_number" s_law_is_number ["_law_x", "_law_due"]
  f_law_bits : At K mg "_law_bits" s_law_bits ["_law_number", "_law_count"]
  f_law_name : At K mg "_law_name" s_law_name ["_law_draw", "_law_k"]
  f_law_names : At K mg "_law_names" s_law_names ["_law_draws_here", "_law_at", "_law_many"]
  f_law_sequence : At K mg "_law_sequence" s_law_sequence ["_law_draws_here", "_law_at", "_law_own", "_law_start"]
  f_law_groups : At K mg "_law_groups" s_law_groups ["_law_edges", "_law_draws_here", "_law_at"]
  f_law_add_groups : At K mg "_law_add_groups" s_law_add_groups ["_law_net", "_law_groups_here", "_law_entry"]
  f_law_free_net : At K mg "_law_free_net" s_law_free_net ["_law_draws_here", "_law_many"]
  f_law_world : At K mg "_law_world" s_law_world ["_law_cell_here"]
  f_law_same_signals : At K mg "_law_same_signals" s_law_same_signals ["_law_actual", "_law_signals"]
  f_law_cube : At K mg "_law_cube" s_law_cube ["_law_draw", "_law_width"]
  f_law_netlist : At K mg "_law_netlist" s_law_netlist ["_law_world_here", "_law_gates"]
  f_law_qsame_gates : At K mg "_law_qsame_gates" s_law_qsame_gates ["_law_actual", "_law_gates"]
  f_law_qsame_netlist : At K mg "_law_qsame_netlist" s_law_qsame_netlist ["_law_netlist_here", "_law_signals", "_law_start", "_law_gates"]
  f_law_qwired : At K mg "_law_qwired" s_law_qwired ["_law_world_here", "_law_cell_here"]
  f_law_qsource : At K mg "_law_qsource" s_law_qsource ["_law_gates", "_law_wire"]
  f_law_qreads : At K mg "_law_qreads" s_law_qreads ["_law_gate"]
  f_law_qneeded : At K mg "_law_qneeded" s_law_qneeded ["_law_gates", "_law_width"]
  f_law_qtidied : At K mg "_law_qtidied" s_law_qtidied ["_law_gates", "_law_width"]
  f_law : At K mg "law" s_law ["_law_script"]
  b_all : mg "all" = none
  b_bool : mg "bool" = none
  b_int : mg "int" = none
  b_isinstance : mg "isinstance" = none
  b_len : mg "len" = none
  b_list : mg "list" = none
  b_max : mg "max" = none
  b_range : mg "range" = none
  b_sorted : mg "sorted" = none
  b_str : mg "str" = none
  b_tuple : mg "tuple" = none
  k_DIGITS : ∃ t, mg "DIGITS" = some (.str "0123456789" t)
  k_KINDS : ∃ a, mg "KINDS" = some (.ref a) ∧ ∀ H, SqT K H a (List.map V.str ["input", "output", "inner"])
  k_LETTERS : ∃ t, mg "LETTERS" = some (.str "abcdefghijklmnopqrstuvwxyz" t)
  k_LONGEST_NAME : ∃ t, mg "LONGEST_NAME" = some (.int 12 t)
  k_MOST_SIGNALS : ∃ t, mg "MOST_SIGNALS" = some (.int 8 t)
  k_MOST_WIRES : ∃ t, mg "MOST_WIRES" = some (.int 4000 t)
  a_Netlist_gates : AtF K mg "Netlist" "gates"
  a_Netlist_signals : AtF K mg "Netlist" "signals"
  a_Netlist_start : AtF K mg "Netlist" "start"
  tb : ∀ p ∈ tabDefs, GxR.TabB base mg (He.cT K p).1 (He.cT K p).2
noncomputable def sem_is_name : FS := fnF 2 [false] (seqS (ifS (orB (cmp ltB (frN (calN lenO [(varW 0)])) (cst (.int 1))) (orB (cmp gtB (frN (calN lenO [(varW 0)])) (cst (.int 12))) (cmp ninS (ixF (varW 0) (cst (.int 0))) (cst (.str "abcdefghijklmnopqrstuvwxyz"))))) (seqS (retS (pureE (cst (.bl false))))
  skipS) skipS)
  (seqS (retS (pureE (allT (fun c => (fun c => decide (c ∈ ("abcdefghijklmnopqrstuvwxyz" : Str).cps.toList)) c || (fun c => decide (c ∈ ("0123456789" : Str).cps.toList)) c) (varW 0))))
  skipS))

noncomputable def sem_is_code : FS := fnF 3 [false, false] (seqS (retS (pureE (asB (andB (cmp eqB (frN (calN lenO [(varW 0)])) (varW 1)) (isB (allT (fun c => decide (c ∈ ("01" : Str).cps.toList)) (varW 0)))))))
  skipS)

noncomputable def b_are_signals_1 : SF := (seqS (ifS (orB (notB (tru (frN (callN sem_is_name [(varD 2)])))) (orB (cmp inS (varW 2) (varW 1)) (cmp ninS (varW 3) (cst (.tup (List.map D.str ["input", "output", "inner"])))))) (seqS (retS (pureE (cst (.bl false))))
  skipS) skipS)
  (seqS (appS 1 (pureE (varD 2)))
  skipS))

@[simp] theorem wb_are_signals_1 {ρ : Ev} {Q : Out × Ev → Prop} : wp (b_are_signals_1 ρ) Q ↔ wp ((seqS (ifS (orB (notB (tru (frN (callN sem_is_name [(varD 2)])))) (orB (cmp inS (varW 2) (varW 1)) (cmp ninS (varW 3) (cst (.tup (List.map D.str ["input", "output", "inner"])))))) (seqS (retS (pureE (cst (.bl false))))
  skipS) skipS)
  (seqS (appS 1 (pureE (varD 2)))
  skipS)) ρ) Q := Iff.rfl

noncomputable def sem_are_signals : FS := fnF 4 [false] (seqS (ifS (cmp gtB (frN (calN lenO [(varW 0)])) (cst (.int 8))) (seqS (retS (pureE (cst (.bl false))))
  skipS) skipS)
  (seqS (setS 1 (freshE (lstN [])))
  (seqS (forS (itU (varD 0)) (unT [(setT 2), (setT 3)]) b_are_signals_1)
  (seqS (retS (pureE (cst (.bl true))))
  skipS))))

noncomputable def sem_is_cube : FS := fnF 3 [false, false] (seqS (retS (pureE (asB (andB (cmp eqB (frN (calN lenO [(varW 0)])) (varW 1)) (isB (allT (fun c => decide (c ∈ ("01-" : Str).cps.toList)) (varW 0)))))))
  skipS)

noncomputable def sem_are_cubes : FS := fnF 3 [false, false] (seqS (retS (pureE (evalG false (itU (varW 0)) [2] (setT 2) (isB (frN (callN sem_is_cube [(varD 2), (varD 1)]))))))
  skipS)

noncomputable def b_are_wires_1 : SF := (seqS (ifS (orB (cmp leB (varW 4) (varW 3)) (cmp geB (varW 4) (varW 2))) (seqS (retS (pureE (cst (.bl false))))
  skipS) skipS)
  (seqS (setS 3 (pureE (varD 4)))
  skipS))

@[simp] theorem wb_are_wires_1 {ρ : Ev} {Q : Out × Ev → Prop} : wp (b_are_wires_1 ρ) Q ↔ wp ((seqS (ifS (orB (cmp leB (varW 4) (varW 3)) (cmp geB (varW 4) (varW 2))) (seqS (retS (pureE (cst (.bl false))))
  skipS) skipS)
  (seqS (setS 3 (pureE (varD 4)))
  skipS)) ρ) Q := Iff.rfl

noncomputable def sem_are_wires : FS := fnF 5 [false, false, false] (seqS (setS 3 (pureE (frN (bin subO (varW 1) (cst (.int 1))))))
  (seqS (forS (itU (varD 0)) (setT 4) b_are_wires_1)
  (seqS (retS (pureE (cst (.bl true))))
  skipS)))

noncomputable def sem_fits_inner : FS := fnF 3 [false, false, false] (seqS (ifS (cmp eqB (ixF (varW 0) (cst (.int 0))) (cst (.str "and"))) (seqS (retS (freshE (callN sem_is_cube [(ixF (varW 0) (cst (.int 1))), (varD 2)])))
  skipS) skipS)
  (seqS (ifS (orB (cmp eqB (ixF (varW 0) (cst (.int 0))) (cst (.str "or"))) (cmp eqB (ixF (varW 0) (cst (.int 0))) (cst (.str "all")))) (seqS (retS (freshE (callN sem_are_wires [(ixF (varW 0) (cst (.int 1))), (varD 2), (varD 1)])))
  skipS) skipS)
  (seqS (retS (pureE (cst (.bl false))))
  skipS)))

noncomputable def sem_fits_signal : FS := fnF 5 [false, false, false] (seqS (ifS (cmp eqB (ixF (varW 0) (cst (.int 0))) (cst (.str "c"))) (seqS (parS 3 4 (ixF (varW 0) (cst (.int 1))) (ixF (varW 0) (cst (.int 2))))
  (seqS (retS (pureE (asB (andB (cmp neB (varW 3) (varW 4)) (andB (chn leB ltB (varW 1) (varW 3) (varW 2)) (chn leB ltB (varW 1) (varW 4) (varW 2)))))))
  skipS)) skipS)
  (seqS (ifS (cmp eqB (ixF (varW 0) (cst (.int 0))) (cst (.str "atomic"))) (seqS (retS (freshE (callN sem_are_cubes [(ixF (varW 0) (cst (.int 1))), (varD 1)])))
  skipS) skipS)
  (seqS (ifS (cmp eqB (ixF (varW 0) (cst (.int 0))) (cst (.str "latch"))) (seqS (retS (pureE (asB (andB (isB (frN (callN sem_are_cubes [(ixF (varW 0) (cst (.int 1))), (varD 1)]))) (isB (frN (callN sem_are_cubes [(ixF (varW 0) (cst (.int 2))), (varD 1)])))))))
  skipS) skipS)
  (seqS (retS (pureE (cst (.bl false))))
  skipS))))

noncomputable def b_Netlist_init_1 : SF := (seqS (setS 6 (pureE (ixF (varW 3) (varW 5))))
  (seqS (ifS (andB (cmp ltB (varW 5) (varW 4)) (cmp eqB (ixF (ixF (varW 1) (varW 5)) (cst (.int 1))) (cst (.str "input")))) (seqS (ifS (cmp isNotO (varW 6) (cst .non)) (seqS deadS
  skipS) skipS)
  skipS) (seqS (ifS (cmp isO (varW 6) (cst .non)) (seqS deadS
  skipS) (seqS (ifS (andB (cmp ltB (varW 5) (varW 4)) (notB (tru (frN (callN sem_fits_signal [(varD 6), (varD 4), (frN (calN lenO [(varW 3)]))]))))) (seqS deadS
  skipS) (seqS (ifS (andB (cmp geB (varW 5) (varW 4)) (notB (tru (frN (callN sem_fits_inner [(varD 6), (varD 5), (varD 4)]))))) (seqS deadS
  skipS) skipS)
  skipS))
  skipS))
  skipS))
  skipS))

@[simp] theorem wb_Netlist_init_1 {ρ : Ev} {Q : Out × Ev → Prop} : wp (b_Netlist_init_1 ρ) Q ↔ wp ((seqS (setS 6 (pureE (ixF (varW 3) (varW 5))))
  (seqS (ifS (andB (cmp ltB (varW 5) (varW 4)) (cmp eqB (ixF (ixF (varW 1) (varW 5)) (cst (.int 1))) (cst (.str "input")))) (seqS (ifS (cmp isNotO (varW 6) (cst .non)) (seqS deadS
  skipS) skipS)
  skipS) (seqS (ifS (cmp isO (varW 6) (cst .non)) (seqS deadS
  skipS) (seqS (ifS (andB (cmp ltB (varW 5) (varW 4)) (notB (tru (frN (callN sem_fits_signal [(varD 6), (varD 4), (frN (calN lenO [(varW 3)]))]))))) (seqS deadS
  skipS) (seqS (ifS (andB (cmp geB (varW 5) (varW 4)) (notB (tru (frN (callN sem_fits_inner [(varD 6), (varD 5), (varD 4)]))))) (seqS deadS
  skipS) skipS)
  skipS))
  skipS))
  skipS))
  skipS)) ρ) Q := Iff.rfl

noncomputable def sem_Netlist_init : FS := fnF 9 [true, false, false, false] (seqS (setS 4 (pureE (frN (calN lenO [(varW 1)]))))
  (seqS (ifS (orB (notB (tru (frN (callN sem_are_signals [(varD 1)])))) (notB (tru (frN (callN sem_is_code [(varD 2), (varD 4)]))))) (seqS deadS
  skipS) skipS)
  (seqS (ifS (orB (cmp ltB (frN (calN lenO [(varW 3)])) (varW 4)) (orB (cmp gtB (frN (calN lenO [(varW 3)])) (cst (.int 4000))) (andB (cmp eqB (varW 4) (cst (.int 0))) (cmp gtB (frN (calN lenO [(varW 3)])) (cst (.int 0)))))) (seqS deadS
  skipS) skipS)
  (seqS (forS (itR1 (frN (calN lenO [(varW 3)]))) (setT 5) b_Netlist_init_1)
  (seqS (setA 0 ["Netlist"] "signals" (pureE (frN (calN tupleC [(frN (lcN (itU (varW 1)) [7, 8] (unT [(setT 7), (setT 8)]) yesB (tupF [(varD 7), (varD 8)])))]))))
  (seqS (setA 0 ["Netlist"] "start" (pureE (varD 2)))
  (seqS (setA 0 ["Netlist"] "gates" (pureE (frN (calN tupleC [(varW 3)]))))
  skipS)))))))

noncomputable def sem_Netlist_signal_count : FS := fnF 1 [false] (seqS (retS (freshE (calN lenO [(atF ["Netlist"] "signals" (varW 0))])))
  skipS)

noncomputable def b_source_1 : SF := (seqS (setS 1 (pureE (ixF (ixF (varW 2) (cst (.int 1))) (cst (.int 0)))))
  (seqS (setS 2 (pureE (ixF (atF ["Netlist"] "gates" (varW 0)) (varW 1))))
  skipS))

@[simp] theorem wb_source_1 {ρ : Ev} {Q : Out × Ev → Prop} : wp (b_source_1 ρ) Q ↔ wp ((seqS (setS 1 (pureE (ixF (ixF (varW 2) (cst (.int 1))) (cst (.int 0)))))
  (seqS (setS 2 (pureE (ixF (atF ["Netlist"] "gates" (varW 0)) (varW 1))))
  skipS)) ρ) Q := Iff.rfl

noncomputable def sem_source : FS := fnF 3 [false, false] (seqS (setS 2 (pureE (ixF (atF ["Netlist"] "gates" (varW 0)) (varW 1))))
  (seqS (whileS (andB (cmp eqB (ixF (varW 2) (cst (.int 0))) (cst (.str "or"))) (cmp eqB (frN (calN lenO [(ixF (varW 2) (cst (.int 1)))])) (cst (.int 1)))) b_source_1)
  (seqS (retS (pureE (varD 1)))
  skipS)))

noncomputable def sem_inner_inputs : FS := fnF 1 [false] (seqS (ifS (cmp isO (varW 0) (cst .non)) (seqS (retS (pureE (tupF [])))
  skipS) skipS)
  (seqS (ifS (orB (cmp eqB (ixF (varW 0) (cst (.int 0))) (cst (.str "or"))) (cmp eqB (ixF (varW 0) (cst (.int 0))) (cst (.str "all")))) (seqS (retS (pureE (ixF (varW 0) (cst (.int 1)))))
  skipS) skipS)
  (seqS (ifS (cmp eqB (ixF (varW 0) (cst (.int 0))) (cst (.str "c"))) (seqS (retS (pureE (tupF [(ixF (varW 0) (cst (.int 1))), (ixF (varW 0) (cst (.int 2)))])))
  skipS) skipS)
  (seqS (retS (pureE (tupF [])))
  skipS))))

noncomputable def b_needed_wires_1 : SF := (seqS (stoS 2 (varD 4) (pureE (cst (.bl true))))
  skipS)

@[simp] theorem wb_needed_wires_1 {ρ : Ev} {Q : Out × Ev → Prop} : wp (b_needed_wires_1 ρ) Q ↔ wp ((seqS (stoS 2 (varD 4) (pureE (cst (.bl true))))
  skipS) ρ) Q := Iff.rfl

noncomputable def b_needed_wires_2 : SF := (seqS (forS (itU (frN (callN sem_inner_inputs [(ixF (varW 0) (varW 3))]))) (setT 4) b_needed_wires_1)
  skipS)

@[simp] theorem wb_needed_wires_2 {ρ : Ev} {Q : Out × Ev → Prop} : wp (b_needed_wires_2 ρ) Q ↔ wp ((seqS (forS (itU (frN (callN sem_inner_inputs [(ixF (varW 0) (varW 3))]))) (setT 4) b_needed_wires_1)
  skipS) ρ) Q := Iff.rfl

noncomputable def b_needed_wires_3 : SF := (seqS (stoS 2 (varD 4) (pureE (cst (.bl true))))
  skipS)

@[simp] theorem wb_needed_wires_3 {ρ : Ev} {Q : Out × Ev → Prop} : wp (b_needed_wires_3 ρ) Q ↔ wp ((seqS (stoS 2 (varD 4) (pureE (cst (.bl true))))
  skipS) ρ) Q := Iff.rfl

noncomputable def b_needed_wires_4 : SF := (seqS (ifS (tru (ixF (varW 2) (varW 3))) (seqS (forS (itU (frN (callN sem_inner_inputs [(ixF (varW 0) (varW 3))]))) (setT 4) b_needed_wires_3)
  skipS) skipS)
  skipS)

@[simp] theorem wb_needed_wires_4 {ρ : Ev} {Q : Out × Ev → Prop} : wp (b_needed_wires_4 ρ) Q ↔ wp ((seqS (ifS (tru (ixF (varW 2) (varW 3))) (seqS (forS (itU (frN (callN sem_inner_inputs [(ixF (varW 0) (varW 3))]))) (setT 4) b_needed_wires_3)
  skipS) skipS)
  skipS) ρ) Q := Iff.rfl

noncomputable def sem_needed_wires : FS := fnF 6 [false, false] (seqS (setS 2 (freshE (lcN (itU (varW 0)) [5] (setT 5) yesB (cst (.bl false)))))
  (seqS (forS (itR1 (varW 1)) (setT 3) b_needed_wires_2)
  (seqS (forS (itR3 (frN (bin subO (frN (calN lenO [(varW 0)])) (cst (.int 1)))) (frN (bin subO (varW 1) (cst (.int 1)))) (frN (negN (cst (.int 1))))) (setT 3) b_needed_wires_4)
  (seqS (retS (freshE (lcN (itR2 (varW 1) (frN (calN lenO [(varW 0)]))) [3] (setT 3) (tru (ixF (varW 2) (varW 3))) (varD 3))))
  skipS))))

noncomputable def sem_needed : FS := fnF 1 [false] (seqS (retS (freshE (callN sem_needed_wires [(atF ["Netlist"] "gates" (varW 0)), (frN (callP "Netlist" sem_Netlist_signal_count (varD 0)))])))
  skipS)

noncomputable def b_bypassed_1 : SF := (seqS (setS 4 (pureE (frN (callN sem_source [(varD 0), (varD 3)]))))
  (seqS (ifS (cmp ninS (varW 4) (varW 2)) (seqS (appS 2 (pureE (varD 4)))
  skipS) skipS)
  skipS))

@[simp] theorem wb_bypassed_1 {ρ : Ev} {Q : Out × Ev → Prop} : wp (b_bypassed_1 ρ) Q ↔ wp ((seqS (setS 4 (pureE (frN (callN sem_source [(varD 0), (varD 3)]))))
  (seqS (ifS (cmp ninS (varW 4) (varW 2)) (seqS (appS 2 (pureE (varD 4)))
  skipS) skipS)
  skipS)) ρ) Q := Iff.rfl

noncomputable def t_bypassed_1 : SF := (seqS (retS (pureE (varD 1)))
  skipS)

theorem wt_bypassed_1 {ρ : Ev} {Q : Out × Ev → Prop} : wp (t_bypassed_1 ρ) Q ↔ wp ((seqS (retS (pureE (varD 1)))
  skipS) ρ) Q := Iff.rfl

noncomputable def sem_bypassed : FS := fnF 7 [false, false] (seqS (ifS (cmp isO (varW 1) (cst .non)) (seqS (retS (pureE (cst .non)))
  skipS) skipS)
  (seqS (ifS (orB (andB (cmp eqB (ixF (varW 1) (cst (.int 0))) (cst (.str "or"))) (cmp gtB (frN (calN lenO [(ixF (varW 1) (cst (.int 1)))])) (cst (.int 1)))) (cmp eqB (ixF (varW 1) (cst (.int 0))) (cst (.str "all")))) (seqS (setS 2 (freshE (lstN [])))
  (seqS (forS (itU (ixF (varW 1) (cst (.int 1)))) (setT 3) b_bypassed_1)
  (seqS (retS (pureE (tupF [(ixF (varW 1) (cst (.int 0))), (frN (calN tupleC [(frN (calN sortC [(varW 2)]))]))])))
  skipS))) skipS)
  (seqS (ifS (cmp eqB (ixF (varW 1) (cst (.int 0))) (cst (.str "c"))) (seqS (setS 5 (pureE (frN (callN sem_source [(varD 0), (ixF (varW 1) (cst (.int 1)))]))))
  (seqS (setS 6 (pureE (frN (callN sem_source [(varD 0), (ixF (varW 1) (cst (.int 2)))]))))
  (seqS (ifS (cmp neB (varW 5) (varW 6)) (seqS (retS (pureE (tupF [(cst (.str "c")), (varD 5), (varD 6)])))
  skipS) skipS)
  skipS))) skipS)
  t_bypassed_1)))

noncomputable def sem_renumbered : FS := fnF 3 [false, false] (seqS (ifS (cmp isO (varW 0) (cst .non)) (seqS (retS (pureE (cst .non)))
  skipS) skipS)
  (seqS (ifS (orB (cmp eqB (ixF (varW 0) (cst (.int 0))) (cst (.str "or"))) (cmp eqB (ixF (varW 0) (cst (.int 0))) (cst (.str "all")))) (seqS (retS (pureE (tupF [(ixF (varW 0) (cst (.int 0))), (frN (calN tupleC [(frN (lcN (itU (ixF (varW 0) (cst (.int 1)))) [2] (setT 2) yesB (ixK (varW 1) (varW 2))))]))])))
  skipS) skipS)
  (seqS (ifS (cmp eqB (ixF (varW 0) (cst (.int 0))) (cst (.str "c"))) (seqS (retS (pureE (tupF [(cst (.str "c")), (ixK (varW 1) (ixF (varW 0) (cst (.int 1)))), (ixK (varW 1) (ixF (varW 0) (cst (.int 2))))])))
  skipS) skipS)
  (seqS (retS (pureE (varD 0)))
  skipS))))

noncomputable def b_tidied_1 : SF := (seqS (dputP 4 [] (ixF (varW 3) (varW 5)) (pureE (varD 5)))
  skipS)

@[simp] theorem wb_tidied_1 {ρ : Ev} {Q : Out × Ev → Prop} : wp (b_tidied_1 ρ) Q ↔ wp ((seqS (dputP 4 [] (ixF (varW 3) (varW 5)) (pureE (varD 5)))
  skipS) ρ) Q := Iff.rfl

noncomputable def sem_tidied : FS := fnF 9 [false] (seqS (setS 1 (pureE (frN (callP "Netlist" sem_Netlist_signal_count (varD 0)))))
  (seqS (setS 2 (pureE (frN (lcN (itU (atF ["Netlist"] "gates" (varW 0))) [7] (setT 7) yesB (frN (callN sem_bypassed [(varD 0), (varD 7)]))))))
  (seqS (setS 3 (pureE (frN (bin addO (frN (listR (cst (.int 0)) (varW 1))) (frN (callN sem_needed_wires [(varD 2), (varD 1)]))))))
  (seqS (setS 4 (freshE dicN))
  (seqS (forS (itR1 (frN (calN lenO [(varW 3)]))) (setT 5) b_tidied_1)
  (seqS (frzS 4 (setS 6 (pureE (frN (lcN (itU (varW 3)) [8] (setT 8) yesB (frN (callN sem_renumbered [(ixF (varW 2) (varW 8)), (varD 4)])))))))
  (seqS (retS (freshE (makeN "Netlist" sem_Netlist_init [(frN (calN listC [(atF ["Netlist"] "signals" (varW 0))])), (atF ["Netlist"] "start" (varW 0)), (varD 6)])))
  skipS)))))))

noncomputable def sem_law_cell : FS := fnF 2 [false, false] (seqS (ifS (cmp ltB (varW 1) (frN (calN lenO [(varW 0)]))) (seqS (retS (pureE (ixF (varW 0) (varW 1))))
  skipS) skipS)
  (seqS (retS (pureE (cst (.int 0))))
  skipS))

noncomputable def b_law_draws_1 : SF := (seqS (ifS (andB (cmp geB (varW 0) (frN (bin powO (cst (.int 10)) (cst (.int 18))))) (cmp gtB (varW 3) (cst (.int 0)))) (seqS (appS 2 (pureE (frN (bin modO (frN (calN intC [(varW 3)])) (cst (.int 4096))))))
  (seqS (setS 3 (pureE (frN (bin divO (varW 3) (cst (.int 4096))))))
  skipS)) (seqS (setS 5 (pureE (frN (bin modO (frN (calN intC [(frN (bin addO (frN (bin mulO (varW 0) (cst (.int 48271)))) (frN (bin mulO (frN (bin addO (varW 4) (cst (.int 1)))) (cst (.int 69621))))))])) (cst (.int 2147483647))))))
  (seqS (setS 5 (pureE (frN (bin modO (frN (calN intC [(frN (bin addO (frN (bin addO (frN (bin mulO (varW 5) (varW 5))) (frN (bin mulO (varW 5) (cst (.int 16807)))))) (frN (bin mulO (varW 4) (cst (.int 7919))))))])) (cst (.int 2147483629))))))
  (seqS (setS 5 (pureE (frN (bin modO (frN (calN intC [(frN (bin addO (frN (bin addO (frN (bin mulO (varW 5) (varW 5))) (varW 0))) (frN (bin mulO (cst (.int 13)) (varW 4)))))])) (cst (.int 2147483587))))))
  (seqS (appS 2 (pureE (frN (bin modO (frN (bin divO (varW 5) (cst (.int 7)))) (cst (.int 4096))))))
  skipS)))))
  skipS)

@[simp] theorem wb_law_draws_1 {ρ : Ev} {Q : Out × Ev → Prop} : wp (b_law_draws_1 ρ) Q ↔ wp ((seqS (ifS (andB (cmp geB (varW 0) (frN (bin powO (cst (.int 10)) (cst (.int 18))))) (cmp gtB (varW 3) (cst (.int 0)))) (seqS (appS 2 (pureE (frN (bin modO (frN (calN intC [(varW 3)])) (cst (.int 4096))))))
  (seqS (setS 3 (pureE (frN (bin divO (varW 3) (cst (.int 4096))))))
  skipS)) (seqS (setS 5 (pureE (frN (bin modO (frN (calN intC [(frN (bin addO (frN (bin mulO (varW 0) (cst (.int 48271)))) (frN (bin mulO (frN (bin addO (varW 4) (cst (.int 1)))) (cst (.int 69621))))))])) (cst (.int 2147483647))))))
  (seqS (setS 5 (pureE (frN (bin modO (frN (calN intC [(frN (bin addO (frN (bin addO (frN (bin mulO (varW 5) (varW 5))) (frN (bin mulO (varW 5) (cst (.int 16807)))))) (frN (bin mulO (varW 4) (cst (.int 7919))))))])) (cst (.int 2147483629))))))
  (seqS (setS 5 (pureE (frN (bin modO (frN (calN intC [(frN (bin addO (frN (bin addO (frN (bin mulO (varW 5) (varW 5))) (varW 0))) (frN (bin mulO (cst (.int 13)) (varW 4)))))])) (cst (.int 2147483587))))))
  (seqS (appS 2 (pureE (frN (bin modO (frN (bin divO (varW 5) (cst (.int 7)))) (cst (.int 4096))))))
  skipS)))))
  skipS) ρ) Q := Iff.rfl

noncomputable def sem_law_draws : FS := fnF 6 [false, false] (seqS (setS 2 (freshE (lstN [])))
  (seqS (setS 3 (pureE (varD 0)))
  (seqS (forS (itR1 (varW 1)) (setT 4) b_law_draws_1)
  (seqS (retS (mvE 2))
  skipS))))

noncomputable def sem_law_is_int : FS := fnF 1 [false] (seqS (retS (pureE (asB (andB (isiB "int" (varW 0)) (notB (isiB "bool" (varW 0)))))))
  skipS)

noncomputable def b_law_ints_1 : SF := (seqS (ifS (notB (tru (frN (callN sem_law_is_int [(ixF (varW 0) (varW 2))])))) (seqS (retS (pureE (cst (.bl false))))
  skipS) skipS)
  skipS)

@[simp] theorem wb_law_ints_1 {ρ : Ev} {Q : Out × Ev → Prop} : wp (b_law_ints_1 ρ) Q ↔ wp ((seqS (ifS (notB (tru (frN (callN sem_law_is_int [(ixF (varW 0) (varW 2))])))) (seqS (retS (pureE (cst (.bl false))))
  skipS) skipS)
  skipS) ρ) Q := Iff.rfl

noncomputable def t_law_ints_1 : SF := (seqS (forS (itR1 (frN (calN lenO [(varW 0)]))) (setT 2) b_law_ints_1)
  (seqS (retS (pureE (cst (.bl true))))
  skipS))

theorem wt_law_ints_1 {ρ : Ev} {Q : Out × Ev → Prop} : wp (t_law_ints_1 ρ) Q ↔ wp ((seqS (forS (itR1 (frN (calN lenO [(varW 0)]))) (setT 2) b_law_ints_1)
  (seqS (retS (pureE (cst (.bl true))))
  skipS)) ρ) Q := Iff.rfl

noncomputable def sem_law_ints : FS := fnF 3 [false, false] (seqS (ifS (cmp eqB (varW 1) (cst (.str "list"))) (seqS (ifS (notB (tru (asB (isiB "list" (varW 0))))) (seqS (retS (pureE (cst (.bl false))))
  skipS) skipS)
  skipS) (seqS (ifS (notB (tru (asB (isiB "tuple" (varW 0))))) (seqS (retS (pureE (cst (.bl false))))
  skipS) skipS)
  skipS))
  t_law_ints_1)

noncomputable def sem_law_is_list : FS := fnF 2 [false, false] (seqS (retS (pureE (asB (andB (isB (frN (callN sem_law_ints [(varD 0), (cst (.str "list"))]))) (cmp eqB (varW 0) (varW 1))))))
  skipS)

noncomputable def sem_law_is_text : FS := fnF 2 [false, false] (seqS (retS (pureE (asB (andB (isiB "str" (varW 0)) (cmp eqB (varW 0) (varW 1))))))
  skipS)

noncomputable def sem_law_is_number : FS := fnF 2 [false, false] (seqS (retS (pureE (asB (andB (isB (frN (callN sem_law_is_int [(varD 0)]))) (cmp eqB (varW 0) (varW 1))))))
  skipS)

noncomputable def t_law_bits_1 : SF := (seqS (setS 0 (pureE (frN (bin divO (varW 0) (cst (.int 2))))))
  skipS)

theorem wt_law_bits_1 {ρ : Ev} {Q : Out × Ev → Prop} : wp (t_law_bits_1 ρ) Q ↔ wp ((seqS (setS 0 (pureE (frN (bin divO (varW 0) (cst (.int 2))))))
  skipS) ρ) Q := Iff.rfl

noncomputable def b_law_bits_1 : SF := (seqS (ifS (cmp eqB (frN (bin modO (varW 0) (cst (.int 2)))) (cst (.int 1))) (seqS (appS 2 (pureE (varD 3)))
  skipS) skipS)
  t_law_bits_1)

@[simp] theorem wb_law_bits_1 {ρ : Ev} {Q : Out × Ev → Prop} : wp (b_law_bits_1 ρ) Q ↔ wp ((seqS (ifS (cmp eqB (frN (bin modO (varW 0) (cst (.int 2)))) (cst (.int 1))) (seqS (appS 2 (pureE (varD 3)))
  skipS) skipS)
  t_law_bits_1) ρ) Q := Iff.rfl

noncomputable def sem_law_bits : FS := fnF 4 [false, false] (seqS (setS 2 (freshE (lstN [])))
  (seqS (forS (itR1 (varW 1)) (setT 3) b_law_bits_1)
  (seqS (retS (freshE (calN tupleC [(varW 2)])))
  skipS)))

noncomputable def sem_law_name : FS := fnF 6 [false, false] (seqS (setS 2 (pureE (cst (.str "abcdefghijklmnopqrstuvwxyz"))))
  (seqS (setS 3 (pureE (frN (lstN [(cst (.str "")), (cst (.str "7")), (cst (.str "x0")), (cst (.str "q12")), (cst (.str "ab")), (cst (.str "z9z"))]))))
  (seqS (setS 4 (pureE (ixF (cst (.str "bkmw0358")) (varW 1))))
  (seqS (setS 5 (pureE (ixF (varW 2) (frN (bin modO (varW 0) (cst (.int 26)))))))
  (seqS (ifS (cmp eqB (frN (bin modO (frN (bin divO (varW 0) (cst (.int 26)))) (cst (.int 3)))) (cst (.int 1))) (seqS (retS (freshE (bin addO (frN (bin addO (varW 5) (ixF (varW 3) (frN (bin modO (frN (bin divO (varW 0) (cst (.int 78)))) (cst (.int 6))))))) (varW 4))))
  skipS) skipS)
  (seqS (ifS (cmp eqB (frN (bin modO (frN (bin divO (varW 0) (cst (.int 26)))) (cst (.int 3)))) (cst (.int 2))) (seqS (retS (freshE (bin addO (frN (bin addO (ixF (cst (.str "bkmwaceg")) (varW 1)) (varW 5))) (ixF (varW 3) (frN (bin modO (frN (bin divO (varW 0) (cst (.int 78)))) (cst (.int 6))))))))
  skipS) skipS)
  (seqS (retS (freshE (bin addO (frN (bin addO (varW 5) (varW 4))) (ixF (varW 3) (frN (bin modO (frN (bin divO (varW 0) (cst (.int 78)))) (cst (.int 6))))))))
  skipS)))))))

noncomputable def b_law_names_1 : SF := (seqS (setS 6 (pureE (ixF (varW 0) (frN (bin modO (frN (bin addO (varW 1) (varW 5))) (frN (calN lenO [(varW 0)])))))))
  (seqS (appS 3 (pureE (frN (callN sem_law_name [(frN (bin addO (frN (bin addO (frN (bin modO (varW 6) (cst (.int 26)))) (frN (bin mulO (cst (.int 26)) (varW 4))))) (frN (bin mulO (cst (.int 78)) (frN (bin divO (varW 6) (cst (.int 78)))))))), (varD 5)]))))
  skipS))

@[simp] theorem wb_law_names_1 {ρ : Ev} {Q : Out × Ev → Prop} : wp (b_law_names_1 ρ) Q ↔ wp ((seqS (setS 6 (pureE (ixF (varW 0) (frN (bin modO (frN (bin addO (varW 1) (varW 5))) (frN (calN lenO [(varW 0)])))))))
  (seqS (appS 3 (pureE (frN (callN sem_law_name [(frN (bin addO (frN (bin addO (frN (bin modO (varW 6) (cst (.int 26)))) (frN (bin mulO (cst (.int 26)) (varW 4))))) (frN (bin mulO (cst (.int 78)) (frN (bin divO (varW 6) (cst (.int 78)))))))), (varD 5)]))))
  skipS)) ρ) Q := Iff.rfl

noncomputable def sem_law_names : FS := fnF 7 [false, false, false] (seqS (setS 3 (freshE (lstN [])))
  (seqS (setS 4 (pureE (frN (bin modO (frN (bin divO (ixF (varW 0) (varW 1)) (cst (.int 26)))) (cst (.int 3))))))
  (seqS (forS (itR1 (varW 2)) (setT 5) b_law_names_1)
  (seqS (retS (mvE 3))
  skipS))))

noncomputable def b_law_sequence_1 : SF := (seqS (setS 8 (pureE (frN (bin modO (frN (bin divO (ixF (varW 0) (frN (bin modO (frN (bin addO (frN (bin addO (varW 1) (cst (.int 1)))) (varW 7))) (frN (calN lenO [(varW 0)]))))) (cst (.int 5)))) (frN (calN lenO [(varW 4)]))))))
  (seqS (setS 9 (pureE (ixF (varW 4) (varW 8))))
  (seqS (setS 4 (pureE (frN (bin addO (frN (slcN (varW 4) noI (someI (varW 8)))) (frN (slcN (varW 4) (someI (frN (bin addO (varW 8) (cst (.int 1))))) noI))))))
  (seqS (stoS 5 (varD 9) (pureE (frN (bin subO (cst (.int 1)) (ixF (varW 5) (varW 9))))))
  (seqS (appS 6 (pureE (tupF [(varD 9), (ixF (varW 5) (varW 9))])))
  skipS)))))

@[simp] theorem wb_law_sequence_1 {ρ : Ev} {Q : Out × Ev → Prop} : wp (b_law_sequence_1 ρ) Q ↔ wp ((seqS (setS 8 (pureE (frN (bin modO (frN (bin divO (ixF (varW 0) (frN (bin modO (frN (bin addO (frN (bin addO (varW 1) (cst (.int 1)))) (varW 7))) (frN (calN lenO [(varW 0)]))))) (cst (.int 5)))) (frN (calN lenO [(varW 4)]))))))
  (seqS (setS 9 (pureE (ixF (varW 4) (varW 8))))
  (seqS (setS 4 (pureE (frN (bin addO (frN (slcN (varW 4) noI (someI (varW 8)))) (frN (slcN (varW 4) (someI (frN (bin addO (varW 8) (cst (.int 1))))) noI))))))
  (seqS (stoS 5 (varD 9) (pureE (frN (bin subO (cst (.int 1)) (ixF (varW 5) (varW 9))))))
  (seqS (appS 6 (pureE (tupF [(varD 9), (ixF (varW 5) (varW 9))])))
  skipS))))) ρ) Q := Iff.rfl

noncomputable def t_law_sequence_1 : SF := (seqS (setS 5 (freshE (lcN (itU (varW 3)) [10] (setT 10) yesB (frN (calN intC [(asB (cmp eqB (varW 10) (cst (.str "1"))))])))))
  (seqS (setS 6 (freshE (lstN [])))
  (seqS (forS (itR1 (frN (calN lenO [(varW 4)]))) (setT 7) b_law_sequence_1)
  (seqS (retS (mvE 6))
  skipS))))

theorem wt_law_sequence_1 {ρ : Ev} {Q : Out × Ev → Prop} : wp (t_law_sequence_1 ρ) Q ↔ wp ((seqS (setS 5 (freshE (lcN (itU (varW 3)) [10] (setT 10) yesB (frN (calN intC [(asB (cmp eqB (varW 10) (cst (.str "1"))))])))))
  (seqS (setS 6 (freshE (lstN [])))
  (seqS (forS (itR1 (frN (calN lenO [(varW 4)]))) (setT 7) b_law_sequence_1)
  (seqS (retS (mvE 6))
  skipS)))) ρ) Q := Iff.rfl

noncomputable def sem_law_sequence : FS := fnF 11 [false, false, false, false] (seqS (setS 4 (pureE (frN (bin addO (varW 2) (varW 2)))))
  (seqS (ifS (cmp eqB (frN (bin modO (ixF (varW 0) (frN (bin modO (varW 1) (frN (calN lenO [(varW 0)]))))) (cst (.int 3)))) (cst (.int 1))) (seqS (setS 4 (pureE (frN (bin addO (varW 4) (frN (lstN [(ixF (varW 2) (cst (.int 0))), (ixF (varW 2) (cst (.int 0)))]))))))
  skipS) skipS)
  t_law_sequence_1))

noncomputable def t_law_groups_1 : SF := (seqS (ifS (tru (varW 6)) (seqS (appS 3 (pureE (frN (lstN [(ixF (varW 0) (varW 4)), (ixF (varW 0) (frN (bin addO (varW 4) (cst (.int 1)))))]))))
  (seqS (setS 4 (pureE (frN (bin addO (varW 4) (cst (.int 2))))))
  skipS)) (seqS (appS 3 (pureE (frN (lstN [(ixF (varW 0) (varW 4))]))))
  (seqS (setS 4 (pureE (frN (bin addO (varW 4) (cst (.int 1))))))
  skipS)))
  skipS)

theorem wt_law_groups_1 {ρ : Ev} {Q : Out × Ev → Prop} : wp (t_law_groups_1 ρ) Q ↔ wp ((seqS (ifS (tru (varW 6)) (seqS (appS 3 (pureE (frN (lstN [(ixF (varW 0) (varW 4)), (ixF (varW 0) (frN (bin addO (varW 4) (cst (.int 1)))))]))))
  (seqS (setS 4 (pureE (frN (bin addO (varW 4) (cst (.int 2))))))
  skipS)) (seqS (appS 3 (pureE (frN (lstN [(ixF (varW 0) (varW 4))]))))
  (seqS (setS 4 (pureE (frN (bin addO (varW 4) (cst (.int 1))))))
  skipS)))
  skipS) ρ) Q := Iff.rfl

noncomputable def b_law_groups_1 : SF := (seqS (ifS (cmp ltB (varW 4) (frN (calN lenO [(varW 0)]))) (seqS (setS 6 (pureE (asB (andB (cmp ltB (cst (.int 0)) (varW 4)) (andB (cmp ltB (frN (bin addO (varW 4) (cst (.int 2)))) (frN (calN lenO [(varW 0)]))) (cmp eqB (frN (bin modO (frN (bin divO (ixF (varW 1) (frN (bin modO (frN (bin addO (varW 2) (varW 5))) (frN (calN lenO [(varW 1)]))))) (cst (.int 3)))) (cst (.int 2)))) (cst (.int 1))))))))
  (seqS (ifS (andB (tru (varW 6)) (orB (cmp eqB (frN (calN lenO [(ixF (varW 3) (frN (negN (cst (.int 1)))))])) (cst (.int 2))) (cmp eqB (ixF (ixF (varW 0) (varW 4)) (cst (.int 0))) (ixF (ixF (varW 0) (frN (bin addO (varW 4) (cst (.int 1))))) (cst (.int 0)))))) (seqS (setS 6 (pureE (cst (.bl false))))
  skipS) skipS)
  t_law_groups_1)) skipS)
  skipS)

@[simp] theorem wb_law_groups_1 {ρ : Ev} {Q : Out × Ev → Prop} : wp (b_law_groups_1 ρ) Q ↔ wp ((seqS (ifS (cmp ltB (varW 4) (frN (calN lenO [(varW 0)]))) (seqS (setS 6 (pureE (asB (andB (cmp ltB (cst (.int 0)) (varW 4)) (andB (cmp ltB (frN (bin addO (varW 4) (cst (.int 2)))) (frN (calN lenO [(varW 0)]))) (cmp eqB (frN (bin modO (frN (bin divO (ixF (varW 1) (frN (bin modO (frN (bin addO (varW 2) (varW 5))) (frN (calN lenO [(varW 1)]))))) (cst (.int 3)))) (cst (.int 2)))) (cst (.int 1))))))))
  (seqS (ifS (andB (tru (varW 6)) (orB (cmp eqB (frN (calN lenO [(ixF (varW 3) (frN (negN (cst (.int 1)))))])) (cst (.int 2))) (cmp eqB (ixF (ixF (varW 0) (varW 4)) (cst (.int 0))) (ixF (ixF (varW 0) (frN (bin addO (varW 4) (cst (.int 1))))) (cst (.int 0)))))) (seqS (setS 6 (pureE (cst (.bl false))))
  skipS) skipS)
  t_law_groups_1)) skipS)
  skipS) ρ) Q := Iff.rfl

noncomputable def sem_law_groups : FS := fnF 7 [false, false, false] (seqS (setS 3 (freshE (lstN [])))
  (seqS (setS 4 (pureE (cst (.int 0))))
  (seqS (forS (itR1 (frN (calN lenO [(varW 0)]))) (setT 5) b_law_groups_1)
  (seqS (retS (mvE 3))
  skipS))))

noncomputable def b_law_add_groups_1 : SF := (seqS (appP 0 [.ix 1] (tupF [(tupF [(ixF (varW 3) (varW 7))]), (tupF [(ixF (varW 5) (varW 7))])]))
  (seqS (appP 0 [.ix 2] (ixF (ixF (varW 1) (varW 4)) (varW 7)))
  skipS))

@[simp] theorem wb_law_add_groups_1 {ρ : Ev} {Q : Out × Ev → Prop} : wp (b_law_add_groups_1 ρ) Q ↔ wp ((seqS (appP 0 [.ix 1] (tupF [(tupF [(ixF (varW 3) (varW 7))]), (tupF [(ixF (varW 5) (varW 7))])]))
  (seqS (appP 0 [.ix 2] (ixF (ixF (varW 1) (varW 4)) (varW 7)))
  skipS)) ρ) Q := Iff.rfl

noncomputable def t_law_add_groups_1 : SF := (seqS (setS 3 (pureE (varD 5)))
  skipS)

theorem wt_law_add_groups_1 {ρ : Ev} {Q : Out × Ev → Prop} : wp (t_law_add_groups_1 ρ) Q ↔ wp ((seqS (setS 3 (pureE (varD 5)))
  skipS) ρ) Q := Iff.rfl

noncomputable def t_law_add_groups_2 : SF := (seqS (ifS (cmp eqB (frN (calN lenO [(ixF (varW 1) (varW 4))])) (cst (.int 1))) (seqS (appP 0 [.ix 1] (tupF [(frN (calN tupleC [(varW 3)])), (frN (calN tupleC [(varW 5)]))]))
  (seqS (appP 0 [.ix 2] (ixF (ixF (varW 1) (varW 4)) (cst (.int 0))))
  skipS)) (seqS (forS (itR1 (cst (.int 2))) (setT 7) b_law_add_groups_1)
  skipS))
  t_law_add_groups_1)

theorem wt_law_add_groups_2 {ρ : Ev} {Q : Out × Ev → Prop} : wp (t_law_add_groups_2 ρ) Q ↔ wp ((seqS (ifS (cmp eqB (frN (calN lenO [(ixF (varW 1) (varW 4))])) (cst (.int 1))) (seqS (appP 0 [.ix 1] (tupF [(frN (calN tupleC [(varW 3)])), (frN (calN tupleC [(varW 5)]))]))
  (seqS (appP 0 [.ix 2] (ixF (ixF (varW 1) (varW 4)) (cst (.int 0))))
  skipS)) (seqS (forS (itR1 (cst (.int 2))) (setT 7) b_law_add_groups_1)
  skipS))
  t_law_add_groups_1) ρ) Q := Iff.rfl

noncomputable def b_law_add_groups_2 : SF := (seqS (setS 5 (pureE (frN (lstN [(varD 2)]))))
  (seqS (ifS (cmp ltB (frN (bin addO (varW 4) (cst (.int 1)))) (frN (calN lenO [(varW 1)]))) (seqS (setS 6 (pureE (frN (calN maxC [(frN (calN lenO [(ixF (varW 1) (varW 4))])), (frN (calN lenO [(ixF (varW 1) (frN (bin addO (varW 4) (cst (.int 1)))))]))]))))
  (seqS (setS 5 (pureE (frN (lcN (itR1 (varW 6)) [8] (setT 8) yesB (frN (bin addO (viewP (getP 0 [.ix 0])) (varW 8)))))))
  (seqS (stoP 0 [] (cst (.int 0)) (pureE (frN (bin addO (viewP (getP 0 [.ix 0])) (varW 6)))))
  skipS))) skipS)
  t_law_add_groups_2))

@[simp] theorem wb_law_add_groups_2 {ρ : Ev} {Q : Out × Ev → Prop} : wp (b_law_add_groups_2 ρ) Q ↔ wp ((seqS (setS 5 (pureE (frN (lstN [(varD 2)]))))
  (seqS (ifS (cmp ltB (frN (bin addO (varW 4) (cst (.int 1)))) (frN (calN lenO [(varW 1)]))) (seqS (setS 6 (pureE (frN (calN maxC [(frN (calN lenO [(ixF (varW 1) (varW 4))])), (frN (calN lenO [(ixF (varW 1) (frN (bin addO (varW 4) (cst (.int 1)))))]))]))))
  (seqS (setS 5 (pureE (frN (lcN (itR1 (varW 6)) [8] (setT 8) yesB (frN (bin addO (viewP (getP 0 [.ix 0])) (varW 8)))))))
  (seqS (stoP 0 [] (cst (.int 0)) (pureE (frN (bin addO (viewP (getP 0 [.ix 0])) (varW 6)))))
  skipS))) skipS)
  t_law_add_groups_2)) ρ) Q := Iff.rfl

noncomputable def sem_law_add_groups : FS := fnF 9 [true, false, false] (seqS (setS 3 (pureE (frN (lstN [(varD 2)]))))
  (seqS (forS (itR1 (frN (calN lenO [(varW 1)]))) (setT 4) b_law_add_groups_2)
  skipS))

noncomputable def t_law_free_net_1 : SF := (seqS (appS 3 (pureE (tupF [(varD 6), (frN (callN sem_law_bits [(ixF (varW 0) (frN (bin addO (cst (.int 13)) (frN (bin mulO (cst (.int 3)) (varW 5)))))), (varD 2)]))])))
  (seqS (appS 4 (pureE (tupF [(frN (bin modO (ixF (varW 0) (frN (bin addO (cst (.int 14)) (frN (bin mulO (cst (.int 3)) (varW 5)))))) (varW 1))), (frN (bin modO (frN (bin divO (ixF (varW 0) (frN (bin addO (cst (.int 14)) (frN (bin mulO (cst (.int 3)) (varW 5)))))) (cst (.int 8)))) (cst (.int 2))))])))
  skipS))

theorem wt_law_free_net_1 {ρ : Ev} {Q : Out × Ev → Prop} : wp (t_law_free_net_1 ρ) Q ↔ wp ((seqS (appS 3 (pureE (tupF [(varD 6), (frN (callN sem_law_bits [(ixF (varW 0) (frN (bin addO (cst (.int 13)) (frN (bin mulO (cst (.int 3)) (varW 5)))))), (varD 2)]))])))
  (seqS (appS 4 (pureE (tupF [(frN (bin modO (ixF (varW 0) (frN (bin addO (cst (.int 14)) (frN (bin mulO (cst (.int 3)) (varW 5)))))) (varW 1))), (frN (bin modO (frN (bin divO (ixF (varW 0) (frN (bin addO (cst (.int 14)) (frN (bin mulO (cst (.int 3)) (varW 5)))))) (cst (.int 8)))) (cst (.int 2))))])))
  skipS)) ρ) Q := Iff.rfl

noncomputable def b_law_free_net_1 : SF := (seqS (setS 6 (pureE (frN (callN sem_law_bits [(ixF (varW 0) (frN (bin addO (cst (.int 12)) (frN (bin mulO (cst (.int 3)) (varW 5)))))), (varD 2)]))))
  (seqS (ifS (cmp eqB (frN (calN lenO [(varW 6)])) (cst (.int 0))) (seqS (setS 6 (pureE (tupF [(frN (bin modO (frN (bin divO (ixF (varW 0) (frN (bin addO (cst (.int 12)) (frN (bin mulO (cst (.int 3)) (varW 5)))))) (cst (.int 32)))) (varW 2)))])))
  skipS) skipS)
  t_law_free_net_1))

@[simp] theorem wb_law_free_net_1 {ρ : Ev} {Q : Out × Ev → Prop} : wp (b_law_free_net_1 ρ) Q ↔ wp ((seqS (setS 6 (pureE (frN (callN sem_law_bits [(ixF (varW 0) (frN (bin addO (cst (.int 12)) (frN (bin mulO (cst (.int 3)) (varW 5)))))), (varD 2)]))))
  (seqS (ifS (cmp eqB (frN (calN lenO [(varW 6)])) (cst (.int 0))) (seqS (setS 6 (pureE (tupF [(frN (bin modO (frN (bin divO (ixF (varW 0) (frN (bin addO (cst (.int 12)) (frN (bin mulO (cst (.int 3)) (varW 5)))))) (cst (.int 32)))) (varW 2)))])))
  skipS) skipS)
  t_law_free_net_1)) ρ) Q := Iff.rfl

noncomputable def sem_law_free_net : FS := fnF 7 [false, false] (seqS (setS 2 (pureE (frN (bin addO (cst (.int 1)) (frN (bin modO (ixF (varW 0) (cst (.int 10))) (cst (.int 5))))))))
  (seqS (setS 3 (freshE (lstN [])))
  (seqS (setS 4 (freshE (lstN [])))
  (seqS (forS (itR1 (frN (bin modO (ixF (varW 0) (cst (.int 11))) (cst (.int 8))))) (setT 5) b_law_free_net_1)
  (seqS (retS (nsE [(pureE (varD 2)), (mvE 3), (mvE 4), (pureE (frN (callN sem_law_bits [(ixF (varW 0) (cst (.int 40))), (varD 2)])))]))
  skipS)))))

noncomputable def b_law_world_1 : SF := (seqS (setS 13 (pureE (frN (callN sem_law_sequence [(varD 1), (frN (bin addO (frN (bin addO (cst (.int 10)) (frN (bin mulO (cst (.int 13)) (varW 12))))) (frN (bin mulO (cst (.int 5)) (varW 9))))), (varD 10), (varD 4)]))))
  (seqS (exprS (callE sem_law_add_groups [.m 6, .v (frN (callN sem_law_groups [(varD 13), (varD 1), (frN (bin addO (cst (.int 36)) (frN (bin mulO (cst (.int 7)) (varW 12)))))])), .v (varD 11)]))
  (seqS (ifS (cmp eqB (varW 5) (cst (.int 5))) (seqS (stoS 3 (ixF (ixF (varW 13) (cst (.int 0))) (cst (.int 0))) (pureE (cst (.str "input"))))
  skipS) skipS)
  skipS)))

@[simp] theorem wb_law_world_1 {ρ : Ev} {Q : Out × Ev → Prop} : wp (b_law_world_1 ρ) Q ↔ wp ((seqS (setS 13 (pureE (frN (callN sem_law_sequence [(varD 1), (frN (bin addO (frN (bin addO (cst (.int 10)) (frN (bin mulO (cst (.int 13)) (varW 12))))) (frN (bin mulO (cst (.int 5)) (varW 9))))), (varD 10), (varD 4)]))))
  (seqS (exprS (callE sem_law_add_groups [.m 6, .v (frN (callN sem_law_groups [(varD 13), (varD 1), (frN (bin addO (cst (.int 36)) (frN (bin mulO (cst (.int 7)) (varW 12)))))])), .v (varD 11)]))
  (seqS (ifS (cmp eqB (varW 5) (cst (.int 5))) (seqS (stoS 3 (ixF (ixF (varW 13) (cst (.int 0))) (cst (.int 0))) (pureE (cst (.str "input"))))
  skipS) skipS)
  skipS))) ρ) Q := Iff.rfl

noncomputable def b_law_world_2 : SF := (seqS (setS 10 (pureE (frN (lcN (itR1 (varW 2)) [16] (setT 16) (cmp eqB (frN (bin modO (varW 16) (varW 8))) (varW 9)) (varD 16)))))
  (seqS (setS 11 (pureE (valP (getP 6 [.ix 0]))))
  (seqS (stoP 6 [] (cst (.int 0)) (pureE (frN (bin addO (viewP (getP 6 [.ix 0])) (cst (.int 1))))))
  (seqS (appS 7 (pureE (varD 11)))
  (seqS (forS (itR1 (frN (bin addO (cst (.int 1)) (frN (calN intC [(asB (cmp eqB (varW 5) (cst (.int 5))))]))))) (setT 12) b_law_world_1)
  skipS)))))

@[simp] theorem wb_law_world_2 {ρ : Ev} {Q : Out × Ev → Prop} : wp (b_law_world_2 ρ) Q ↔ wp ((seqS (setS 10 (pureE (frN (lcN (itR1 (varW 2)) [16] (setT 16) (cmp eqB (frN (bin modO (varW 16) (varW 8))) (varW 9)) (varD 16)))))
  (seqS (setS 11 (pureE (valP (getP 6 [.ix 0]))))
  (seqS (stoP 6 [] (cst (.int 0)) (pureE (frN (bin addO (viewP (getP 6 [.ix 0])) (cst (.int 1))))))
  (seqS (appS 7 (pureE (varD 11)))
  (seqS (forS (itR1 (frN (bin addO (cst (.int 1)) (frN (calN intC [(asB (cmp eqB (varW 5) (cst (.int 5))))]))))) (setT 12) b_law_world_1)
  skipS))))) ρ) Q := Iff.rfl

noncomputable def t_law_world_1 : SF := (seqS (setS 14 (pureE (frN (callN sem_law_names [(varD 1), (cst (.int 48)), (varD 2)]))))
  (seqS (setS 15 (pureE (frN (lcN (itR1 (varW 2)) [16] (setT 16) yesB (tupF [(ixF (varW 14) (varW 16)), (ixF (varW 3) (varW 16))])))))
  (seqS (frzS 6 (retS (pureE (tupF [(valP (getP 6 [.ix 0])), (valP (getP 6 [.ix 1])), (frN (calN tupleC [(varW 7)])), (varD 15), (valP (getP 6 [.ix 2])), (varD 4)]))))
  skipS)))

theorem wt_law_world_1 {ρ : Ev} {Q : Out × Ev → Prop} : wp (t_law_world_1 ρ) Q ↔ wp ((seqS (setS 14 (pureE (frN (callN sem_law_names [(varD 1), (cst (.int 48)), (varD 2)]))))
  (seqS (setS 15 (pureE (frN (lcN (itR1 (varW 2)) [16] (setT 16) yesB (tupF [(ixF (varW 14) (varW 16)), (ixF (varW 3) (varW 16))])))))
  (seqS (frzS 6 (retS (pureE (tupF [(valP (getP 6 [.ix 0])), (valP (getP 6 [.ix 1])), (frN (calN tupleC [(varW 7)])), (varD 15), (valP (getP 6 [.ix 2])), (varD 4)]))))
  skipS))) ρ) Q := Iff.rfl

noncomputable def t_law_world_2 : SF := (seqS (ifS (andB (cmp eqB (frN (bin modO (ixF (varW 1) (cst (.int 58))) (cst (.int 5)))) (cst (.int 1))) (cmp gtB (frN (calN lenO [(viewP (getP 6 [.ix 2]))])) (cst (.int 0)))) (seqS (stoP 6 [.ix 2] (frN (bin modO (ixF (varW 1) (cst (.int 57))) (frN (calN lenO [(viewP (getP 6 [.ix 2]))])))) (pureE (tupF [(frN (bin modO (ixF (varW 1) (cst (.int 56))) (varW 2))), (frN (bin modO (frN (bin divO (ixF (varW 1) (cst (.int 56))) (cst (.int 9)))) (cst (.int 2))))])))
  skipS) skipS)
  t_law_world_1)

theorem wt_law_world_2 {ρ : Ev} {Q : Out × Ev → Prop} : wp (t_law_world_2 ρ) Q ↔ wp ((seqS (ifS (andB (cmp eqB (frN (bin modO (ixF (varW 1) (cst (.int 58))) (cst (.int 5)))) (cst (.int 1))) (cmp gtB (frN (calN lenO [(viewP (getP 6 [.ix 2]))])) (cst (.int 0)))) (seqS (stoP 6 [.ix 2] (frN (bin modO (ixF (varW 1) (cst (.int 57))) (frN (calN lenO [(viewP (getP 6 [.ix 2]))])))) (pureE (tupF [(frN (bin modO (ixF (varW 1) (cst (.int 56))) (varW 2))), (frN (bin modO (frN (bin divO (ixF (varW 1) (cst (.int 56))) (cst (.int 9)))) (cst (.int 2))))])))
  skipS) skipS)
  t_law_world_1) ρ) Q := Iff.rfl

noncomputable def sem_law_world : FS := fnF 17 [false] (seqS (setS 1 (pureE (frN (callN sem_law_draws [(varD 0), (cst (.int 60))]))))
  (seqS (setS 2 (pureE (frN (bin addO (cst (.int 1)) (frN (bin modO (ixF (varW 1) (cst (.int 0))) (cst (.int 4))))))))
  (seqS (setS 3 (freshE (lcN (itR1 (varW 2)) [16] (setT 16) yesB (ixF (frN (lstN [(cst (.str "input")), (cst (.str "output")), (cst (.str "output")), (cst (.str "inner"))])) (frN (bin modO (ixF (varW 1) (frN (bin addO (cst (.int 1)) (varW 16)))) (cst (.int 4))))))))
  (seqS (setS 4 (pureE (joinF (cst (.str "")) (frN (lcN (itR1 (varW 2)) [16] (setT 16) yesB (ixF (cst (.str "01")) (frN (bin modO (frN (bin divO (ixF (varW 1) (frN (bin addO (cst (.int 5)) (varW 16)))) (cst (.int 7)))) (cst (.int 2))))))))))
  (seqS (setS 5 (pureE (frN (bin modO (ixF (varW 1) (cst (.int 9))) (cst (.int 8))))))
  (seqS (ifS (cmp gtB (varW 5) (cst (.int 5))) (seqS (setS 6 (freshE (callN sem_law_free_net [(varD 1), (varD 2)])))
  (seqS (setS 7 (freshE (calN listC [(viewP (getP 6 [.ix 3]))])))
  skipS)) (seqS (setS 6 (nsE [(pureE (cst (.int 0))), (freshE (lstN [])), (freshE (lstN []))]))
  (seqS (setS 7 (freshE (lstN [])))
  (seqS (setS 8 (pureE (frN (bin addO (cst (.int 1)) (frN (calN intC [(asB (andB (cmp eqB (varW 5) (cst (.int 4))) (cmp gtB (varW 2) (cst (.int 1)))))]))))))
  (seqS (forS (itR1 (varW 8)) (setT 9) b_law_world_2)
  skipS)))))
  t_law_world_2))))))

noncomputable def b_law_same_signals_1 : SF := (seqS (setS 3 (pureE (ixF (varW 0) (varW 2))))
  (seqS (ifS (orB (notB (tru (asB (isiB "tuple" (varW 3))))) (cmp neB (frN (calN lenO [(varW 3)])) (cst (.int 2)))) (seqS (retS (pureE (cst (.bl false))))
  skipS) skipS)
  (seqS (ifS (orB (notB (tru (frN (callN sem_law_is_text [(ixF (varW 3) (cst (.int 0))), (ixF (ixF (varW 1) (varW 2)) (cst (.int 0)))])))) (notB (tru (frN (callN sem_law_is_text [(ixF (varW 3) (cst (.int 1))), (ixF (ixF (varW 1) (varW 2)) (cst (.int 1)))]))))) (seqS (retS (pureE (cst (.bl false))))
  skipS) skipS)
  skipS)))

@[simp] theorem wb_law_same_signals_1 {ρ : Ev} {Q : Out × Ev → Prop} : wp (b_law_same_signals_1 ρ) Q ↔ wp ((seqS (setS 3 (pureE (ixF (varW 0) (varW 2))))
  (seqS (ifS (orB (notB (tru (asB (isiB "tuple" (varW 3))))) (cmp neB (frN (calN lenO [(varW 3)])) (cst (.int 2)))) (seqS (retS (pureE (cst (.bl false))))
  skipS) skipS)
  (seqS (ifS (orB (notB (tru (frN (callN sem_law_is_text [(ixF (varW 3) (cst (.int 0))), (ixF (ixF (varW 1) (varW 2)) (cst (.int 0)))])))) (notB (tru (frN (callN sem_law_is_text [(ixF (varW 3) (cst (.int 1))), (ixF (ixF (varW 1) (varW 2)) (cst (.int 1)))]))))) (seqS (retS (pureE (cst (.bl false))))
  skipS) skipS)
  skipS))) ρ) Q := Iff.rfl

noncomputable def sem_law_same_signals : FS := fnF 4 [false, false] (seqS (ifS (orB (notB (tru (asB (isiB "tuple" (varW 0))))) (cmp neB (frN (calN lenO [(varW 0)])) (frN (calN lenO [(varW 1)])))) (seqS (retS (pureE (cst (.bl false))))
  skipS) skipS)
  (seqS (forS (itR1 (frN (calN lenO [(varW 1)]))) (setT 2) b_law_same_signals_1)
  (seqS (retS (pureE (cst (.bl true))))
  skipS)))

noncomputable def b_law_cube_1 : SF := (seqS (setS 2 (pureE (frN (bin addO (varW 2) (ixF (cst (.str "01-")) (frN (bin modO (varW 0) (cst (.int 3)))))))))
  (seqS (setS 0 (pureE (frN (bin divO (varW 0) (cst (.int 3))))))
  skipS))

@[simp] theorem wb_law_cube_1 {ρ : Ev} {Q : Out × Ev → Prop} : wp (b_law_cube_1 ρ) Q ↔ wp ((seqS (setS 2 (pureE (frN (bin addO (varW 2) (ixF (cst (.str "01-")) (frN (bin modO (varW 0) (cst (.int 3)))))))))
  (seqS (setS 0 (pureE (frN (bin divO (varW 0) (cst (.int 3))))))
  skipS)) ρ) Q := Iff.rfl

noncomputable def sem_law_cube : FS := fnF 4 [false, false] (seqS (setS 2 (pureE (cst (.str ""))))
  (seqS (forS (itR1 (varW 1)) (setT 3) b_law_cube_1)
  (seqS (retS (pureE (varD 2)))
  skipS)))

noncomputable def sem_law_netlist : FS := fnF 2 [false, false] (seqS (retS (freshE (makeN "Netlist" sem_Netlist_init [(frN (calN listC [(ixF (varW 0) (cst (.int 3)))])), (ixF (varW 0) (cst (.int 5))), (frN (calN listC [(varW 1)]))])))
  skipS)

noncomputable def b_law_qsame_gates_1 : SF := (seqS (ifS (cmp isO (ixF (varW 1) (varW 2)) (cst .non)) (seqS (ifS (cmp isNotO (ixF (varW 0) (varW 2)) (cst .non)) (seqS (retS (pureE (cst (.bl false))))
  skipS) skipS)
  skipS) (seqS (ifS (orB (notB (tru (asB (isiB "tuple" (ixF (varW 0) (varW 2)))))) (cmp neB (ixF (varW 0) (varW 2)) (ixF (varW 1) (varW 2)))) (seqS (retS (pureE (cst (.bl false))))
  skipS) skipS)
  skipS))
  skipS)

@[simp] theorem wb_law_qsame_gates_1 {ρ : Ev} {Q : Out × Ev → Prop} : wp (b_law_qsame_gates_1 ρ) Q ↔ wp ((seqS (ifS (cmp isO (ixF (varW 1) (varW 2)) (cst .non)) (seqS (ifS (cmp isNotO (ixF (varW 0) (varW 2)) (cst .non)) (seqS (retS (pureE (cst (.bl false))))
  skipS) skipS)
  skipS) (seqS (ifS (orB (notB (tru (asB (isiB "tuple" (ixF (varW 0) (varW 2)))))) (cmp neB (ixF (varW 0) (varW 2)) (ixF (varW 1) (varW 2)))) (seqS (retS (pureE (cst (.bl false))))
  skipS) skipS)
  skipS))
  skipS) ρ) Q := Iff.rfl

noncomputable def sem_law_qsame_gates : FS := fnF 3 [false, false] (seqS (ifS (orB (notB (tru (asB (isiB "tuple" (varW 0))))) (cmp neB (frN (calN lenO [(varW 0)])) (frN (calN lenO [(varW 1)])))) (seqS (retS (pureE (cst (.bl false))))
  skipS) skipS)
  (seqS (forS (itR1 (frN (calN lenO [(varW 1)]))) (setT 2) b_law_qsame_gates_1)
  (seqS (retS (pureE (cst (.bl true))))
  skipS)))

noncomputable def sem_law_qsame_netlist : FS := fnF 4 [false, false, false, false] (seqS (ifS (orB (notB (tru (frN (callN sem_law_same_signals [(atF ["Netlist"] "signals" (varW 0)), (varD 1)])))) (notB (tru (frN (callN sem_law_is_text [(atF ["Netlist"] "start" (varW 0)), (varD 2)]))))) (seqS (retS (pureE (cst (.bl false))))
  skipS) skipS)
  (seqS (retS (freshE (callN sem_law_qsame_gates [(atF ["Netlist"] "gates" (varW 0)), (varD 3)])))
  skipS))

noncomputable def b_law_qwired_1 : SF := (seqS (setS 7 (pureE (ixF (varW 2) (frN (bin addO (cst (.int 1)) (varW 6))))))
  (seqS (setS 8 (pureE (frN (callN sem_law_cube [(ixF (varW 2) (frN (bin addO (cst (.int 20)) (varW 6)))), (varD 3)]))))
  (seqS (setS 9 (pureE (frN (lcN (itR2 (varW 3) (varW 6)) [13] (setT 13) (cmp gtB (frN (bin modO (frN (bin divO (ixF (varW 2) (frN (bin modO (frN (bin addO (varW 6) (varW 13))) (cst (.int 60))))) (cst (.int 16)))) (cst (.int 3)))) (cst (.int 0))) (varD 13)))))
  (seqS (setS 10 (pureE (frN (bin modO (varW 7) (cst (.int 5))))))
  (seqS (ifS (andB (cmp ltB (varW 6) (varW 3)) (cmp eqB (ixF (ixF (ixF (varW 0) (cst (.int 3))) (varW 6)) (cst (.int 1))) (cst (.str "input")))) (seqS (appS 5 (pureE (cst .non)))
  skipS) (seqS (ifS (andB (cmp ltB (varW 6) (varW 3)) (andB (cmp ltB (varW 10) (cst (.int 3))) (cmp gtB (varW 4) (cst (.int 1))))) (seqS (setS 11 (pureE (frN (bin modO (frN (bin divO (varW 7) (cst (.int 5)))) (varW 4)))))
  (seqS (setS 12 (pureE (frN (bin modO (frN (bin addO (frN (bin addO (varW 11) (cst (.int 1)))) (frN (bin modO (frN (bin divO (varW 7) (cst (.int 64)))) (frN (bin subO (varW 4) (cst (.int 1)))))))) (varW 4)))))
  (seqS (appS 5 (pureE (tupF [(cst (.str "c")), (frN (bin addO (varW 3) (varW 11))), (frN (bin addO (varW 3) (varW 12)))])))
  skipS))) (seqS (ifS (andB (cmp ltB (varW 6) (varW 3)) (cmp eqB (varW 10) (cst (.int 3)))) (seqS (appS 5 (pureE (tupF [(cst (.str "latch")), (tupF [(varD 8)]), (tupF [])])))
  skipS) (seqS (ifS (cmp ltB (varW 6) (varW 3)) (seqS (appS 5 (pureE (tupF [(cst (.str "atomic")), (tupF [(varD 8)])])))
  skipS) (seqS (ifS (orB (cmp eqB (varW 6) (varW 3)) (cmp eqB (varW 10) (cst (.int 0)))) (seqS (appS 5 (pureE (tupF [(cst (.str "and")), (varD 8)])))
  skipS) (seqS (ifS (cmp ltB (varW 10) (cst (.int 3))) (seqS (appS 5 (pureE (tupF [(cst (.str "or")), (tupF [(frN (bin addO (varW 3) (frN (bin modO (frN (bin divO (varW 7) (cst (.int 5)))) (frN (bin subO (varW 6) (varW 3)))))))])])))
  skipS) (seqS (appS 5 (pureE (tupF [(ixF (frN (lstN [(cst (.str "or")), (cst (.str "all"))])) (frN (bin modO (varW 10) (cst (.int 2))))), (frN (calN tupleC [(varW 9)]))])))
  skipS))
  skipS))
  skipS))
  skipS))
  skipS))
  skipS))
  skipS)))))

@[simp] theorem wb_law_qwired_1 {ρ : Ev} {Q : Out × Ev → Prop} : wp (b_law_qwired_1 ρ) Q ↔ wp ((seqS (setS 7 (pureE (ixF (varW 2) (frN (bin addO (cst (.int 1)) (varW 6))))))
  (seqS (setS 8 (pureE (frN (callN sem_law_cube [(ixF (varW 2) (frN (bin addO (cst (.int 20)) (varW 6)))), (varD 3)]))))
  (seqS (setS 9 (pureE (frN (lcN (itR2 (varW 3) (varW 6)) [13] (setT 13) (cmp gtB (frN (bin modO (frN (bin divO (ixF (varW 2) (frN (bin modO (frN (bin addO (varW 6) (varW 13))) (cst (.int 60))))) (cst (.int 16)))) (cst (.int 3)))) (cst (.int 0))) (varD 13)))))
  (seqS (setS 10 (pureE (frN (bin modO (varW 7) (cst (.int 5))))))
  (seqS (ifS (andB (cmp ltB (varW 6) (varW 3)) (cmp eqB (ixF (ixF (ixF (varW 0) (cst (.int 3))) (varW 6)) (cst (.int 1))) (cst (.str "input")))) (seqS (appS 5 (pureE (cst .non)))
  skipS) (seqS (ifS (andB (cmp ltB (varW 6) (varW 3)) (andB (cmp ltB (varW 10) (cst (.int 3))) (cmp gtB (varW 4) (cst (.int 1))))) (seqS (setS 11 (pureE (frN (bin modO (frN (bin divO (varW 7) (cst (.int 5)))) (varW 4)))))
  (seqS (setS 12 (pureE (frN (bin modO (frN (bin addO (frN (bin addO (varW 11) (cst (.int 1)))) (frN (bin modO (frN (bin divO (varW 7) (cst (.int 64)))) (frN (bin subO (varW 4) (cst (.int 1)))))))) (varW 4)))))
  (seqS (appS 5 (pureE (tupF [(cst (.str "c")), (frN (bin addO (varW 3) (varW 11))), (frN (bin addO (varW 3) (varW 12)))])))
  skipS))) (seqS (ifS (andB (cmp ltB (varW 6) (varW 3)) (cmp eqB (varW 10) (cst (.int 3)))) (seqS (appS 5 (pureE (tupF [(cst (.str "latch")), (tupF [(varD 8)]), (tupF [])])))
  skipS) (seqS (ifS (cmp ltB (varW 6) (varW 3)) (seqS (appS 5 (pureE (tupF [(cst (.str "atomic")), (tupF [(varD 8)])])))
  skipS) (seqS (ifS (orB (cmp eqB (varW 6) (varW 3)) (cmp eqB (varW 10) (cst (.int 0)))) (seqS (appS 5 (pureE (tupF [(cst (.str "and")), (varD 8)])))
  skipS) (seqS (ifS (cmp ltB (varW 10) (cst (.int 3))) (seqS (appS 5 (pureE (tupF [(cst (.str "or")), (tupF [(frN (bin addO (varW 3) (frN (bin modO (frN (bin divO (varW 7) (cst (.int 5)))) (frN (bin subO (varW 6) (varW 3)))))))])])))
  skipS) (seqS (appS 5 (pureE (tupF [(ixF (frN (lstN [(cst (.str "or")), (cst (.str "all"))])) (frN (bin modO (varW 10) (cst (.int 2))))), (frN (calN tupleC [(varW 9)]))])))
  skipS))
  skipS))
  skipS))
  skipS))
  skipS))
  skipS))
  skipS))))) ρ) Q := Iff.rfl

noncomputable def sem_law_qwired : FS := fnF 14 [false, false] (seqS (setS 2 (pureE (frN (callN sem_law_draws [(varD 1), (cst (.int 60))]))))
  (seqS (setS 3 (pureE (frN (calN lenO [(ixF (varW 0) (cst (.int 3)))]))))
  (seqS (setS 4 (pureE (frN (bin modO (ixF (varW 2) (cst (.int 0))) (cst (.int 9))))))
  (seqS (setS 5 (freshE (lstN [])))
  (seqS (forS (itR1 (frN (bin addO (varW 3) (varW 4)))) (setT 6) b_law_qwired_1)
  (seqS (retS (mvE 5))
  skipS))))))

noncomputable def b_law_qsource_1 : SF := (seqS (ifS (andB (cmp eqB (ixF (ixF (varW 0) (varW 1)) (cst (.int 0))) (cst (.str "or"))) (cmp eqB (frN (calN lenO [(ixF (ixF (varW 0) (varW 1)) (cst (.int 1)))])) (cst (.int 1)))) (seqS (setS 1 (pureE (ixF (ixF (ixF (varW 0) (varW 1)) (cst (.int 1))) (cst (.int 0)))))
  skipS) skipS)
  skipS)

@[simp] theorem wb_law_qsource_1 {ρ : Ev} {Q : Out × Ev → Prop} : wp (b_law_qsource_1 ρ) Q ↔ wp ((seqS (ifS (andB (cmp eqB (ixF (ixF (varW 0) (varW 1)) (cst (.int 0))) (cst (.str "or"))) (cmp eqB (frN (calN lenO [(ixF (ixF (varW 0) (varW 1)) (cst (.int 1)))])) (cst (.int 1)))) (seqS (setS 1 (pureE (ixF (ixF (ixF (varW 0) (varW 1)) (cst (.int 1))) (cst (.int 0)))))
  skipS) skipS)
  skipS) ρ) Q := Iff.rfl

noncomputable def sem_law_qsource : FS := fnF 3 [false, false] (seqS (forS (itR1 (frN (calN lenO [(varW 0)]))) (setT 2) b_law_qsource_1)
  (seqS (retS (pureE (varD 1)))
  skipS))

noncomputable def sem_law_qreads : FS := fnF 1 [false] (seqS (ifS (orB (cmp isO (varW 0) (cst .non)) (cmp inS (ixF (varW 0) (cst (.int 0))) (tupF [(cst (.str "and")), (cst (.str "atomic")), (cst (.str "latch"))]))) (seqS (retS (freshE (lstN [])))
  skipS) skipS)
  (seqS (ifS (cmp eqB (ixF (varW 0) (cst (.int 0))) (cst (.str "c"))) (seqS (retS (freshE (lstN [(ixF (varW 0) (cst (.int 1))), (ixF (varW 0) (cst (.int 2)))])))
  skipS) skipS)
  (seqS (retS (freshE (calN listC [(ixF (varW 0) (cst (.int 1)))])))
  skipS)))

noncomputable def b_law_qneeded_1 : SF := (seqS (setS 2 (pureE (frN (bin addO (varW 2) (frN (callN sem_law_qreads [(ixF (varW 0) (varW 3))]))))))
  skipS)

@[simp] theorem wb_law_qneeded_1 {ρ : Ev} {Q : Out × Ev → Prop} : wp (b_law_qneeded_1 ρ) Q ↔ wp ((seqS (setS 2 (pureE (frN (bin addO (varW 2) (frN (callN sem_law_qreads [(ixF (varW 0) (varW 3))]))))))
  skipS) ρ) Q := Iff.rfl

noncomputable def b_law_qneeded_2 : SF := (seqS (setS 3 (pureE (frN (bin subO (frN (bin subO (frN (calN lenO [(varW 0)])) (cst (.int 1)))) (varW 4)))))
  (seqS (ifS (andB (cmp geB (varW 3) (varW 1)) (cmp inS (varW 3) (varW 2))) (seqS (setS 2 (pureE (frN (bin addO (varW 2) (frN (callN sem_law_qreads [(ixF (varW 0) (varW 3))]))))))
  skipS) skipS)
  skipS))

@[simp] theorem wb_law_qneeded_2 {ρ : Ev} {Q : Out × Ev → Prop} : wp (b_law_qneeded_2 ρ) Q ↔ wp ((seqS (setS 3 (pureE (frN (bin subO (frN (bin subO (frN (calN lenO [(varW 0)])) (cst (.int 1)))) (varW 4)))))
  (seqS (ifS (andB (cmp geB (varW 3) (varW 1)) (cmp inS (varW 3) (varW 2))) (seqS (setS 2 (pureE (frN (bin addO (varW 2) (frN (callN sem_law_qreads [(ixF (varW 0) (varW 3))]))))))
  skipS) skipS)
  skipS)) ρ) Q := Iff.rfl

noncomputable def sem_law_qneeded : FS := fnF 5 [false, false] (seqS (setS 2 (pureE (frN (lstN []))))
  (seqS (forS (itR1 (varW 1)) (setT 3) b_law_qneeded_1)
  (seqS (forS (itR1 (frN (calN lenO [(varW 0)]))) (setT 4) b_law_qneeded_2)
  (seqS (retS (freshE (lcN (itR2 (varW 1) (frN (calN lenO [(varW 0)]))) [3] (setT 3) (cmp inS (varW 3) (varW 2)) (varD 3))))
  skipS))))

noncomputable def b_law_qtidied_1 : SF := (seqS (ifS (cmp ninS (frN (callN sem_law_qsource [(varD 0), (varD 5)])) (varW 4)) (seqS (appS 4 (pureE (frN (callN sem_law_qsource [(varD 0), (varD 5)]))))
  skipS) skipS)
  skipS)

@[simp] theorem wb_law_qtidied_1 {ρ : Ev} {Q : Out × Ev → Prop} : wp (b_law_qtidied_1 ρ) Q ↔ wp ((seqS (ifS (cmp ninS (frN (callN sem_law_qsource [(varD 0), (varD 5)])) (varW 4)) (seqS (appS 4 (pureE (frN (callN sem_law_qsource [(varD 0), (varD 5)]))))
  skipS) skipS)
  skipS) ρ) Q := Iff.rfl

noncomputable def t_law_qtidied_1 : SF := (seqS (appS 2 (pureE (varD 3)))
  skipS)

theorem wt_law_qtidied_1 {ρ : Ev} {Q : Out × Ev → Prop} : wp (t_law_qtidied_1 ρ) Q ↔ wp ((seqS (appS 2 (pureE (varD 3)))
  skipS) ρ) Q := Iff.rfl

noncomputable def b_law_qtidied_2 : SF := (seqS (ifS (andB (cmp isNotO (varW 3) (cst .non)) (orB (cmp eqB (ixF (varW 3) (cst (.int 0))) (cst (.str "all"))) (andB (cmp eqB (ixF (varW 3) (cst (.int 0))) (cst (.str "or"))) (cmp gtB (frN (calN lenO [(ixF (varW 3) (cst (.int 1)))])) (cst (.int 1)))))) (seqS (setS 4 (freshE (lstN [])))
  (seqS (forS (itU (ixF (varW 3) (cst (.int 1)))) (setT 5) b_law_qtidied_1)
  (seqS (setS 3 (pureE (tupF [(ixF (varW 3) (cst (.int 0))), (frN (calN tupleC [(frN (calN sortC [(varW 4)]))]))])))
  skipS))) (seqS (ifS (andB (cmp isNotO (varW 3) (cst .non)) (cmp eqB (ixF (varW 3) (cst (.int 0))) (cst (.str "c")))) (seqS (setS 6 (pureE (tupF [(frN (callN sem_law_qsource [(varD 0), (ixF (varW 3) (cst (.int 1)))])), (frN (callN sem_law_qsource [(varD 0), (ixF (varW 3) (cst (.int 2)))]))])))
  (seqS (ifS (cmp neB (ixF (varW 6) (cst (.int 0))) (ixF (varW 6) (cst (.int 1)))) (seqS (setS 3 (pureE (tupF [(cst (.str "c")), (ixF (varW 6) (cst (.int 0))), (ixF (varW 6) (cst (.int 1)))])))
  skipS) skipS)
  skipS)) skipS)
  skipS))
  t_law_qtidied_1)

@[simp] theorem wb_law_qtidied_2 {ρ : Ev} {Q : Out × Ev → Prop} : wp (b_law_qtidied_2 ρ) Q ↔ wp ((seqS (ifS (andB (cmp isNotO (varW 3) (cst .non)) (orB (cmp eqB (ixF (varW 3) (cst (.int 0))) (cst (.str "all"))) (andB (cmp eqB (ixF (varW 3) (cst (.int 0))) (cst (.str "or"))) (cmp gtB (frN (calN lenO [(ixF (varW 3) (cst (.int 1)))])) (cst (.int 1)))))) (seqS (setS 4 (freshE (lstN [])))
  (seqS (forS (itU (ixF (varW 3) (cst (.int 1)))) (setT 5) b_law_qtidied_1)
  (seqS (setS 3 (pureE (tupF [(ixF (varW 3) (cst (.int 0))), (frN (calN tupleC [(frN (calN sortC [(varW 4)]))]))])))
  skipS))) (seqS (ifS (andB (cmp isNotO (varW 3) (cst .non)) (cmp eqB (ixF (varW 3) (cst (.int 0))) (cst (.str "c")))) (seqS (setS 6 (pureE (tupF [(frN (callN sem_law_qsource [(varD 0), (ixF (varW 3) (cst (.int 1)))])), (frN (callN sem_law_qsource [(varD 0), (ixF (varW 3) (cst (.int 2)))]))])))
  (seqS (ifS (cmp neB (ixF (varW 6) (cst (.int 0))) (ixF (varW 6) (cst (.int 1)))) (seqS (setS 3 (pureE (tupF [(cst (.str "c")), (ixF (varW 6) (cst (.int 0))), (ixF (varW 6) (cst (.int 1)))])))
  skipS) skipS)
  skipS)) skipS)
  skipS))
  t_law_qtidied_1) ρ) Q := Iff.rfl

noncomputable def t_law_qtidied_2 : SF := (seqS (appS 8 (pureE (varD 3)))
  skipS)

theorem wt_law_qtidied_2 {ρ : Ev} {Q : Out × Ev → Prop} : wp (t_law_qtidied_2 ρ) Q ↔ wp ((seqS (appS 8 (pureE (varD 3)))
  skipS) ρ) Q := Iff.rfl

noncomputable def b_law_qtidied_3 : SF := (seqS (setS 3 (pureE (ixF (varW 2) (varW 5))))
  (seqS (ifS (andB (cmp isNotO (varW 3) (cst .non)) (cmp eqB (ixF (varW 3) (cst (.int 0))) (cst (.str "c")))) (seqS (setS 3 (pureE (tupF [(cst (.str "c")), (indexF (varW 7) (ixF (varW 3) (cst (.int 1)))), (indexF (varW 7) (ixF (varW 3) (cst (.int 2))))])))
  skipS) (seqS (ifS (andB (cmp isNotO (varW 3) (cst .non)) (orB (cmp eqB (ixF (varW 3) (cst (.int 0))) (cst (.str "or"))) (cmp eqB (ixF (varW 3) (cst (.int 0))) (cst (.str "all"))))) (seqS (setS 3 (pureE (tupF [(ixF (varW 3) (cst (.int 0))), (frN (calN tupleC [(frN (lcN (itU (ixF (varW 3) (cst (.int 1)))) [9] (setT 9) yesB (indexF (varW 7) (varW 9))))]))])))
  skipS) skipS)
  skipS))
  t_law_qtidied_2))

@[simp] theorem wb_law_qtidied_3 {ρ : Ev} {Q : Out × Ev → Prop} : wp (b_law_qtidied_3 ρ) Q ↔ wp ((seqS (setS 3 (pureE (ixF (varW 2) (varW 5))))
  (seqS (ifS (andB (cmp isNotO (varW 3) (cst .non)) (cmp eqB (ixF (varW 3) (cst (.int 0))) (cst (.str "c")))) (seqS (setS 3 (pureE (tupF [(cst (.str "c")), (indexF (varW 7) (ixF (varW 3) (cst (.int 1)))), (indexF (varW 7) (ixF (varW 3) (cst (.int 2))))])))
  skipS) (seqS (ifS (andB (cmp isNotO (varW 3) (cst .non)) (orB (cmp eqB (ixF (varW 3) (cst (.int 0))) (cst (.str "or"))) (cmp eqB (ixF (varW 3) (cst (.int 0))) (cst (.str "all"))))) (seqS (setS 3 (pureE (tupF [(ixF (varW 3) (cst (.int 0))), (frN (calN tupleC [(frN (lcN (itU (ixF (varW 3) (cst (.int 1)))) [9] (setT 9) yesB (indexF (varW 7) (varW 9))))]))])))
  skipS) skipS)
  skipS))
  t_law_qtidied_2)) ρ) Q := Iff.rfl

noncomputable def sem_law_qtidied : FS := fnF 10 [false, false] (seqS (setS 2 (freshE (lstN [])))
  (seqS (forS (itU (varD 0)) (setT 3) b_law_qtidied_2)
  (seqS (frzS 2 (setS 7 (pureE (frN (bin addO (frN (listR (cst (.int 0)) (varW 1))) (frN (callN sem_law_qneeded [(varD 2), (varD 1)])))))))
  (seqS (setS 8 (freshE (lstN [])))
  (seqS (forS (itU (varD 7)) (setT 5) b_law_qtidied_3)
  (seqS (retS (mvE 8))
  skipS))))))

noncomputable def b_law_1 : SF := (seqS (ifS (notB (tru (frN (callN sem_law_is_number [(frN (callN sem_source [(varD 5), (varD 6)])), (frN (callN sem_law_qsource [(varD 3), (varD 6)]))])))) (seqS (retS (pureE (cst (.bl false))))
  skipS) skipS)
  skipS)

@[simp] theorem wb_law_1 {ρ : Ev} {Q : Out × Ev → Prop} : wp (b_law_1 ρ) Q ↔ wp ((seqS (ifS (notB (tru (frN (callN sem_law_is_number [(frN (callN sem_source [(varD 5), (varD 6)])), (frN (callN sem_law_qsource [(varD 3), (varD 6)]))])))) (seqS (retS (pureE (cst (.bl false))))
  skipS) skipS)
  skipS) ρ) Q := Iff.rfl

noncomputable def b_law_2 : SF := (seqS (setS 8 (freshE (callN sem_needed [(varD 5)])))
  (seqS (ifS (notB (tru (callS sem_law_is_list [(varV 8), (frN (callN sem_law_qneeded [(varD 3), (varD 4)]))]))) (seqS (retS (pureE (cst (.bl false))))
  skipS) skipS)
  (seqS (appS 8 (pureE (cst (.int 0))))
  skipS)))

@[simp] theorem wb_law_2 {ρ : Ev} {Q : Out × Ev → Prop} : wp (b_law_2 ρ) Q ↔ wp ((seqS (setS 8 (freshE (callN sem_needed [(varD 5)])))
  (seqS (ifS (notB (tru (callS sem_law_is_list [(varV 8), (frN (callN sem_law_qneeded [(varD 3), (varD 4)]))]))) (seqS (retS (pureE (cst (.bl false))))
  skipS) skipS)
  (seqS (appS 8 (pureE (cst (.int 0))))
  skipS))) ρ) Q := Iff.rfl

noncomputable def b_law_3 : SF := (seqS (setS 2 (pureE (frN (callN sem_law_world [(frN (callN sem_law_cell [(varD 0), (frN (bin mulO (cst (.int 2)) (varW 1)))]))]))))
  (seqS (setS 3 (pureE (frN (callN sem_law_qwired [(varD 2), (frN (callN sem_law_cell [(varD 0), (frN (bin addO (frN (bin mulO (cst (.int 2)) (varW 1))) (cst (.int 1))))]))]))))
  (seqS (setS 4 (pureE (frN (calN lenO [(ixF (varW 2) (cst (.int 3)))]))))
  (seqS (setS 5 (pureE (frN (callN sem_law_netlist [(varD 2), (varD 3)]))))
  (seqS (forS (itR2 (varW 4) (frN (calN lenO [(varW 3)]))) (setT 6) b_law_1)
  (seqS (forS (itR1 (cst (.int 2))) (setT 7) b_law_2)
  (seqS (ifS (notB (tru (frN (callN sem_law_qsame_netlist [(frN (callN sem_tidied [(varD 5)])), (ixF (varW 2) (cst (.int 3))), (ixF (varW 2) (cst (.int 5))), (frN (callN sem_law_qtidied [(varD 3), (varD 4)]))])))) (seqS (retS (pureE (cst (.bl false))))
  skipS) skipS)
  (seqS (ifS (notB (tru (frN (callN sem_law_qsame_netlist [(varD 5), (ixF (varW 2) (cst (.int 3))), (ixF (varW 2) (cst (.int 5))), (varD 3)])))) (seqS (retS (pureE (cst (.bl false))))
  skipS) skipS)
  skipS))))))))

@[simp] theorem wb_law_3 {ρ : Ev} {Q : Out × Ev → Prop} : wp (b_law_3 ρ) Q ↔ wp ((seqS (setS 2 (pureE (frN (callN sem_law_world [(frN (callN sem_law_cell [(varD 0), (frN (bin mulO (cst (.int 2)) (varW 1)))]))]))))
  (seqS (setS 3 (pureE (frN (callN sem_law_qwired [(varD 2), (frN (callN sem_law_cell [(varD 0), (frN (bin addO (frN (bin mulO (cst (.int 2)) (varW 1))) (cst (.int 1))))]))]))))
  (seqS (setS 4 (pureE (frN (calN lenO [(ixF (varW 2) (cst (.int 3)))]))))
  (seqS (setS 5 (pureE (frN (callN sem_law_netlist [(varD 2), (varD 3)]))))
  (seqS (forS (itR2 (varW 4) (frN (calN lenO [(varW 3)]))) (setT 6) b_law_1)
  (seqS (forS (itR1 (cst (.int 2))) (setT 7) b_law_2)
  (seqS (ifS (notB (tru (frN (callN sem_law_qsame_netlist [(frN (callN sem_tidied [(varD 5)])), (ixF (varW 2) (cst (.int 3))), (ixF (varW 2) (cst (.int 5))), (frN (callN sem_law_qtidied [(varD 3), (varD 4)]))])))) (seqS (retS (pureE (cst (.bl false))))
  skipS) skipS)
  (seqS (ifS (notB (tru (frN (callN sem_law_qsame_netlist [(varD 5), (ixF (varW 2) (cst (.int 3))), (ixF (varW 2) (cst (.int 5))), (varD 3)])))) (seqS (retS (pureE (cst (.bl false))))
  skipS) skipS)
  skipS)))))))) ρ) Q := Iff.rfl

noncomputable def sem_law : FS := fnF 9 [false] (seqS (forS (itR1 (cst (.int 2))) (setT 1) b_law_3)
  (seqS (retS (pureE (cst (.bl true))))
  skipS))
abbrev nm_is_name : List Str := ["name", "letter"]
theorem sc_is_name : FnScope nm_is_name ["name"] (defScope s_is_name) := ⟨rfl, rfl, rfl, by decide +kernel, rfl, by decide +kernel, by decide +kernel⟩

theorem ok_is_name {P : Program} {w : World} {K : PySem.W.Frag} {mg : Str → Option Value} {base : Heap} (T : Facts K mg base) : QFn P w K mg base "is_name" 2 1 sem_is_name :=
  qfnQ (N := nm_is_name) (π := [false]) T.f_is_name sc_is_name rfl fun f cdv A outer s H E hcd hmf hr => by
  have e := code_is hmf T.g_is_name hcd
  subst e
  exact (qss_cons (qs_if (qt_w (qtw_or (qt_cmp u_lt (QD.toW (QN.toD (qn_callB u_len rfl T.b_len bt_len (qws_cons (qw_var (i := 0)) qws_nil)))) (QD.toW qd_int)) (qtw_or (qt_cmp u_gt (QD.toW (QN.toD (qn_callB u_len rfl T.b_len bt_len (qws_cons (qw_var (i := 0)) qws_nil)))) (QD.toW (qd_gint rfl T.k_LONGEST_NAME))) (qtw_or1 (qt_cmp u_nin (QD.toW (qd_ixU (qw_var (i := 0)) (QD.toW qd_int))) (QD.toW (qd_gstr rfl T.k_LETTERS))))))) (qss_cons (qs_ret (QD.toE qd_bl))
  qss_nil) qss_nil)
  (qss_cons (qs_ret (QD.toE (qd_allT (f := ("is_name", none)) (by decide) rfl hr rfl T.b_all (T.tb ("is_name", none) (by decide)) rfl (genS_of rfl rfl (by decide +kernel) rfl rfl) (qw_var (i := 0)) (elt_or (elt_inG rfl rfl rfl T.k_LETTERS) (elt_inG rfl rfl rfl T.k_DIGITS)))))
  qss_nil))

abbrev nm_is_code : List Str := ["text", "width", "value"]
theorem sc_is_code : FnScope nm_is_code ["text", "width"] (defScope s_is_code) := ⟨rfl, rfl, rfl, by decide +kernel, rfl, by decide +kernel, by decide +kernel⟩

theorem ok_is_code {P : Program} {w : World} {K : PySem.W.Frag} {mg : Str → Option Value} {base : Heap} (T : Facts K mg base) : QFn P w K mg base "is_code" 2 2 sem_is_code :=
  qfnQ (N := nm_is_code) (π := [false, false]) T.f_is_code sc_is_code rfl fun f cdv A outer s H E hcd hmf hr => by
  have e := code_is hmf T.g_is_code hcd
  subst e
  exact (qss_cons (qs_ret (QD.toE (qd_and (qd_cmp (u_eq hr.units) (QD.toW (QN.toD (qn_callB u_len rfl T.b_len bt_len (qws_cons (qw_var (i := 0)) qws_nil)))) (qw_var (i := 1))) (qd_one (QD.toB (qd_allT (f := ("is_code", none)) (by decide) rfl hr rfl T.b_all (T.tb ("is_code", none) (by decide)) rfl (genS_of rfl rfl (by decide +kernel) rfl rfl) (qw_var (i := 0)) (elt_inC rfl rfl)))))))
  qss_nil)

abbrev nm_are_signals : List Str := ["signals", "names", "name", "kind"]
theorem sc_are_signals : FnScope nm_are_signals ["signals"] (defScope s_are_signals) := ⟨rfl, rfl, rfl, by decide +kernel, rfl, by decide +kernel, by decide +kernel⟩

theorem ok_are_signals {P : Program} {w : World} {K : PySem.W.Frag} {mg : Str → Option Value} {base : Heap} (T : Facts K mg base) : QFn P w K mg base "are_signals" 3 1 sem_are_signals :=
  qfnD (N := nm_are_signals) (π := [false]) T.f_are_signals sc_are_signals rfl fun f cdv A outer s H E hr =>
  (qss_cons (qs_if (qt_cmp u_gt (QD.toW (QN.toD (qn_callB u_len rfl T.b_len bt_len (qws_cons (qw_var (i := 0)) qws_nil)))) (QD.toW (qd_gint rfl T.k_MOST_SIGNALS))) (qss_cons (qs_ret (QD.toE qd_bl))
  qss_nil) qss_nil)
  (qss_cons (qs_set (i := 1) sc_are_signals.nd (QN.toE (qn_lst qds_nil)))
  (qss_cons (qs_for PassesOwn.never rfl (qi_u (qd_var (i := 0))) (qg_un rfl (qgs_cons (qg_name (i := 2) sc_are_signals.nd) (qgs_cons (qg_name (i := 3) sc_are_signals.nd) qgs_nil))) (qss_cons (qs_if (qt_w (qtw_or (qt_not (qt_tru (QD.toW (QN.toD (qn_call (ok_is_name (P := P) (w := w) (base := base) T) (hr.mono (by decide)) rfl rfl (qds_cons (qd_var (i := 2)) qds_nil)))))) (qtw_or (qt_cmp u_in (qw_var (i := 2)) (qw_var (i := 1))) (qtw_or1 (qt_cmp u_nin (qw_var (i := 3)) (QD.toW (qd_gtup (ns := ["input", "output", "inner"]) rfl T.k_KINDS))))))) (qss_cons (qs_ret (QD.toE qd_bl))
  qss_nil) qss_nil)
  (qss_cons (qs_append (i := 1) (QD.toE (qd_var (i := 2))))
  qss_nil)))
  (qss_cons (qs_ret (QD.toE qd_bl))
  qss_nil))))

abbrev nm_is_cube : List Str := ["cube", "width", "literal"]
theorem sc_is_cube : FnScope nm_is_cube ["cube", "width"] (defScope s_is_cube) := ⟨rfl, rfl, rfl, by decide +kernel, rfl, by decide +kernel, by decide +kernel⟩

theorem ok_is_cube {P : Program} {w : World} {K : PySem.W.Frag} {mg : Str → Option Value} {base : Heap} (T : Facts K mg base) : QFn P w K mg base "is_cube" 2 2 sem_is_cube :=
  qfnQ (N := nm_is_cube) (π := [false, false]) T.f_is_cube sc_is_cube rfl fun f cdv A outer s H E hcd hmf hr => by
  have e := code_is hmf T.g_is_cube hcd
  subst e
  exact (qss_cons (qs_ret (QD.toE (qd_and (qd_cmp (u_eq hr.units) (QD.toW (QN.toD (qn_callB u_len rfl T.b_len bt_len (qws_cons (qw_var (i := 0)) qws_nil)))) (qw_var (i := 1))) (qd_one (QD.toB (qd_allT (f := ("is_cube", none)) (by decide) rfl hr rfl T.b_all (T.tb ("is_cube", none) (by decide)) rfl (genS_of rfl rfl (by decide +kernel) rfl rfl) (qw_var (i := 0)) (elt_inC rfl rfl)))))))
  qss_nil)

abbrev nm_are_cubes : List Str := ["cubes", "width", "cube"]
theorem sc_are_cubes : FnScope nm_are_cubes ["cubes", "width"] (defScope s_are_cubes) := ⟨rfl, rfl, rfl, by decide +kernel, rfl, by decide +kernel, by decide +kernel⟩

theorem ok_are_cubes {P : Program} {w : World} {K : PySem.W.Frag} {mg : Str → Option Value} {base : Heap} (T : Facts K mg base) : QFn P w K mg base "are_cubes" 4 2 sem_are_cubes :=
  qfnQ (N := nm_are_cubes) (π := [false, false]) T.f_are_cubes sc_are_cubes rfl fun f cdv A outer s H E hcd hmf hr => by
  have e := code_is hmf T.g_are_cubes hcd
  subst e
  exact (qss_cons (qs_ret (QD.toE (qd_allG (f := ("are_cubes", none)) (k := 2) (by decide) rfl (hr.mono (by decide)) rfl T.b_all (T.tb ("are_cubes", none) (by decide)) rfl (show GSc (defScope s_are_cubes) nm_are_cubes _ _ from gsc_by rfl rfl (by decide +kernel)) (qiw_u (qw_var (i := 0))) (fun _ _ _ _ _ _ _ _ => (qg_name (i := 2) sc_are_cubes.nd)) (fun _ _ _ _ _ _ _ _ hr1 => (QD.toB (QN.toD (qn_call (ok_is_cube (P := P) (w := w) (base := base) T) (hr1.mono (by decide)) rfl rfl (qds_cons (qd_var (i := 2)) (qds_cons (qd_var (i := 1)) qds_nil)))))))))
  qss_nil)

abbrev nm_are_wires : List Str := ["wires", "low", "high", "last", "wire"]
theorem sc_are_wires : FnScope nm_are_wires ["wires", "low", "high"] (defScope s_are_wires) := ⟨rfl, rfl, rfl, by decide +kernel, rfl, by decide +kernel, by decide +kernel⟩

theorem ok_are_wires {P : Program} {w : World} {K : PySem.W.Frag} {mg : Str → Option Value} {base : Heap} (T : Facts K mg base) : QFn P w K mg base "are_wires" 1 3 sem_are_wires :=
  qfnD (N := nm_are_wires) (π := [false, false, false]) T.f_are_wires sc_are_wires rfl fun f cdv A outer s H E hr =>
  (qss_cons (qs_set (i := 3) sc_are_wires.nd (QD.toE (QN.toD (qn_bin u_sub (qw_var (i := 1)) (QD.toW qd_int)))))
  (qss_cons (qs_for PassesOwn.never rfl (qi_u (qd_var (i := 0))) (qg_name (i := 4) sc_are_wires.nd) (qss_cons (qs_if (qt_w (qtw_or (qt_cmp u_le (qw_var (i := 4)) (qw_var (i := 3))) (qtw_or1 (qt_cmp u_ge (qw_var (i := 4)) (qw_var (i := 2)))))) (qss_cons (qs_ret (QD.toE qd_bl))
  qss_nil) qss_nil)
  (qss_cons (qs_set (i := 3) sc_are_wires.nd (QD.toE (qd_var (i := 4))))
  qss_nil)))
  (qss_cons (qs_ret (QD.toE qd_bl))
  qss_nil)))

abbrev nm_fits_inner : List Str := ["gate", "wire", "width"]
theorem sc_fits_inner : FnScope nm_fits_inner ["gate", "wire", "width"] (defScope s_fits_inner) := ⟨rfl, rfl, rfl, by decide +kernel, rfl, by decide +kernel, by decide +kernel⟩

theorem ok_fits_inner {P : Program} {w : World} {K : PySem.W.Frag} {mg : Str → Option Value} {base : Heap} (T : Facts K mg base) : QFn P w K mg base "fits_inner" 3 3 sem_fits_inner :=
  qfnD (N := nm_fits_inner) (π := [false, false, false]) T.f_fits_inner sc_fits_inner rfl fun f cdv A outer s H E hr =>
  (qss_cons (qs_if (qt_cmp (u_eq hr.units) (QD.toW (qd_ixU (qw_var (i := 0)) (QD.toW qd_int))) (QD.toW qd_str)) (qss_cons (qs_ret (QN.toE (qn_call (ok_is_cube (P := P) (w := w) (base := base) T) (hr.mono (by decide)) rfl rfl (qds_cons (qd_ixU (qw_var (i := 0)) (QD.toW qd_int)) (qds_cons (qd_var (i := 2)) qds_nil)))))
  qss_nil) qss_nil)
  (qss_cons (qs_if (qt_w (qtw_or (qt_cmp (u_eq hr.units) (QD.toW (qd_ixU (qw_var (i := 0)) (QD.toW qd_int))) (QD.toW qd_str)) (qtw_or1 (qt_cmp (u_eq hr.units) (QD.toW (qd_ixU (qw_var (i := 0)) (QD.toW qd_int))) (QD.toW qd_str))))) (qss_cons (qs_ret (QN.toE (qn_call (ok_are_wires (P := P) (w := w) (base := base) T) (hr.mono (by decide)) rfl rfl (qds_cons (qd_ixU (qw_var (i := 0)) (QD.toW qd_int)) (qds_cons (qd_var (i := 2)) (qds_cons (qd_var (i := 1)) qds_nil))))))
  qss_nil) qss_nil)
  (qss_cons (qs_ret (QD.toE qd_bl))
  qss_nil)))

abbrev nm_fits_signal : List Str := ["gate", "width", "count", "first", "second"]
theorem sc_fits_signal : FnScope nm_fits_signal ["gate", "width", "count"] (defScope s_fits_signal) := ⟨rfl, rfl, rfl, by decide +kernel, rfl, by decide +kernel, by decide +kernel⟩

theorem ok_fits_signal {P : Program} {w : World} {K : PySem.W.Frag} {mg : Str → Option Value} {base : Heap} (T : Facts K mg base) : QFn P w K mg base "fits_signal" 5 3 sem_fits_signal :=
  qfnD (N := nm_fits_signal) (π := [false, false, false]) T.f_fits_signal sc_fits_signal rfl fun f cdv A outer s H E hr =>
  (qss_cons (qs_if (qt_cmp (u_eq hr.units) (QD.toW (qd_ixU (qw_var (i := 0)) (QD.toW qd_int))) (QD.toW qd_str)) (qss_cons (qs_par (i := 3) (j := 4) sc_fits_signal.nd (qds_cons (qd_ixU (qw_var (i := 0)) (QD.toW qd_int)) (qds_cons (qd_ixU (qw_var (i := 0)) (QD.toW qd_int)) qds_nil)))
  (qss_cons (qs_ret (QD.toE (qd_and (qd_cmp (u_ne hr.units) (qw_var (i := 3)) (qw_var (i := 4))) (qd_and (qd_chain u_le u_lt (qw_var (i := 1)) (qw_var (i := 3)) (qw_var (i := 2))) (qd_one (qd_chain u_le u_lt (qw_var (i := 1)) (qw_var (i := 4)) (qw_var (i := 2))))))))
  qss_nil)) qss_nil)
  (qss_cons (qs_if (qt_cmp (u_eq hr.units) (QD.toW (qd_ixU (qw_var (i := 0)) (QD.toW qd_int))) (QD.toW qd_str)) (qss_cons (qs_ret (QN.toE (qn_call (ok_are_cubes (P := P) (w := w) (base := base) T) (hr.mono (by decide)) rfl rfl (qds_cons (qd_ixU (qw_var (i := 0)) (QD.toW qd_int)) (qds_cons (qd_var (i := 1)) qds_nil)))))
  qss_nil) qss_nil)
  (qss_cons (qs_if (qt_cmp (u_eq hr.units) (QD.toW (qd_ixU (qw_var (i := 0)) (QD.toW qd_int))) (QD.toW qd_str)) (qss_cons (qs_ret (QD.toE (qd_and (QD.toB (QN.toD (qn_call (ok_are_cubes (P := P) (w := w) (base := base) T) (hr.mono (by decide)) rfl rfl (qds_cons (qd_ixU (qw_var (i := 0)) (QD.toW qd_int)) (qds_cons (qd_var (i := 1)) qds_nil))))) (qd_one (QD.toB (QN.toD (qn_call (ok_are_cubes (P := P) (w := w) (base := base) T) (hr.mono (by decide)) rfl rfl (qds_cons (qd_ixU (qw_var (i := 0)) (QD.toW qd_int)) (qds_cons (qd_var (i := 1)) qds_nil)))))))))
  qss_nil) qss_nil)
  (qss_cons (qs_ret (QD.toE qd_bl))
  qss_nil))))

abbrev nm_Netlist_init : List Str := ["self", "signals", "start", "gates", "width", "wire", "gate", "name", "kind"]
theorem sc_Netlist_init : FnScope nm_Netlist_init ["self", "signals", "start", "gates"] (defScope s_Netlist_init) := ⟨rfl, rfl, rfl, by decide +kernel, rfl, by decide +kernel, by decide +kernel⟩

theorem ok_Netlist_init {P : Program} {w : World} {K : PySem.W.Frag} {mg : Str → Option Value} {base : Heap} (T : Facts K mg base) : QMk P w K mg base "Netlist" 6 4 sem_Netlist_init :=
  qmkM (N := nm_Netlist_init) (π := [true, false, false, false]) T.f_Netlist_init sc_Netlist_init rfl fun f cdv A outer s H E hr =>
  (qss_cons (qs_set (i := 4) sc_Netlist_init.nd (QD.toE (QN.toD (qn_callB u_len rfl T.b_len bt_len (qws_cons (qw_var (i := 1)) qws_nil)))))
  (qss_cons (qs_if (qt_w (qtw_or (qt_not (qt_tru (QD.toW (QN.toD (qn_call (ok_are_signals (P := P) (w := w) (base := base) T) (hr.mono (by decide)) rfl rfl (qds_cons (qd_var (i := 1)) qds_nil)))))) (qtw_or1 (qt_not (qt_tru (QD.toW (QN.toD (qn_call (ok_is_code (P := P) (w := w) (base := base) T) (hr.mono (by decide)) rfl rfl (qds_cons (qd_var (i := 2)) (qds_cons (qd_var (i := 4)) qds_nil)))))))))) (qss_cons qs_dead
  qss_nil) qss_nil)
  (qss_cons (qs_if (qt_w (qtw_or (qt_cmp u_lt (QD.toW (QN.toD (qn_callB u_len rfl T.b_len bt_len (qws_cons (qw_var (i := 3)) qws_nil)))) (qw_var (i := 4))) (qtw_or (qt_cmp u_gt (QD.toW (QN.toD (qn_callB u_len rfl T.b_len bt_len (qws_cons (qw_var (i := 3)) qws_nil)))) (QD.toW (qd_gint rfl T.k_MOST_WIRES))) (qtw_or1 (qt_w (qtw_and (qt_cmp (u_eq hr.units) (qw_var (i := 4)) (QD.toW qd_int)) (qtw_and1 (qt_cmp u_gt (QD.toW (QN.toD (qn_callB u_len rfl T.b_len bt_len (qws_cons (qw_var (i := 3)) qws_nil)))) (QD.toW qd_int))))))))) (qss_cons qs_dead
  qss_nil) qss_nil)
  (qss_cons (qs_for PassesOwn.never rfl (qi_rng1 rfl T.b_range (QD.toW (QN.toD (qn_callB u_len rfl T.b_len bt_len (qws_cons (qw_var (i := 3)) qws_nil))))) (qg_name (i := 5) sc_Netlist_init.nd) (qss_cons (qs_set (i := 6) sc_Netlist_init.nd (QD.toE (qd_ixU (qw_var (i := 3)) (qw_var (i := 5)))))
  (qss_cons (qs_if (qt_w (qtw_and (qt_cmp u_lt (qw_var (i := 5)) (qw_var (i := 4))) (qtw_and1 (qt_cmp (u_eq hr.units) (QD.toW (qd_ixU (QD.toW (qd_ixU (qw_var (i := 1)) (qw_var (i := 5)))) (QD.toW qd_int))) (QD.toW qd_str))))) (qss_cons (qs_if (qt_cmp u_isnot (qw_var (i := 6)) (QD.toW qd_non)) (qss_cons qs_dead
  qss_nil) qss_nil)
  qss_nil) (qss_cons (qs_if (qt_cmp u_is (qw_var (i := 6)) (QD.toW qd_non)) (qss_cons qs_dead
  qss_nil) (qss_cons (qs_if (qt_w (qtw_and (qt_cmp u_lt (qw_var (i := 5)) (qw_var (i := 4))) (qtw_and1 (qt_not (qt_tru (QD.toW (QN.toD (qn_call (ok_fits_signal (P := P) (w := w) (base := base) T) (hr.mono (by decide)) rfl rfl (qds_cons (qd_var (i := 6)) (qds_cons (qd_var (i := 4)) (qds_cons (QN.toD (qn_callB u_len rfl T.b_len bt_len (qws_cons (qw_var (i := 3)) qws_nil))) qds_nil))))))))))) (qss_cons qs_dead
  qss_nil) (qss_cons (qs_if (qt_w (qtw_and (qt_cmp u_ge (qw_var (i := 5)) (qw_var (i := 4))) (qtw_and1 (qt_not (qt_tru (QD.toW (QN.toD (qn_call (ok_fits_inner (P := P) (w := w) (base := base) T) (hr.mono (by decide)) rfl rfl (qds_cons (qd_var (i := 6)) (qds_cons (qd_var (i := 5)) (qds_cons (qd_var (i := 4)) qds_nil))))))))))) (qss_cons qs_dead
  qss_nil) qss_nil)
  qss_nil))
  qss_nil))
  qss_nil))
  qss_nil)))
  (qss_cons (qs_setA (i := 0) (ats_cons T.a_Netlist_signals ats_nil) (QD.toE (QN.toD (qn_callTy u_tuple rfl T.b_tuple bt_tuple (qws_cons (QD.toW (QN.toD (qn_lc rfl sc_Netlist_init.nd (blkOk_by (N := nm_Netlist_init) (sc := defScope s_Netlist_init) (own := [("name", 7), ("kind", 8)]) (by decide +kernel)) (qiw_u (qw_var (i := 1))) (fun _ _ _ _ _ => (qg_un rfl (qgs_cons (qg_name (i := 7) sc_Netlist_init.nd) (qgs_cons (qg_name (i := 8) sc_Netlist_init.nd) qgs_nil)))) (fun _ _ _ _ _ => qts_nil) (fun _ _ _ _ _ => (qd_tup (qds_cons (qd_var (i := 7)) (qds_cons (qd_var (i := 8)) qds_nil))))))) qws_nil)))))
  (qss_cons (qs_setA (i := 0) (ats_cons T.a_Netlist_start ats_nil) (QD.toE (qd_var (i := 2))))
  (qss_cons (qs_setA (i := 0) (ats_cons T.a_Netlist_gates ats_nil) (QD.toE (QN.toD (qn_callTy u_tuple rfl T.b_tuple bt_tuple (qws_cons (qw_var (i := 3)) qws_nil)))))
  qss_nil)))))))

abbrev nm_Netlist_signal_count : List Str := ["self"]
theorem sc_Netlist_signal_count : FnScope nm_Netlist_signal_count ["self"] (defScope s_Netlist_signal_count) := ⟨rfl, rfl, rfl, by decide +kernel, rfl, by decide +kernel, by decide +kernel⟩

theorem ok_Netlist_signal_count {P : Program} {w : World} {K : PySem.W.Frag} {mg : Str → Option Value} {base : Heap} (T : Facts K mg base) : QPr P w K mg base "Netlist" "signal_count" 1 sem_Netlist_signal_count :=
  qprM (N := nm_Netlist_signal_count) (π := [false]) T.f_Netlist_signal_count sc_Netlist_signal_count rfl fun f cdv A outer s H E hr =>
  (qss_cons (qs_ret (QN.toE (qn_callB u_len rfl T.b_len bt_len (qws_cons (QD.toW (qd_attr (ats_cons T.a_Netlist_signals ats_nil) (qw_var (i := 0)))) qws_nil))))
  qss_nil)

abbrev nm_source : List Str := ["netlist", "wire", "gate"]
theorem sc_source : FnScope nm_source ["netlist", "wire"] (defScope s_source) := ⟨rfl, rfl, rfl, by decide +kernel, rfl, by decide +kernel, by decide +kernel⟩

theorem ok_source {P : Program} {w : World} {K : PySem.W.Frag} {mg : Str → Option Value} {base : Heap} (T : Facts K mg base) : QFn P w K mg base "source" 1 2 sem_source :=
  qfnD (N := nm_source) (π := [false, false]) T.f_source sc_source rfl fun f cdv A outer s H E hr =>
  (qss_cons (qs_set (i := 2) sc_source.nd (QD.toE (qd_ixU (QD.toW (qd_attr (ats_cons T.a_Netlist_gates ats_nil) (qw_var (i := 0)))) (qw_var (i := 1)))))
  (qss_cons (qs_while PassesOwn.never (qt_w (qtw_and (qt_cmp (u_eq hr.units) (QD.toW (qd_ixU (qw_var (i := 2)) (QD.toW qd_int))) (QD.toW qd_str)) (qtw_and1 (qt_cmp (u_eq hr.units) (QD.toW (QN.toD (qn_callB u_len rfl T.b_len bt_len (qws_cons (QD.toW (qd_ixU (qw_var (i := 2)) (QD.toW qd_int))) qws_nil)))) (QD.toW qd_int))))) (qss_cons (qs_set (i := 1) sc_source.nd (QD.toE (qd_ixU (QD.toW (qd_ixU (qw_var (i := 2)) (QD.toW qd_int))) (QD.toW qd_int))))
  (qss_cons (qs_set (i := 2) sc_source.nd (QD.toE (qd_ixU (QD.toW (qd_attr (ats_cons T.a_Netlist_gates ats_nil) (qw_var (i := 0)))) (qw_var (i := 1)))))
  qss_nil)))
  (qss_cons (qs_ret (QD.toE (qd_var (i := 1))))
  qss_nil)))

abbrev nm_inner_inputs : List Str := ["gate"]
theorem sc_inner_inputs : FnScope nm_inner_inputs ["gate"] (defScope s_inner_inputs) := ⟨rfl, rfl, rfl, by decide +kernel, rfl, by decide +kernel, by decide +kernel⟩

theorem ok_inner_inputs {P : Program} {w : World} {K : PySem.W.Frag} {mg : Str → Option Value} {base : Heap} (T : Facts K mg base) : QFn P w K mg base "inner_inputs" 1 1 sem_inner_inputs :=
  qfnD (N := nm_inner_inputs) (π := [false]) T.f_inner_inputs sc_inner_inputs rfl fun f cdv A outer s H E hr =>
  (qss_cons (qs_if (qt_cmp u_is (qw_var (i := 0)) (QD.toW qd_non)) (qss_cons (qs_ret (QD.toE (qd_tup qds_nil)))
  qss_nil) qss_nil)
  (qss_cons (qs_if (qt_w (qtw_or (qt_cmp (u_eq hr.units) (QD.toW (qd_ixU (qw_var (i := 0)) (QD.toW qd_int))) (QD.toW qd_str)) (qtw_or1 (qt_cmp (u_eq hr.units) (QD.toW (qd_ixU (qw_var (i := 0)) (QD.toW qd_int))) (QD.toW qd_str))))) (qss_cons (qs_ret (QD.toE (qd_ixU (qw_var (i := 0)) (QD.toW qd_int))))
  qss_nil) qss_nil)
  (qss_cons (qs_if (qt_cmp (u_eq hr.units) (QD.toW (qd_ixU (qw_var (i := 0)) (QD.toW qd_int))) (QD.toW qd_str)) (qss_cons (qs_ret (QD.toE (qd_tup (qds_cons (qd_ixU (qw_var (i := 0)) (QD.toW qd_int)) (qds_cons (qd_ixU (qw_var (i := 0)) (QD.toW qd_int)) qds_nil)))))
  qss_nil) qss_nil)
  (qss_cons (qs_ret (QD.toE (qd_tup qds_nil)))
  qss_nil))))

abbrev nm_needed_wires : List Str := ["gates", "width", "marked", "wire", "other", "gate"]
theorem sc_needed_wires : FnScope nm_needed_wires ["gates", "width"] (defScope s_needed_wires) := ⟨rfl, rfl, rfl, by decide +kernel, rfl, by decide +kernel, by decide +kernel⟩

theorem ok_needed_wires {P : Program} {w : World} {K : PySem.W.Frag} {mg : Str → Option Value} {base : Heap} (T : Facts K mg base) : QFn P w K mg base "needed_wires" 2 2 sem_needed_wires :=
  qfnD (N := nm_needed_wires) (π := [false, false]) T.f_needed_wires sc_needed_wires rfl fun f cdv A outer s H E hr =>
  (qss_cons (qs_set (i := 2) sc_needed_wires.nd (QN.toE (qn_lc rfl sc_needed_wires.nd (blkOk_by (N := nm_needed_wires) (sc := defScope s_needed_wires) (own := [("gate", 5)]) (by decide +kernel)) (qiw_u (qw_var (i := 0))) (fun _ _ _ _ _ => (qg_name (i := 5) sc_needed_wires.nd)) (fun _ _ _ _ _ => qts_nil) (fun _ _ _ _ _ => qd_bl))))
  (qss_cons (qs_for PassesOwn.never rfl (qi_rng1 rfl T.b_range (qw_var (i := 1))) (qg_name (i := 3) sc_needed_wires.nd) (qss_cons (qs_for PassesOwn.never rfl (qi_u (QN.toD (qn_call (ok_inner_inputs (P := P) (w := w) (base := base) T) (hr.mono (by decide)) rfl rfl (qds_cons (qd_ixU (qw_var (i := 0)) (qw_var (i := 3))) qds_nil)))) (qg_name (i := 4) sc_needed_wires.nd) (qss_cons (qs_store (i := 2) (QD.toE qd_bl) (qd_var (i := 4)))
  qss_nil))
  qss_nil))
  (qss_cons (qs_for PassesOwn.never rfl (qi_rng3 rfl T.b_range (QD.toW (QN.toD (qn_bin u_sub (QD.toW (QN.toD (qn_callB u_len rfl T.b_len bt_len (qws_cons (qw_var (i := 0)) qws_nil)))) (QD.toW qd_int)))) (QD.toW (QN.toD (qn_bin u_sub (qw_var (i := 1)) (QD.toW qd_int)))) (QD.toW (QN.toD (qn_neg (QD.toW qd_int))))) (qg_name (i := 3) sc_needed_wires.nd) (qss_cons (qs_if (qt_tru (QD.toW (qd_ixU (qw_var (i := 2)) (qw_var (i := 3))))) (qss_cons (qs_for PassesOwn.never rfl (qi_u (QN.toD (qn_call (ok_inner_inputs (P := P) (w := w) (base := base) T) (hr.mono (by decide)) rfl rfl (qds_cons (qd_ixU (qw_var (i := 0)) (qw_var (i := 3))) qds_nil)))) (qg_name (i := 4) sc_needed_wires.nd) (qss_cons (qs_store (i := 2) (QD.toE qd_bl) (qd_var (i := 4)))
  qss_nil))
  qss_nil) qss_nil)
  qss_nil))
  (qss_cons (qs_ret (QN.toE (qn_lc rfl sc_needed_wires.nd (blkOk_by (N := nm_needed_wires) (sc := defScope s_needed_wires) (own := [("wire", 3)]) (by decide +kernel)) (QI.w (qi_rng2 rfl T.b_range (qw_var (i := 1)) (QD.toW (QN.toD (qn_callB u_len rfl T.b_len bt_len (qws_cons (qw_var (i := 0)) qws_nil)))))) (fun _ _ _ _ _ => (qg_name (i := 3) sc_needed_wires.nd)) (fun _ _ _ _ _ => (qts_one (qt_tru (QD.toW (qd_ixU (qw_var (i := 2)) (qw_var (i := 3))))))) (fun _ _ _ _ _ => (qd_var (i := 3))))))
  qss_nil))))

abbrev nm_needed : List Str := ["netlist"]
theorem sc_needed : FnScope nm_needed ["netlist"] (defScope s_needed) := ⟨rfl, rfl, rfl, by decide +kernel, rfl, by decide +kernel, by decide +kernel⟩

theorem ok_needed {P : Program} {w : World} {K : PySem.W.Frag} {mg : Str → Option Value} {base : Heap} (T : Facts K mg base) : QFn P w K mg base "needed" 3 1 sem_needed :=
  qfnD (N := nm_needed) (π := [false]) T.f_needed sc_needed rfl fun f cdv A outer s H E hr =>
  (qss_cons (qs_ret (QN.toE (qn_call (ok_needed_wires (P := P) (w := w) (base := base) T) (hr.mono (by decide)) rfl rfl (qds_cons (qd_attr (ats_cons T.a_Netlist_gates ats_nil) (qw_var (i := 0))) (qds_cons (QN.toD (qn_prop (ok_Netlist_signal_count (P := P) (w := w) (base := base) T) (hr.mono (by decide)) (qd_var (i := 0)))) qds_nil)))))
  qss_nil)

abbrev nm_bypassed : List Str := ["netlist", "gate", "wires", "wire", "origin", "first", "second"]
theorem sc_bypassed : FnScope nm_bypassed ["netlist", "gate"] (defScope s_bypassed) := ⟨rfl, rfl, rfl, by decide +kernel, rfl, by decide +kernel, by decide +kernel⟩

theorem ok_bypassed {P : Program} {w : World} {K : PySem.W.Frag} {mg : Str → Option Value} {base : Heap} (T : Facts K mg base) : QFn P w K mg base "bypassed" 2 2 sem_bypassed :=
  qfnD (N := nm_bypassed) (π := [false, false]) T.f_bypassed sc_bypassed rfl fun f cdv A outer s H E hr =>
  (qss_cons (qs_if (qt_cmp u_is (qw_var (i := 1)) (QD.toW qd_non)) (qss_cons (qs_ret (QD.toE qd_non))
  qss_nil) qss_nil)
  (qss_cons (qs_if (qt_w (qtw_or (qt_w (qtw_and (qt_cmp (u_eq hr.units) (QD.toW (qd_ixU (qw_var (i := 1)) (QD.toW qd_int))) (QD.toW qd_str)) (qtw_and1 (qt_cmp u_gt (QD.toW (QN.toD (qn_callB u_len rfl T.b_len bt_len (qws_cons (QD.toW (qd_ixU (qw_var (i := 1)) (QD.toW qd_int))) qws_nil)))) (QD.toW qd_int))))) (qtw_or1 (qt_cmp (u_eq hr.units) (QD.toW (qd_ixU (qw_var (i := 1)) (QD.toW qd_int))) (QD.toW qd_str))))) (qss_cons (qs_set (i := 2) sc_bypassed.nd (QN.toE (qn_lst qds_nil)))
  (qss_cons (qs_for PassesOwn.never rfl (qi_u (qd_ixU (qw_var (i := 1)) (QD.toW qd_int))) (qg_name (i := 3) sc_bypassed.nd) (qss_cons (qs_set (i := 4) sc_bypassed.nd (QD.toE (QN.toD (qn_call (ok_source (P := P) (w := w) (base := base) T) (hr.mono (by decide)) rfl rfl (qds_cons (qd_var (i := 0)) (qds_cons (qd_var (i := 3)) qds_nil))))))
  (qss_cons (qs_if (qt_cmp u_nin (qw_var (i := 4)) (qw_var (i := 2))) (qss_cons (qs_append (i := 2) (QD.toE (qd_var (i := 4))))
  qss_nil) qss_nil)
  qss_nil)))
  (qss_cons (qs_ret (QD.toE (qd_tup (qds_cons (qd_ixU (qw_var (i := 1)) (QD.toW qd_int)) (qds_cons (QN.toD (qn_callTy u_tuple rfl T.b_tuple bt_tuple (qws_cons (QD.toW (QN.toD (qn_callB u_sorted rfl T.b_sorted bt_sorted (qws_cons (qw_var (i := 2)) qws_nil)))) qws_nil))) qds_nil)))))
  qss_nil))) qss_nil)
  (qss_cons (qs_if (qt_cmp (u_eq hr.units) (QD.toW (qd_ixU (qw_var (i := 1)) (QD.toW qd_int))) (QD.toW qd_str)) (qss_cons (qs_set (i := 5) sc_bypassed.nd (QD.toE (QN.toD (qn_call (ok_source (P := P) (w := w) (base := base) T) (hr.mono (by decide)) rfl rfl (qds_cons (qd_var (i := 0)) (qds_cons (qd_ixU (qw_var (i := 1)) (QD.toW qd_int)) qds_nil))))))
  (qss_cons (qs_set (i := 6) sc_bypassed.nd (QD.toE (QN.toD (qn_call (ok_source (P := P) (w := w) (base := base) T) (hr.mono (by decide)) rfl rfl (qds_cons (qd_var (i := 0)) (qds_cons (qd_ixU (qw_var (i := 1)) (QD.toW qd_int)) qds_nil))))))
  (qss_cons (qs_if (qt_cmp (u_ne hr.units) (qw_var (i := 5)) (qw_var (i := 6))) (qss_cons (qs_ret (QD.toE (qd_tup (qds_cons qd_str (qds_cons (qd_var (i := 5)) (qds_cons (qd_var (i := 6)) qds_nil))))))
  qss_nil) qss_nil)
  qss_nil))) qss_nil)
  (qss_cons (qs_ret (QD.toE (qd_var (i := 1))))
  qss_nil))))

abbrev nm_renumbered : List Str := ["gate", "numbers", "wire"]
theorem sc_renumbered : FnScope nm_renumbered ["gate", "numbers"] (defScope s_renumbered) := ⟨rfl, rfl, rfl, by decide +kernel, rfl, by decide +kernel, by decide +kernel⟩

theorem ok_renumbered {P : Program} {w : World} {K : PySem.W.Frag} {mg : Str → Option Value} {base : Heap} (T : Facts K mg base) : QFn P w K mg base "renumbered" 1 2 sem_renumbered :=
  qfnD (N := nm_renumbered) (π := [false, false]) T.f_renumbered sc_renumbered rfl fun f cdv A outer s H E hr =>
  (qss_cons (qs_if (qt_cmp u_is (qw_var (i := 0)) (QD.toW qd_non)) (qss_cons (qs_ret (QD.toE qd_non))
  qss_nil) qss_nil)
  (qss_cons (qs_if (qt_w (qtw_or (qt_cmp (u_eq hr.units) (QD.toW (qd_ixU (qw_var (i := 0)) (QD.toW qd_int))) (QD.toW qd_str)) (qtw_or1 (qt_cmp (u_eq hr.units) (QD.toW (qd_ixU (qw_var (i := 0)) (QD.toW qd_int))) (QD.toW qd_str))))) (qss_cons (qs_ret (QD.toE (qd_tup (qds_cons (qd_ixU (qw_var (i := 0)) (QD.toW qd_int)) (qds_cons (QN.toD (qn_callTy u_tuple rfl T.b_tuple bt_tuple (qws_cons (QD.toW (QN.toD (qn_lc rfl sc_renumbered.nd (blkOk_by (N := nm_renumbered) (sc := defScope s_renumbered) (own := [("wire", 2)]) (by decide +kernel)) (qiw_u (QD.toW (qd_ixU (qw_var (i := 0)) (QD.toW qd_int)))) (fun _ _ _ _ _ => (qg_name (i := 2) sc_renumbered.nd)) (fun _ _ _ _ _ => qts_nil) (fun _ _ _ _ _ => (qd_ixK (Q.hu_of hr) (qw_var (i := 1)) (qw_var (i := 2))))))) qws_nil))) qds_nil)))))
  qss_nil) qss_nil)
  (qss_cons (qs_if (qt_cmp (u_eq hr.units) (QD.toW (qd_ixU (qw_var (i := 0)) (QD.toW qd_int))) (QD.toW qd_str)) (qss_cons (qs_ret (QD.toE (qd_tup (qds_cons qd_str (qds_cons (qd_ixK (Q.hu_of hr) (qw_var (i := 1)) (QD.toW (qd_ixU (qw_var (i := 0)) (QD.toW qd_int)))) (qds_cons (qd_ixK (Q.hu_of hr) (qw_var (i := 1)) (QD.toW (qd_ixU (qw_var (i := 0)) (QD.toW qd_int)))) qds_nil))))))
  qss_nil) qss_nil)
  (qss_cons (qs_ret (QD.toE (qd_var (i := 0))))
  qss_nil))))

abbrev nm_tidied : List Str := ["netlist", "width", "gates", "kept", "numbers", "at", "rows", "gate", "wire"]
theorem sc_tidied : FnScope nm_tidied ["netlist"] (defScope s_tidied) := ⟨rfl, rfl, rfl, by decide +kernel, rfl, by decide +kernel, by decide +kernel⟩

theorem ok_tidied {P : Program} {w : World} {K : PySem.W.Frag} {mg : Str → Option Value} {base : Heap} (T : Facts K mg base) : QFn P w K mg base "tidied" 8 1 sem_tidied :=
  qfnD (N := nm_tidied) (π := [false]) T.f_tidied sc_tidied rfl fun f cdv A outer s H E hr =>
  (qss_cons (qs_set (i := 1) sc_tidied.nd (QD.toE (QN.toD (qn_prop (ok_Netlist_signal_count (P := P) (w := w) (base := base) T) (hr.mono (by decide)) (qd_var (i := 0))))))
  (qss_cons (qs_set (i := 2) sc_tidied.nd (QD.toE (QN.toD (qn_lc rfl sc_tidied.nd (blkOk_by (N := nm_tidied) (sc := defScope s_tidied) (own := [("gate", 7)]) (by decide +kernel)) (qiw_u (QD.toW (qd_attr (ats_cons T.a_Netlist_gates ats_nil) (qw_var (i := 0))))) (fun _ _ _ _ _ => (qg_name (i := 7) sc_tidied.nd)) (fun _ _ _ _ _ => qts_nil) (fun _ _ _ _ _ => (QN.toD (qn_call (ok_bypassed (P := P) (w := w) (base := base) T) (hr.mono (by decide)) rfl rfl (qds_cons (qd_var (i := 0)) (qds_cons (qd_var (i := 7)) qds_nil)))))))))
  (qss_cons (qs_set (i := 3) sc_tidied.nd (QD.toE (QN.toD (qn_bin u_add (QD.toW (QN.toD (qn_listR1 rfl rfl T.b_list rfl T.b_range (qw_var (i := 1))))) (QD.toW (QN.toD (qn_call (ok_needed_wires (P := P) (w := w) (base := base) T) (hr.mono (by decide)) rfl rfl (qds_cons (qd_var (i := 2)) (qds_cons (qd_var (i := 1)) qds_nil)))))))))
  (qss_cons (qs_set (i := 4) sc_tidied.nd (QN.toE qn_dic))
  (qss_cons (qs_for PassesOwn.never rfl (qi_rng1 rfl T.b_range (QD.toW (QN.toD (qn_callB u_len rfl T.b_len bt_len (qws_cons (qw_var (i := 3)) qws_nil))))) (qg_name (i := 5) sc_tidied.nd) (qss_cons (qs_dputP (Q.hu_of hr) (qat_var (i := 4)) (qd_ixU (qw_var (i := 3)) (qw_var (i := 5))) (QD.toE (qd_var (i := 5))))
  qss_nil))
  (qss_cons (qs_frz (qs_setLcD (i := 6) rfl sc_tidied.nd (blkOk_by (N := nm_tidied) (sc := defScope s_tidied) (own := [("wire", 8)]) (by decide +kernel)) (qiw_u (qw_var (i := 3))) (fun _ _ _ _ _ => (qg_name (i := 8) sc_tidied.nd)) (fun _ _ _ _ _ => qts_nil) (fun _ _ _ _ _ => (QN.toD (qn_call (ok_renumbered (P := P) (w := w) (base := base) T) (hr.mono (by decide)) rfl rfl (qds_cons (qd_ixU (qw_var (i := 2)) (qw_var (i := 8))) (qds_cons (qd_var (i := 4)) qds_nil)))))))
  (qss_cons (qs_ret (QN.toE (qn_make (ok_Netlist_init (P := P) (w := w) (base := base) T) (hr.mono (by decide)) rfl rfl (qds_cons (QN.toD (qn_callTy u_list rfl T.b_list bt_list (qws_cons (QD.toW (qd_attr (ats_cons T.a_Netlist_signals ats_nil) (qw_var (i := 0)))) qws_nil))) (qds_cons (qd_attr (ats_cons T.a_Netlist_start ats_nil) (qw_var (i := 0))) (qds_cons (qd_var (i := 6)) qds_nil))))))
  qss_nil)))))))

abbrev nm_law_cell : List Str := ["_law_script", "_law_k"]
theorem sc_law_cell : FnScope nm_law_cell ["_law_script", "_law_k"] (defScope s_law_cell) := ⟨rfl, rfl, rfl, by decide +kernel, rfl, by decide +kernel, by decide +kernel⟩

theorem ok_law_cell {P : Program} {w : World} {K : PySem.W.Frag} {mg : Str → Option Value} {base : Heap} (T : Facts K mg base) : QFn P w K mg base "_law_cell" 1 2 sem_law_cell :=
  qfnD (N := nm_law_cell) (π := [false, false]) T.f_law_cell sc_law_cell rfl fun f cdv A outer s H E hr =>
  (qss_cons (qs_if (qt_cmp u_lt (qw_var (i := 1)) (QD.toW (QN.toD (qn_callB u_len rfl T.b_len bt_len (qws_cons (qw_var (i := 0)) qws_nil))))) (qss_cons (qs_ret (QD.toE (qd_ixU (qw_var (i := 0)) (qw_var (i := 1)))))
  qss_nil) qss_nil)
  (qss_cons (qs_ret (QD.toE qd_int))
  qss_nil))

abbrev nm_law_draws : List Str := ["_law_cell_here", "_law_count", "_law_rows", "_law_rest", "_law_k", "_law_mixed"]
theorem sc_law_draws : FnScope nm_law_draws ["_law_cell_here", "_law_count"] (defScope s_law_draws) := ⟨rfl, rfl, rfl, by decide +kernel, rfl, by decide +kernel, by decide +kernel⟩

theorem ok_law_draws {P : Program} {w : World} {K : PySem.W.Frag} {mg : Str → Option Value} {base : Heap} (T : Facts K mg base) : QFn P w K mg base "_law_draws" 1 2 sem_law_draws :=
  qfnD (N := nm_law_draws) (π := [false, false]) T.f_law_draws sc_law_draws rfl fun f cdv A outer s H E hr =>
  (qss_cons (qs_set (i := 2) sc_law_draws.nd (QN.toE (qn_lst qds_nil)))
  (qss_cons (qs_set (i := 3) sc_law_draws.nd (QD.toE (qd_var (i := 0))))
  (qss_cons (qs_for PassesOwn.never rfl (qi_rng1 rfl T.b_range (qw_var (i := 1))) (qg_name (i := 4) sc_law_draws.nd) (qss_cons (qs_if (qt_w (qtw_and (qt_cmp u_ge (qw_var (i := 0)) (QD.toW (QN.toD (qn_bin u_pow (QD.toW qd_int) (QD.toW qd_int))))) (qtw_and1 (qt_cmp u_gt (qw_var (i := 3)) (QD.toW qd_int))))) (qss_cons (qs_append (i := 2) (QD.toE (QN.toD (qn_bin u_mod (QD.toW (QN.toD (qn_callTy u_int1 rfl T.b_int bt_int (qws_cons (qw_var (i := 3)) qws_nil)))) (QD.toW qd_int)))))
  (qss_cons (qs_set (i := 3) sc_law_draws.nd (QD.toE (QN.toD (qn_bin u_div (qw_var (i := 3)) (QD.toW qd_int)))))
  qss_nil)) (qss_cons (qs_set (i := 5) sc_law_draws.nd (QD.toE (QN.toD (qn_bin u_mod (QD.toW (QN.toD (qn_callTy u_int1 rfl T.b_int bt_int (qws_cons (QD.toW (QN.toD (qn_bin u_add (QD.toW (QN.toD (qn_bin u_mul (qw_var (i := 0)) (QD.toW qd_int)))) (QD.toW (QN.toD (qn_bin u_mul (QD.toW (QN.toD (qn_bin u_add (qw_var (i := 4)) (QD.toW qd_int)))) (QD.toW qd_int))))))) qws_nil)))) (QD.toW qd_int)))))
  (qss_cons (qs_set (i := 5) sc_law_draws.nd (QD.toE (QN.toD (qn_bin u_mod (QD.toW (QN.toD (qn_callTy u_int1 rfl T.b_int bt_int (qws_cons (QD.toW (QN.toD (qn_bin u_add (QD.toW (QN.toD (qn_bin u_add (QD.toW (QN.toD (qn_bin u_mul (qw_var (i := 5)) (qw_var (i := 5))))) (QD.toW (QN.toD (qn_bin u_mul (qw_var (i := 5)) (QD.toW qd_int))))))) (QD.toW (QN.toD (qn_bin u_mul (qw_var (i := 4)) (QD.toW qd_int))))))) qws_nil)))) (QD.toW qd_int)))))
  (qss_cons (qs_set (i := 5) sc_law_draws.nd (QD.toE (QN.toD (qn_bin u_mod (QD.toW (QN.toD (qn_callTy u_int1 rfl T.b_int bt_int (qws_cons (QD.toW (QN.toD (qn_bin u_add (QD.toW (QN.toD (qn_bin u_add (QD.toW (QN.toD (qn_bin u_mul (qw_var (i := 5)) (qw_var (i := 5))))) (qw_var (i := 0))))) (QD.toW (QN.toD (qn_bin u_mul (QD.toW qd_int) (qw_var (i := 4)))))))) qws_nil)))) (QD.toW qd_int)))))
  (qss_cons (qs_append (i := 2) (QD.toE (QN.toD (qn_bin u_mod (QD.toW (QN.toD (qn_bin u_div (qw_var (i := 5)) (QD.toW qd_int)))) (QD.toW qd_int)))))
  qss_nil)))))
  qss_nil))
  (qss_cons (qs_ret (qe_mv (i := 2)))
  qss_nil))))

abbrev nm_law_is_int : List Str := ["_law_x"]
theorem sc_law_is_int : FnScope nm_law_is_int ["_law_x"] (defScope s_law_is_int) := ⟨rfl, rfl, rfl, by decide +kernel, rfl, by decide +kernel, by decide +kernel⟩

theorem ok_law_is_int {P : Program} {w : World} {K : PySem.W.Frag} {mg : Str → Option Value} {base : Heap} (T : Facts K mg base) : QFn P w K mg base "_law_is_int" 1 1 sem_law_is_int :=
  qfnD (N := nm_law_is_int) (π := [false]) T.f_law_is_int sc_law_is_int rfl fun f cdv A outer s H E hr =>
  (qss_cons (qs_ret (QD.toE (qd_and (qd_isi rfl T.b_isinstance rfl T.b_int bt_int (qw_var (i := 0))) (qd_one (qd_not (qd_isi rfl T.b_isinstance rfl T.b_bool bt_bool (qw_var (i := 0))))))))
  qss_nil)

abbrev nm_law_ints : List Str := ["_law_x", "_law_kind", "_law_k"]
theorem sc_law_ints : FnScope nm_law_ints ["_law_x", "_law_kind"] (defScope s_law_ints) := ⟨rfl, rfl, rfl, by decide +kernel, rfl, by decide +kernel, by decide +kernel⟩

theorem ok_law_ints {P : Program} {w : World} {K : PySem.W.Frag} {mg : Str → Option Value} {base : Heap} (T : Facts K mg base) : QFn P w K mg base "_law_ints" 2 2 sem_law_ints :=
  qfnD (N := nm_law_ints) (π := [false, false]) T.f_law_ints sc_law_ints rfl fun f cdv A outer s H E hr =>
  (qss_cons (qs_if (qt_cmp (u_eq hr.units) (qw_var (i := 1)) (QD.toW qd_str)) (qss_cons (qs_if (qt_not (qt_tru (QD.toW (qd_isi rfl T.b_isinstance rfl T.b_list bt_list (qw_var (i := 0)))))) (qss_cons (qs_ret (QD.toE qd_bl))
  qss_nil) qss_nil)
  qss_nil) (qss_cons (qs_if (qt_not (qt_tru (QD.toW (qd_isi rfl T.b_isinstance rfl T.b_tuple bt_tuple (qw_var (i := 0)))))) (qss_cons (qs_ret (QD.toE qd_bl))
  qss_nil) qss_nil)
  qss_nil))
  (qss_cons (qs_for PassesOwn.never rfl (qi_rng1 rfl T.b_range (QD.toW (QN.toD (qn_callB u_len rfl T.b_len bt_len (qws_cons (qw_var (i := 0)) qws_nil))))) (qg_name (i := 2) sc_law_ints.nd) (qss_cons (qs_if (qt_not (qt_tru (QD.toW (QN.toD (qn_call (ok_law_is_int (P := P) (w := w) (base := base) T) (hr.mono (by decide)) rfl rfl (qds_cons (qd_ixU (qw_var (i := 0)) (qw_var (i := 2))) qds_nil)))))) (qss_cons (qs_ret (QD.toE qd_bl))
  qss_nil) qss_nil)
  qss_nil))
  (qss_cons (qs_ret (QD.toE qd_bl))
  qss_nil)))

abbrev nm_law_is_list : List Str := ["_law_x", "_law_due"]
theorem sc_law_is_list : FnScope nm_law_is_list ["_law_x", "_law_due"] (defScope s_law_is_list) := ⟨rfl, rfl, rfl, by decide +kernel, rfl, by decide +kernel, by decide +kernel⟩

theorem ok_law_is_list {P : Program} {w : World} {K : PySem.W.Frag} {mg : Str → Option Value} {base : Heap} (T : Facts K mg base) : QFn P w K mg base "_law_is_list" 3 2 sem_law_is_list :=
  qfnD (N := nm_law_is_list) (π := [false, false]) T.f_law_is_list sc_law_is_list rfl fun f cdv A outer s H E hr =>
  (qss_cons (qs_ret (QD.toE (qd_and (QD.toB (QN.toD (qn_call (ok_law_ints (P := P) (w := w) (base := base) T) (hr.mono (by decide)) rfl rfl (qds_cons (qd_var (i := 0)) (qds_cons qd_str qds_nil))))) (qd_one (qd_cmp (u_eq hr.units) (qw_var (i := 0)) (qw_var (i := 1)))))))
  qss_nil)

abbrev nm_law_is_text : List Str := ["_law_x", "_law_due"]
theorem sc_law_is_text : FnScope nm_law_is_text ["_law_x", "_law_due"] (defScope s_law_is_text) := ⟨rfl, rfl, rfl, by decide +kernel, rfl, by decide +kernel, by decide +kernel⟩

theorem ok_law_is_text {P : Program} {w : World} {K : PySem.W.Frag} {mg : Str → Option Value} {base : Heap} (T : Facts K mg base) : QFn P w K mg base "_law_is_text" 1 2 sem_law_is_text :=
  qfnD (N := nm_law_is_text) (π := [false, false]) T.f_law_is_text sc_law_is_text rfl fun f cdv A outer s H E hr =>
  (qss_cons (qs_ret (QD.toE (qd_and (qd_isi rfl T.b_isinstance rfl T.b_str bt_str (qw_var (i := 0))) (qd_one (qd_cmp (u_eq hr.units) (qw_var (i := 0)) (qw_var (i := 1)))))))
  qss_nil)

abbrev nm_law_is_number : List Str := ["_law_x", "_law_due"]
theorem sc_law_is_number : FnScope nm_law_is_number ["_law_x", "_law_due"] (defScope s_law_is_number) := ⟨rfl, rfl, rfl, by decide +kernel, rfl, by decide +kernel, by decide +kernel⟩

theorem ok_law_is_number {P : Program} {w : World} {K : PySem.W.Frag} {mg : Str → Option Value} {base : Heap} (T : Facts K mg base) : QFn P w K mg base "_law_is_number" 2 2 sem_law_is_number :=
  qfnD (N := nm_law_is_number) (π := [false, false]) T.f_law_is_number sc_law_is_number rfl fun f cdv A outer s H E hr =>
  (qss_cons (qs_ret (QD.toE (qd_and (QD.toB (QN.toD (qn_call (ok_law_is_int (P := P) (w := w) (base := base) T) (hr.mono (by decide)) rfl rfl (qds_cons (qd_var (i := 0)) qds_nil)))) (qd_one (qd_cmp (u_eq hr.units) (qw_var (i := 0)) (qw_var (i := 1)))))))
  qss_nil)

abbrev nm_law_bits : List Str := ["_law_number", "_law_count", "_law_places", "_law_k"]
theorem sc_law_bits : FnScope nm_law_bits ["_law_number", "_law_count"] (defScope s_law_bits) := ⟨rfl, rfl, rfl, by decide +kernel, rfl, by decide +kernel, by decide +kernel⟩

theorem ok_law_bits {P : Program} {w : World} {K : PySem.W.Frag} {mg : Str → Option Value} {base : Heap} (T : Facts K mg base) : QFn P w K mg base "_law_bits" 1 2 sem_law_bits :=
  qfnD (N := nm_law_bits) (π := [false, false]) T.f_law_bits sc_law_bits rfl fun f cdv A outer s H E hr =>
  (qss_cons (qs_set (i := 2) sc_law_bits.nd (QN.toE (qn_lst qds_nil)))
  (qss_cons (qs_for PassesOwn.never rfl (qi_rng1 rfl T.b_range (qw_var (i := 1))) (qg_name (i := 3) sc_law_bits.nd) (qss_cons (qs_if (qt_cmp (u_eq hr.units) (QD.toW (QN.toD (qn_bin u_mod (qw_var (i := 0)) (QD.toW qd_int)))) (QD.toW qd_int)) (qss_cons (qs_append (i := 2) (QD.toE (qd_var (i := 3))))
  qss_nil) qss_nil)
  (qss_cons (qs_set (i := 0) sc_law_bits.nd (QD.toE (QN.toD (qn_bin u_div (qw_var (i := 0)) (QD.toW qd_int)))))
  qss_nil)))
  (qss_cons (qs_ret (QN.toE (qn_callTy u_tuple rfl T.b_tuple bt_tuple (qws_cons (qw_var (i := 2)) qws_nil))))
  qss_nil)))

abbrev nm_law_name : List Str := ["_law_draw", "_law_k", "_law_letters", "_law_tail", "_law_mark", "_law_head"]
theorem sc_law_name : FnScope nm_law_name ["_law_draw", "_law_k"] (defScope s_law_name) := ⟨rfl, rfl, rfl, by decide +kernel, rfl, by decide +kernel, by decide +kernel⟩

theorem ok_law_name {P : Program} {w : World} {K : PySem.W.Frag} {mg : Str → Option Value} {base : Heap} (T : Facts K mg base) : QFn P w K mg base "_law_name" 1 2 sem_law_name :=
  qfnD (N := nm_law_name) (π := [false, false]) T.f_law_name sc_law_name rfl fun f cdv A outer s H E hr =>
  (qss_cons (qs_set (i := 2) sc_law_name.nd (QD.toE qd_str))
  (qss_cons (qs_set (i := 3) sc_law_name.nd (QD.toE (QN.toD (qn_lst (qds_cons qd_str (qds_cons qd_str (qds_cons qd_str (qds_cons qd_str (qds_cons qd_str (qds_cons qd_str qds_nil))))))))))
  (qss_cons (qs_set (i := 4) sc_law_name.nd (QD.toE (qd_ixU (QD.toW qd_str) (qw_var (i := 1)))))
  (qss_cons (qs_set (i := 5) sc_law_name.nd (QD.toE (qd_ixU (qw_var (i := 2)) (QD.toW (QN.toD (qn_bin u_mod (qw_var (i := 0)) (QD.toW qd_int)))))))
  (qss_cons (qs_if (qt_cmp (u_eq hr.units) (QD.toW (QN.toD (qn_bin u_mod (QD.toW (QN.toD (qn_bin u_div (qw_var (i := 0)) (QD.toW qd_int)))) (QD.toW qd_int)))) (QD.toW qd_int)) (qss_cons (qs_ret (QN.toE (qn_bin u_add (QD.toW (QN.toD (qn_bin u_add (qw_var (i := 5)) (QD.toW (qd_ixU (qw_var (i := 3)) (QD.toW (QN.toD (qn_bin u_mod (QD.toW (QN.toD (qn_bin u_div (qw_var (i := 0)) (QD.toW qd_int)))) (QD.toW qd_int))))))))) (qw_var (i := 4)))))
  qss_nil) qss_nil)
  (qss_cons (qs_if (qt_cmp (u_eq hr.units) (QD.toW (QN.toD (qn_bin u_mod (QD.toW (QN.toD (qn_bin u_div (qw_var (i := 0)) (QD.toW qd_int)))) (QD.toW qd_int)))) (QD.toW qd_int)) (qss_cons (qs_ret (QN.toE (qn_bin u_add (QD.toW (QN.toD (qn_bin u_add (QD.toW (qd_ixU (QD.toW qd_str) (qw_var (i := 1)))) (qw_var (i := 5))))) (QD.toW (qd_ixU (qw_var (i := 3)) (QD.toW (QN.toD (qn_bin u_mod (QD.toW (QN.toD (qn_bin u_div (qw_var (i := 0)) (QD.toW qd_int)))) (QD.toW qd_int)))))))))
  qss_nil) qss_nil)
  (qss_cons (qs_ret (QN.toE (qn_bin u_add (QD.toW (QN.toD (qn_bin u_add (qw_var (i := 5)) (qw_var (i := 4))))) (QD.toW (qd_ixU (qw_var (i := 3)) (QD.toW (QN.toD (qn_bin u_mod (QD.toW (QN.toD (qn_bin u_div (qw_var (i := 0)) (QD.toW qd_int)))) (QD.toW qd_int)))))))))
  qss_nil)))))))

abbrev nm_law_names : List Str := ["_law_draws_here", "_law_at", "_law_many", "_law_names_here", "_law_way", "_law_k", "_law_draw"]
theorem sc_law_names : FnScope nm_law_names ["_law_draws_here", "_law_at", "_law_many"] (defScope s_law_names) := ⟨rfl, rfl, rfl, by decide +kernel, rfl, by decide +kernel, by decide +kernel⟩

theorem ok_law_names {P : Program} {w : World} {K : PySem.W.Frag} {mg : Str → Option Value} {base : Heap} (T : Facts K mg base) : QFn P w K mg base "_law_names" 2 3 sem_law_names :=
  qfnD (N := nm_law_names) (π := [false, false, false]) T.f_law_names sc_law_names rfl fun f cdv A outer s H E hr =>
  (qss_cons (qs_set (i := 3) sc_law_names.nd (QN.toE (qn_lst qds_nil)))
  (qss_cons (qs_set (i := 4) sc_law_names.nd (QD.toE (QN.toD (qn_bin u_mod (QD.toW (QN.toD (qn_bin u_div (QD.toW (qd_ixU (qw_var (i := 0)) (qw_var (i := 1)))) (QD.toW qd_int)))) (QD.toW qd_int)))))
  (qss_cons (qs_for PassesOwn.never rfl (qi_rng1 rfl T.b_range (qw_var (i := 2))) (qg_name (i := 5) sc_law_names.nd) (qss_cons (qs_set (i := 6) sc_law_names.nd (QD.toE (qd_ixU (qw_var (i := 0)) (QD.toW (QN.toD (qn_bin u_mod (QD.toW (QN.toD (qn_bin u_add (qw_var (i := 1)) (qw_var (i := 5))))) (QD.toW (QN.toD (qn_callB u_len rfl T.b_len bt_len (qws_cons (qw_var (i := 0)) qws_nil))))))))))
  (qss_cons (qs_append (i := 3) (QD.toE (QN.toD (qn_call (ok_law_name (P := P) (w := w) (base := base) T) (hr.mono (by decide)) rfl rfl (qds_cons (QN.toD (qn_bin u_add (QD.toW (QN.toD (qn_bin u_add (QD.toW (QN.toD (qn_bin u_mod (qw_var (i := 6)) (QD.toW qd_int)))) (QD.toW (QN.toD (qn_bin u_mul (QD.toW qd_int) (qw_var (i := 4)))))))) (QD.toW (QN.toD (qn_bin u_mul (QD.toW qd_int) (QD.toW (QN.toD (qn_bin u_div (qw_var (i := 6)) (QD.toW qd_int))))))))) (qds_cons (qd_var (i := 5)) qds_nil))))))
  qss_nil)))
  (qss_cons (qs_ret (qe_mv (i := 3)))
  qss_nil))))

abbrev nm_law_sequence : List Str := ["_law_draws_here", "_law_at", "_law_own", "_law_start", "_law_pool", "_law_values", "_law_edges", "_law_k", "_law_pick", "_law_signal", "_law_sign"]
theorem sc_law_sequence : FnScope nm_law_sequence ["_law_draws_here", "_law_at", "_law_own", "_law_start"] (defScope s_law_sequence) := ⟨rfl, rfl, rfl, by decide +kernel, rfl, by decide +kernel, by decide +kernel⟩

theorem ok_law_sequence {P : Program} {w : World} {K : PySem.W.Frag} {mg : Str → Option Value} {base : Heap} (T : Facts K mg base) : QFn P w K mg base "_law_sequence" 1 4 sem_law_sequence :=
  qfnD (N := nm_law_sequence) (π := [false, false, false, false]) T.f_law_sequence sc_law_sequence rfl fun f cdv A outer s H E hr =>
  (qss_cons (qs_set (i := 4) sc_law_sequence.nd (QD.toE (QN.toD (qn_bin u_add (qw_var (i := 2)) (qw_var (i := 2))))))
  (qss_cons (qs_if (qt_cmp (u_eq hr.units) (QD.toW (QN.toD (qn_bin u_mod (QD.toW (qd_ixU (qw_var (i := 0)) (QD.toW (QN.toD (qn_bin u_mod (qw_var (i := 1)) (QD.toW (QN.toD (qn_callB u_len rfl T.b_len bt_len (qws_cons (qw_var (i := 0)) qws_nil))))))))) (QD.toW qd_int)))) (QD.toW qd_int)) (qss_cons (qs_set (i := 4) sc_law_sequence.nd (QD.toE (QN.toD (qn_bin u_add (qw_var (i := 4)) (QD.toW (QN.toD (qn_lst (qds_cons (qd_ixU (qw_var (i := 2)) (QD.toW qd_int)) (qds_cons (qd_ixU (qw_var (i := 2)) (QD.toW qd_int)) qds_nil)))))))))
  qss_nil) qss_nil)
  (qss_cons (qs_setLc (i := 5) rfl sc_law_sequence.nd (blkOk_by (N := nm_law_sequence) (sc := defScope s_law_sequence) (own := [("_law_sign", 10)]) (by decide +kernel)) (qiw_u (qw_var (i := 3))) (fun _ _ _ _ _ => (qg_name (i := 10) sc_law_sequence.nd)) (fun _ _ _ _ _ => qts_nil) (fun _ _ _ _ _ => (QN.toD (qn_callTy u_int1 rfl T.b_int bt_int (qws_cons (QD.toW (qd_cmp (u_eq hr.units) (qw_var (i := 10)) (QD.toW qd_str))) qws_nil)))))
  (qss_cons (qs_set (i := 6) sc_law_sequence.nd (QN.toE (qn_lst qds_nil)))
  (qss_cons (qs_for PassesOwn.never rfl (qi_rng1 rfl T.b_range (QD.toW (QN.toD (qn_callB u_len rfl T.b_len bt_len (qws_cons (qw_var (i := 4)) qws_nil))))) (qg_name (i := 7) sc_law_sequence.nd) (qss_cons (qs_set (i := 8) sc_law_sequence.nd (QD.toE (QN.toD (qn_bin u_mod (QD.toW (QN.toD (qn_bin u_div (QD.toW (qd_ixU (qw_var (i := 0)) (QD.toW (QN.toD (qn_bin u_mod (QD.toW (QN.toD (qn_bin u_add (QD.toW (QN.toD (qn_bin u_add (qw_var (i := 1)) (QD.toW qd_int)))) (qw_var (i := 7))))) (QD.toW (QN.toD (qn_callB u_len rfl T.b_len bt_len (qws_cons (qw_var (i := 0)) qws_nil))))))))) (QD.toW qd_int)))) (QD.toW (QN.toD (qn_callB u_len rfl T.b_len bt_len (qws_cons (qw_var (i := 4)) qws_nil))))))))
  (qss_cons (qs_set (i := 9) sc_law_sequence.nd (QD.toE (qd_ixU (qw_var (i := 4)) (qw_var (i := 8)))))
  (qss_cons (qs_set (i := 4) sc_law_sequence.nd (QD.toE (QN.toD (qn_bin u_add (QD.toW (QN.toD (qn_slc (qw_var (i := 4)) qo_none (qo_some (qw_var (i := 8)))))) (QD.toW (QN.toD (qn_slc (qw_var (i := 4)) (qo_some (QD.toW (QN.toD (qn_bin u_add (qw_var (i := 8)) (QD.toW qd_int))))) qo_none)))))))
  (qss_cons (qs_store (i := 5) (QD.toE (QN.toD (qn_bin u_sub (QD.toW qd_int) (QD.toW (qd_ixU (qw_var (i := 5)) (qw_var (i := 9))))))) (qd_var (i := 9)))
  (qss_cons (qs_append (i := 6) (QD.toE (qd_tup (qds_cons (qd_var (i := 9)) (qds_cons (qd_ixU (qw_var (i := 5)) (qw_var (i := 9))) qds_nil)))))
  qss_nil))))))
  (qss_cons (qs_ret (qe_mv (i := 6)))
  qss_nil))))))

abbrev nm_law_groups : List Str := ["_law_edges", "_law_draws_here", "_law_at", "_law_groups_here", "_law_k", "_law_turn", "_law_pair"]
theorem sc_law_groups : FnScope nm_law_groups ["_law_edges", "_law_draws_here", "_law_at"] (defScope s_law_groups) := ⟨rfl, rfl, rfl, by decide +kernel, rfl, by decide +kernel, by decide +kernel⟩

theorem ok_law_groups {P : Program} {w : World} {K : PySem.W.Frag} {mg : Str → Option Value} {base : Heap} (T : Facts K mg base) : QFn P w K mg base "_law_groups" 1 3 sem_law_groups :=
  qfnD (N := nm_law_groups) (π := [false, false, false]) T.f_law_groups sc_law_groups rfl fun f cdv A outer s H E hr =>
  (qss_cons (qs_set (i := 3) sc_law_groups.nd (QN.toE (qn_lst qds_nil)))
  (qss_cons (qs_set (i := 4) sc_law_groups.nd (QD.toE qd_int))
  (qss_cons (qs_for PassesOwn.never rfl (qi_rng1 rfl T.b_range (QD.toW (QN.toD (qn_callB u_len rfl T.b_len bt_len (qws_cons (qw_var (i := 0)) qws_nil))))) (qg_name (i := 5) sc_law_groups.nd) (qss_cons (qs_if (qt_cmp u_lt (qw_var (i := 4)) (QD.toW (QN.toD (qn_callB u_len rfl T.b_len bt_len (qws_cons (qw_var (i := 0)) qws_nil))))) (qss_cons (qs_set (i := 6) sc_law_groups.nd (QD.toE (qd_and (qd_cmp u_lt (QD.toW qd_int) (qw_var (i := 4))) (qd_and (qd_cmp u_lt (QD.toW (QN.toD (qn_bin u_add (qw_var (i := 4)) (QD.toW qd_int)))) (QD.toW (QN.toD (qn_callB u_len rfl T.b_len bt_len (qws_cons (qw_var (i := 0)) qws_nil))))) (qd_one (qd_cmp (u_eq hr.units) (QD.toW (QN.toD (qn_bin u_mod (QD.toW (QN.toD (qn_bin u_div (QD.toW (qd_ixU (qw_var (i := 1)) (QD.toW (QN.toD (qn_bin u_mod (QD.toW (QN.toD (qn_bin u_add (qw_var (i := 2)) (qw_var (i := 5))))) (QD.toW (QN.toD (qn_callB u_len rfl T.b_len bt_len (qws_cons (qw_var (i := 1)) qws_nil))))))))) (QD.toW qd_int)))) (QD.toW qd_int)))) (QD.toW qd_int)))))))
  (qss_cons (qs_if (qt_w (qtw_and (qt_tru (qw_var (i := 6))) (qtw_and1 (qt_w (qtw_or (qt_cmp (u_eq hr.units) (QD.toW (QN.toD (qn_callB u_len rfl T.b_len bt_len (qws_cons (QD.toW (qd_ixU (qw_var (i := 3)) (QD.toW (QN.toD (qn_neg (QD.toW qd_int)))))) qws_nil)))) (QD.toW qd_int)) (qtw_or1 (qt_cmp (u_eq hr.units) (QD.toW (qd_ixU (QD.toW (qd_ixU (qw_var (i := 0)) (qw_var (i := 4)))) (QD.toW qd_int))) (QD.toW (qd_ixU (QD.toW (qd_ixU (qw_var (i := 0)) (QD.toW (QN.toD (qn_bin u_add (qw_var (i := 4)) (QD.toW qd_int)))))) (QD.toW qd_int)))))))))) (qss_cons (qs_set (i := 6) sc_law_groups.nd (QD.toE qd_bl))
  qss_nil) qss_nil)
  (qss_cons (qs_if (qt_tru (qw_var (i := 6))) (qss_cons (qs_append (i := 3) (QD.toE (QN.toD (qn_lst (qds_cons (qd_ixU (qw_var (i := 0)) (qw_var (i := 4))) (qds_cons (qd_ixU (qw_var (i := 0)) (QD.toW (QN.toD (qn_bin u_add (qw_var (i := 4)) (QD.toW qd_int))))) qds_nil))))))
  (qss_cons (qs_set (i := 4) sc_law_groups.nd (QD.toE (QN.toD (qn_bin u_add (qw_var (i := 4)) (QD.toW qd_int)))))
  qss_nil)) (qss_cons (qs_append (i := 3) (QD.toE (QN.toD (qn_lst (qds_cons (qd_ixU (qw_var (i := 0)) (qw_var (i := 4))) qds_nil)))))
  (qss_cons (qs_set (i := 4) sc_law_groups.nd (QD.toE (QN.toD (qn_bin u_add (qw_var (i := 4)) (QD.toW qd_int)))))
  qss_nil)))
  qss_nil))) qss_nil)
  qss_nil))
  (qss_cons (qs_ret (qe_mv (i := 3)))
  qss_nil))))

abbrev nm_law_add_groups : List Str := ["_law_net", "_law_groups_here", "_law_entry", "_law_before", "_law_g", "_law_behind", "_law_count", "_law_j", "_law_k"]
theorem sc_law_add_groups : FnScope nm_law_add_groups ["_law_net", "_law_groups_here", "_law_entry"] (defScope s_law_add_groups) := ⟨rfl, rfl, rfl, by decide +kernel, rfl, by decide +kernel, by decide +kernel⟩

theorem ok_law_add_groups {P : Program} {w : World} {K : PySem.W.Frag} {mg : Str → Option Value} {base : Heap} (T : Facts K mg base) : QFn P w K mg base "_law_add_groups" 1 3 sem_law_add_groups :=
  qfnD (N := nm_law_add_groups) (π := [true, false, false]) T.f_law_add_groups sc_law_add_groups rfl fun f cdv A outer s H E hr =>
  (qss_cons (qs_set (i := 3) sc_law_add_groups.nd (QD.toE (QN.toD (qn_lst (qds_cons (qd_var (i := 2)) qds_nil)))))
  (qss_cons (qs_for PassesOwn.never rfl (qi_rng1 rfl T.b_range (QD.toW (QN.toD (qn_callB u_len rfl T.b_len bt_len (qws_cons (qw_var (i := 1)) qws_nil))))) (qg_name (i := 4) sc_law_add_groups.nd) (qss_cons (qs_set (i := 5) sc_law_add_groups.nd (QD.toE (QN.toD (qn_lst (qds_cons (qd_var (i := 2)) qds_nil)))))
  (qss_cons (qs_if (qt_cmp u_lt (QD.toW (QN.toD (qn_bin u_add (qw_var (i := 4)) (QD.toW qd_int)))) (QD.toW (QN.toD (qn_callB u_len rfl T.b_len bt_len (qws_cons (qw_var (i := 1)) qws_nil))))) (qss_cons (qs_set (i := 6) sc_law_add_groups.nd (QD.toE (QN.toD (qn_callB (u_max rfl) rfl T.b_max bt_max (qws_cons (QD.toW (QN.toD (qn_callB u_len rfl T.b_len bt_len (qws_cons (QD.toW (qd_ixU (qw_var (i := 1)) (qw_var (i := 4)))) qws_nil)))) (qws_cons (QD.toW (QN.toD (qn_callB u_len rfl T.b_len bt_len (qws_cons (QD.toW (qd_ixU (qw_var (i := 1)) (QD.toW (QN.toD (qn_bin u_add (qw_var (i := 4)) (QD.toW qd_int)))))) qws_nil)))) qws_nil))))))
  (qss_cons (qs_setLcD (i := 5) rfl sc_law_add_groups.nd (blkOk_by (N := nm_law_add_groups) (sc := defScope s_law_add_groups) (own := [("_law_k", 8)]) (by decide +kernel)) (QI.w (qi_rng1 rfl T.b_range (qw_var (i := 6)))) (fun _ _ _ _ _ => (qg_name (i := 8) sc_law_add_groups.nd)) (fun _ _ _ _ _ => qts_nil) (fun _ _ _ _ _ => (QN.toD (qn_bin u_add (QP.toW (QAt.toP (qat_ix (n := 0) (qat_var (i := 0))))) (qw_var (i := 8))))))
  (qss_cons (qs_stoP (QD.toE (QN.toD (qn_bin u_add (QP.toW (QAt.toP (qat_ix (n := 0) (qat_var (i := 0))))) (qw_var (i := 6))))) (qat_var (i := 0)) qd_int)
  qss_nil))) qss_nil)
  (qss_cons (qs_if (qt_cmp (u_eq hr.units) (QD.toW (QN.toD (qn_callB u_len rfl T.b_len bt_len (qws_cons (QD.toW (qd_ixU (qw_var (i := 1)) (qw_var (i := 4)))) qws_nil)))) (QD.toW qd_int)) (qss_cons (qs_appP (qat_ix (n := 1) (qat_var (i := 0))) (qd_tup (qds_cons (QN.toD (qn_callTy u_tuple rfl T.b_tuple bt_tuple (qws_cons (qw_var (i := 3)) qws_nil))) (qds_cons (QN.toD (qn_callTy u_tuple rfl T.b_tuple bt_tuple (qws_cons (qw_var (i := 5)) qws_nil))) qds_nil))))
  (qss_cons (qs_appP (qat_ix (n := 2) (qat_var (i := 0))) (qd_ixU (QD.toW (qd_ixU (qw_var (i := 1)) (qw_var (i := 4)))) (QD.toW qd_int)))
  qss_nil)) (qss_cons (qs_for PassesOwn.never rfl (qi_rng1 rfl T.b_range (QD.toW qd_int)) (qg_name (i := 7) sc_law_add_groups.nd) (qss_cons (qs_appP (qat_ix (n := 1) (qat_var (i := 0))) (qd_tup (qds_cons (qd_tup (qds_cons (qd_ixU (qw_var (i := 3)) (qw_var (i := 7))) qds_nil)) (qds_cons (qd_tup (qds_cons (qd_ixU (qw_var (i := 5)) (qw_var (i := 7))) qds_nil)) qds_nil))))
  (qss_cons (qs_appP (qat_ix (n := 2) (qat_var (i := 0))) (qd_ixU (QD.toW (qd_ixU (qw_var (i := 1)) (qw_var (i := 4)))) (qw_var (i := 7))))
  qss_nil)))
  qss_nil))
  (qss_cons (qs_set (i := 3) sc_law_add_groups.nd (QD.toE (qd_var (i := 5))))
  qss_nil)))))
  qss_nil))

abbrev nm_law_free_net : List Str := ["_law_draws_here", "_law_many", "_law_count", "_law_rows", "_law_edges", "_law_t", "_law_before"]
theorem sc_law_free_net : FnScope nm_law_free_net ["_law_draws_here", "_law_many"] (defScope s_law_free_net) := ⟨rfl, rfl, rfl, by decide +kernel, rfl, by decide +kernel, by decide +kernel⟩

theorem ok_law_free_net {P : Program} {w : World} {K : PySem.W.Frag} {mg : Str → Option Value} {base : Heap} (T : Facts K mg base) : QFn P w K mg base "_law_free_net" 2 2 sem_law_free_net :=
  qfnD (N := nm_law_free_net) (π := [false, false]) T.f_law_free_net sc_law_free_net rfl fun f cdv A outer s H E hr =>
  (qss_cons (qs_set (i := 2) sc_law_free_net.nd (QD.toE (QN.toD (qn_bin u_add (QD.toW qd_int) (QD.toW (QN.toD (qn_bin u_mod (QD.toW (qd_ixU (qw_var (i := 0)) (QD.toW qd_int))) (QD.toW qd_int))))))))
  (qss_cons (qs_set (i := 3) sc_law_free_net.nd (QN.toE (qn_lst qds_nil)))
  (qss_cons (qs_set (i := 4) sc_law_free_net.nd (QN.toE (qn_lst qds_nil)))
  (qss_cons (qs_for PassesOwn.never rfl (qi_rng1 rfl T.b_range (QD.toW (QN.toD (qn_bin u_mod (QD.toW (qd_ixU (qw_var (i := 0)) (QD.toW qd_int))) (QD.toW qd_int))))) (qg_name (i := 5) sc_law_free_net.nd) (qss_cons (qs_set (i := 6) sc_law_free_net.nd (QD.toE (QN.toD (qn_call (ok_law_bits (P := P) (w := w) (base := base) T) (hr.mono (by decide)) rfl rfl (qds_cons (qd_ixU (qw_var (i := 0)) (QD.toW (QN.toD (qn_bin u_add (QD.toW qd_int) (QD.toW (QN.toD (qn_bin u_mul (QD.toW qd_int) (qw_var (i := 5))))))))) (qds_cons (qd_var (i := 2)) qds_nil))))))
  (qss_cons (qs_if (qt_cmp (u_eq hr.units) (QD.toW (QN.toD (qn_callB u_len rfl T.b_len bt_len (qws_cons (qw_var (i := 6)) qws_nil)))) (QD.toW qd_int)) (qss_cons (qs_set (i := 6) sc_law_free_net.nd (QD.toE (qd_tup (qds_cons (QN.toD (qn_bin u_mod (QD.toW (QN.toD (qn_bin u_div (QD.toW (qd_ixU (qw_var (i := 0)) (QD.toW (QN.toD (qn_bin u_add (QD.toW qd_int) (QD.toW (QN.toD (qn_bin u_mul (QD.toW qd_int) (qw_var (i := 5)))))))))) (QD.toW qd_int)))) (qw_var (i := 2)))) qds_nil))))
  qss_nil) qss_nil)
  (qss_cons (qs_append (i := 3) (QD.toE (qd_tup (qds_cons (qd_var (i := 6)) (qds_cons (QN.toD (qn_call (ok_law_bits (P := P) (w := w) (base := base) T) (hr.mono (by decide)) rfl rfl (qds_cons (qd_ixU (qw_var (i := 0)) (QD.toW (QN.toD (qn_bin u_add (QD.toW qd_int) (QD.toW (QN.toD (qn_bin u_mul (QD.toW qd_int) (qw_var (i := 5))))))))) (qds_cons (qd_var (i := 2)) qds_nil)))) qds_nil)))))
  (qss_cons (qs_append (i := 4) (QD.toE (qd_tup (qds_cons (QN.toD (qn_bin u_mod (QD.toW (qd_ixU (qw_var (i := 0)) (QD.toW (QN.toD (qn_bin u_add (QD.toW qd_int) (QD.toW (QN.toD (qn_bin u_mul (QD.toW qd_int) (qw_var (i := 5)))))))))) (qw_var (i := 1)))) (qds_cons (QN.toD (qn_bin u_mod (QD.toW (QN.toD (qn_bin u_div (QD.toW (qd_ixU (qw_var (i := 0)) (QD.toW (QN.toD (qn_bin u_add (QD.toW qd_int) (QD.toW (QN.toD (qn_bin u_mul (QD.toW qd_int) (qw_var (i := 5)))))))))) (QD.toW qd_int)))) (QD.toW qd_int))) qds_nil)))))
  qss_nil)))))
  (qss_cons (qs_ret (qe_ns (qes_cons (QD.toE (qd_var (i := 2))) (qes_cons (qe_mv (i := 3)) (qes_cons (qe_mv (i := 4)) (qes_cons (QD.toE (QN.toD (qn_call (ok_law_bits (P := P) (w := w) (base := base) T) (hr.mono (by decide)) rfl rfl (qds_cons (qd_ixU (qw_var (i := 0)) (QD.toW qd_int)) (qds_cons (qd_var (i := 2)) qds_nil))))) qes_nil))))))
  qss_nil)))))

abbrev nm_law_world : List Str := ["_law_cell_here", "_law_draws_here", "_law_many", "_law_kinds", "_law_start", "_law_shape", "_law_net", "_law_marked", "_law_loops", "_law_g", "_law_own", "_law_entry", "_law_b", "_law_edges", "_law_names_here", "_law_signals", "_law_k"]
theorem sc_law_world : FnScope nm_law_world ["_law_cell_here"] (defScope s_law_world) := ⟨rfl, rfl, rfl, by decide +kernel, rfl, by decide +kernel, by decide +kernel⟩

theorem ok_law_world {P : Program} {w : World} {K : PySem.W.Frag} {mg : Str → Option Value} {base : Heap} (T : Facts K mg base) : QFn P w K mg base "_law_world" 3 1 sem_law_world :=
  qfnD (N := nm_law_world) (π := [false]) T.f_law_world sc_law_world rfl fun f cdv A outer s H E hr =>
  (qss_cons (qs_set (i := 1) sc_law_world.nd (QD.toE (QN.toD (qn_call (ok_law_draws (P := P) (w := w) (base := base) T) (hr.mono (by decide)) rfl rfl (qds_cons (qd_var (i := 0)) (qds_cons qd_int qds_nil))))))
  (qss_cons (qs_set (i := 2) sc_law_world.nd (QD.toE (QN.toD (qn_bin u_add (QD.toW qd_int) (QD.toW (QN.toD (qn_bin u_mod (QD.toW (qd_ixU (qw_var (i := 1)) (QD.toW qd_int))) (QD.toW qd_int))))))))
  (qss_cons (qs_set (i := 3) sc_law_world.nd (QN.toE (qn_lc rfl sc_law_world.nd (blkOk_by (N := nm_law_world) (sc := defScope s_law_world) (own := [("_law_k", 16)]) (by decide +kernel)) (QI.w (qi_rng1 rfl T.b_range (qw_var (i := 2)))) (fun _ _ _ _ _ => (qg_name (i := 16) sc_law_world.nd)) (fun _ _ _ _ _ => qts_nil) (fun _ _ _ _ _ => (qd_ixU (QD.toW (QN.toD (qn_lst (qds_cons qd_str (qds_cons qd_str (qds_cons qd_str (qds_cons qd_str qds_nil))))))) (QD.toW (QN.toD (qn_bin u_mod (QD.toW (qd_ixU (qw_var (i := 1)) (QD.toW (QN.toD (qn_bin u_add (QD.toW qd_int) (qw_var (i := 16))))))) (QD.toW qd_int)))))))))
  (qss_cons (qs_set (i := 4) sc_law_world.nd (QD.toE (qd_join (QD.toW qd_str) (QD.toW (QN.toD (qn_lc rfl sc_law_world.nd (blkOk_by (N := nm_law_world) (sc := defScope s_law_world) (own := [("_law_k", 16)]) (by decide +kernel)) (QI.w (qi_rng1 rfl T.b_range (qw_var (i := 2)))) (fun _ _ _ _ _ => (qg_name (i := 16) sc_law_world.nd)) (fun _ _ _ _ _ => qts_nil) (fun _ _ _ _ _ => (qd_ixU (QD.toW qd_str) (QD.toW (QN.toD (qn_bin u_mod (QD.toW (QN.toD (qn_bin u_div (QD.toW (qd_ixU (qw_var (i := 1)) (QD.toW (QN.toD (qn_bin u_add (QD.toW qd_int) (qw_var (i := 16))))))) (QD.toW qd_int)))) (QD.toW qd_int))))))))))))
  (qss_cons (qs_set (i := 5) sc_law_world.nd (QD.toE (QN.toD (qn_bin u_mod (QD.toW (qd_ixU (qw_var (i := 1)) (QD.toW qd_int))) (QD.toW qd_int)))))
  (qss_cons (qs_if (qt_cmp u_gt (qw_var (i := 5)) (QD.toW qd_int)) (qss_cons (qs_set (i := 6) sc_law_world.nd (QN.toE (qn_call (ok_law_free_net (P := P) (w := w) (base := base) T) (hr.mono (by decide)) rfl rfl (qds_cons (qd_var (i := 1)) (qds_cons (qd_var (i := 2)) qds_nil)))))
  (qss_cons (qs_set (i := 7) sc_law_world.nd (QN.toE (qn_callTy u_list rfl T.b_list bt_list (qws_cons (QP.toW (QAt.toP (qat_ix (n := 3) (qat_var (i := 6))))) qws_nil))))
  qss_nil)) (qss_cons (qs_set (i := 6) sc_law_world.nd (qe_ns (qes_cons (QD.toE qd_int) (qes_cons (QN.toE (qn_lst qds_nil)) (qes_cons (QN.toE (qn_lst qds_nil)) qes_nil)))))
  (qss_cons (qs_set (i := 7) sc_law_world.nd (QN.toE (qn_lst qds_nil)))
  (qss_cons (qs_set (i := 8) sc_law_world.nd (QD.toE (QN.toD (qn_bin u_add (QD.toW qd_int) (QD.toW (QN.toD (qn_callTy u_int1 rfl T.b_int bt_int (qws_cons (QD.toW (qd_and (qd_cmp (u_eq hr.units) (qw_var (i := 5)) (QD.toW qd_int)) (qd_one (qd_cmp u_gt (qw_var (i := 2)) (QD.toW qd_int))))) qws_nil))))))))
  (qss_cons (qs_for PassesOwn.never rfl (qi_rng1 rfl T.b_range (qw_var (i := 8))) (qg_name (i := 9) sc_law_world.nd) (qss_cons (qs_setLcD (i := 10) rfl sc_law_world.nd (blkOk_by (N := nm_law_world) (sc := defScope s_law_world) (own := [("_law_k", 16)]) (by decide +kernel)) (QI.w (qi_rng1 rfl T.b_range (qw_var (i := 2)))) (fun _ _ _ _ _ => (qg_name (i := 16) sc_law_world.nd)) (fun _ _ _ _ _ => (qts_one (qt_cmp (u_eq hr.units) (QD.toW (QN.toD (qn_bin u_mod (qw_var (i := 16)) (qw_var (i := 8))))) (qw_var (i := 9))))) (fun _ _ _ _ _ => (qd_var (i := 16))))
  (qss_cons (qs_set (i := 11) sc_law_world.nd (QD.toE (QP.toD (QAt.toP (qat_ix (n := 0) (qat_var (i := 6)))))))
  (qss_cons (qs_stoP (QD.toE (QN.toD (qn_bin u_add (QP.toW (QAt.toP (qat_ix (n := 0) (qat_var (i := 6))))) (QD.toW qd_int)))) (qat_var (i := 6)) qd_int)
  (qss_cons (qs_append (i := 7) (QD.toE (qd_var (i := 11))))
  (qss_cons (qs_for PassesOwn.never rfl (qi_rng1 rfl T.b_range (QD.toW (QN.toD (qn_bin u_add (QD.toW qd_int) (QD.toW (QN.toD (qn_callTy u_int1 rfl T.b_int bt_int (qws_cons (QD.toW (qd_cmp (u_eq hr.units) (qw_var (i := 5)) (QD.toW qd_int))) qws_nil)))))))) (qg_name (i := 12) sc_law_world.nd) (qss_cons (qs_set (i := 13) sc_law_world.nd (QD.toE (QN.toD (qn_call (ok_law_sequence (P := P) (w := w) (base := base) T) (hr.mono (by decide)) rfl rfl (qds_cons (qd_var (i := 1)) (qds_cons (QN.toD (qn_bin u_add (QD.toW (QN.toD (qn_bin u_add (QD.toW qd_int) (QD.toW (QN.toD (qn_bin u_mul (QD.toW qd_int) (qw_var (i := 12)))))))) (QD.toW (QN.toD (qn_bin u_mul (QD.toW qd_int) (qw_var (i := 9))))))) (qds_cons (qd_var (i := 10)) (qds_cons (qd_var (i := 4)) qds_nil))))))))
  (qss_cons (qs_expr (qe_call (ok_law_add_groups (P := P) (w := w) (base := base) T) (hr.mono (by decide)) rfl rfl (qas_m (i := 6) (qas_v (QN.toD (qn_call (ok_law_groups (P := P) (w := w) (base := base) T) (hr.mono (by decide)) rfl rfl (qds_cons (qd_var (i := 13)) (qds_cons (qd_var (i := 1)) (qds_cons (QN.toD (qn_bin u_add (QD.toW qd_int) (QD.toW (QN.toD (qn_bin u_mul (QD.toW qd_int) (qw_var (i := 12))))))) qds_nil))))) (qas_v (qd_var (i := 11)) qas_nil)))))
  (qss_cons (qs_if (qt_cmp (u_eq hr.units) (qw_var (i := 5)) (QD.toW qd_int)) (qss_cons (qs_store (i := 3) (QD.toE qd_str) (qd_ixU (QD.toW (qd_ixU (qw_var (i := 13)) (QD.toW qd_int))) (QD.toW qd_int)))
  qss_nil) qss_nil)
  qss_nil))))
  qss_nil))))))
  qss_nil)))))
  (qss_cons (qs_if (qt_w (qtw_and (qt_cmp (u_eq hr.units) (QD.toW (QN.toD (qn_bin u_mod (QD.toW (qd_ixU (qw_var (i := 1)) (QD.toW qd_int))) (QD.toW qd_int)))) (QD.toW qd_int)) (qtw_and1 (qt_cmp u_gt (QD.toW (QN.toD (qn_callB u_len rfl T.b_len bt_len (qws_cons (QP.toW (QAt.toP (qat_ix (n := 2) (qat_var (i := 6))))) qws_nil)))) (QD.toW qd_int))))) (qss_cons (qs_stoP (QD.toE (qd_tup (qds_cons (QN.toD (qn_bin u_mod (QD.toW (qd_ixU (qw_var (i := 1)) (QD.toW qd_int))) (qw_var (i := 2)))) (qds_cons (QN.toD (qn_bin u_mod (QD.toW (QN.toD (qn_bin u_div (QD.toW (qd_ixU (qw_var (i := 1)) (QD.toW qd_int))) (QD.toW qd_int)))) (QD.toW qd_int))) qds_nil)))) (qat_ix (n := 2) (qat_var (i := 6))) (QN.toD (qn_bin u_mod (QD.toW (qd_ixU (qw_var (i := 1)) (QD.toW qd_int))) (QD.toW (QN.toD (qn_callB u_len rfl T.b_len bt_len (qws_cons (QP.toW (QAt.toP (qat_ix (n := 2) (qat_var (i := 6))))) qws_nil)))))))
  qss_nil) qss_nil)
  (qss_cons (qs_set (i := 14) sc_law_world.nd (QD.toE (QN.toD (qn_call (ok_law_names (P := P) (w := w) (base := base) T) (hr.mono (by decide)) rfl rfl (qds_cons (qd_var (i := 1)) (qds_cons qd_int (qds_cons (qd_var (i := 2)) qds_nil)))))))
  (qss_cons (qs_setLcD (i := 15) rfl sc_law_world.nd (blkOk_by (N := nm_law_world) (sc := defScope s_law_world) (own := [("_law_k", 16)]) (by decide +kernel)) (QI.w (qi_rng1 rfl T.b_range (qw_var (i := 2)))) (fun _ _ _ _ _ => (qg_name (i := 16) sc_law_world.nd)) (fun _ _ _ _ _ => qts_nil) (fun _ _ _ _ _ => (qd_tup (qds_cons (qd_ixU (qw_var (i := 14)) (qw_var (i := 16))) (qds_cons (qd_ixU (qw_var (i := 3)) (qw_var (i := 16))) qds_nil)))))
  (qss_cons (qs_frz (qs_ret (QD.toE (qd_tup (qds_cons (QP.toD (QAt.toP (qat_ix (n := 0) (qat_var (i := 6))))) (qds_cons (QP.toD (QAt.toP (qat_ix (n := 1) (qat_var (i := 6))))) (qds_cons (QN.toD (qn_callTy u_tuple rfl T.b_tuple bt_tuple (qws_cons (qw_var (i := 7)) qws_nil))) (qds_cons (qd_var (i := 15)) (qds_cons (QP.toD (QAt.toP (qat_ix (n := 2) (qat_var (i := 6))))) (qds_cons (qd_var (i := 4)) qds_nil))))))))))
  qss_nil))))))))))

abbrev nm_law_same_signals : List Str := ["_law_actual", "_law_signals", "_law_k", "_law_row"]
theorem sc_law_same_signals : FnScope nm_law_same_signals ["_law_actual", "_law_signals"] (defScope s_law_same_signals) := ⟨rfl, rfl, rfl, by decide +kernel, rfl, by decide +kernel, by decide +kernel⟩

theorem ok_law_same_signals {P : Program} {w : World} {K : PySem.W.Frag} {mg : Str → Option Value} {base : Heap} (T : Facts K mg base) : QFn P w K mg base "_law_same_signals" 2 2 sem_law_same_signals :=
  qfnD (N := nm_law_same_signals) (π := [false, false]) T.f_law_same_signals sc_law_same_signals rfl fun f cdv A outer s H E hr =>
  (qss_cons (qs_if (qt_w (qtw_or (qt_not (qt_tru (QD.toW (qd_isi rfl T.b_isinstance rfl T.b_tuple bt_tuple (qw_var (i := 0)))))) (qtw_or1 (qt_cmp (u_ne hr.units) (QD.toW (QN.toD (qn_callB u_len rfl T.b_len bt_len (qws_cons (qw_var (i := 0)) qws_nil)))) (QD.toW (QN.toD (qn_callB u_len rfl T.b_len bt_len (qws_cons (qw_var (i := 1)) qws_nil)))))))) (qss_cons (qs_ret (QD.toE qd_bl))
  qss_nil) qss_nil)
  (qss_cons (qs_for PassesOwn.never rfl (qi_rng1 rfl T.b_range (QD.toW (QN.toD (qn_callB u_len rfl T.b_len bt_len (qws_cons (qw_var (i := 1)) qws_nil))))) (qg_name (i := 2) sc_law_same_signals.nd) (qss_cons (qs_set (i := 3) sc_law_same_signals.nd (QD.toE (qd_ixU (qw_var (i := 0)) (qw_var (i := 2)))))
  (qss_cons (qs_if (qt_w (qtw_or (qt_not (qt_tru (QD.toW (qd_isi rfl T.b_isinstance rfl T.b_tuple bt_tuple (qw_var (i := 3)))))) (qtw_or1 (qt_cmp (u_ne hr.units) (QD.toW (QN.toD (qn_callB u_len rfl T.b_len bt_len (qws_cons (qw_var (i := 3)) qws_nil)))) (QD.toW qd_int))))) (qss_cons (qs_ret (QD.toE qd_bl))
  qss_nil) qss_nil)
  (qss_cons (qs_if (qt_w (qtw_or (qt_not (qt_tru (QD.toW (QN.toD (qn_call (ok_law_is_text (P := P) (w := w) (base := base) T) (hr.mono (by decide)) rfl rfl (qds_cons (qd_ixU (qw_var (i := 3)) (QD.toW qd_int)) (qds_cons (qd_ixU (QD.toW (qd_ixU (qw_var (i := 1)) (qw_var (i := 2)))) (QD.toW qd_int)) qds_nil))))))) (qtw_or1 (qt_not (qt_tru (QD.toW (QN.toD (qn_call (ok_law_is_text (P := P) (w := w) (base := base) T) (hr.mono (by decide)) rfl rfl (qds_cons (qd_ixU (qw_var (i := 3)) (QD.toW qd_int)) (qds_cons (qd_ixU (QD.toW (qd_ixU (qw_var (i := 1)) (qw_var (i := 2)))) (QD.toW qd_int)) qds_nil)))))))))) (qss_cons (qs_ret (QD.toE qd_bl))
  qss_nil) qss_nil)
  qss_nil))))
  (qss_cons (qs_ret (QD.toE qd_bl))
  qss_nil)))

abbrev nm_law_cube : List Str := ["_law_draw", "_law_width", "_law_text", "_law_k"]
theorem sc_law_cube : FnScope nm_law_cube ["_law_draw", "_law_width"] (defScope s_law_cube) := ⟨rfl, rfl, rfl, by decide +kernel, rfl, by decide +kernel, by decide +kernel⟩

theorem ok_law_cube {P : Program} {w : World} {K : PySem.W.Frag} {mg : Str → Option Value} {base : Heap} (T : Facts K mg base) : QFn P w K mg base "_law_cube" 1 2 sem_law_cube :=
  qfnD (N := nm_law_cube) (π := [false, false]) T.f_law_cube sc_law_cube rfl fun f cdv A outer s H E hr =>
  (qss_cons (qs_set (i := 2) sc_law_cube.nd (QD.toE qd_str))
  (qss_cons (qs_for PassesOwn.never rfl (qi_rng1 rfl T.b_range (qw_var (i := 1))) (qg_name (i := 3) sc_law_cube.nd) (qss_cons (qs_set (i := 2) sc_law_cube.nd (QD.toE (QN.toD (qn_bin u_add (qw_var (i := 2)) (QD.toW (qd_ixU (QD.toW qd_str) (QD.toW (QN.toD (qn_bin u_mod (qw_var (i := 0)) (QD.toW qd_int))))))))))
  (qss_cons (qs_set (i := 0) sc_law_cube.nd (QD.toE (QN.toD (qn_bin u_div (qw_var (i := 0)) (QD.toW qd_int)))))
  qss_nil)))
  (qss_cons (qs_ret (QD.toE (qd_var (i := 2))))
  qss_nil)))

abbrev nm_law_netlist : List Str := ["_law_world_here", "_law_gates"]
theorem sc_law_netlist : FnScope nm_law_netlist ["_law_world_here", "_law_gates"] (defScope s_law_netlist) := ⟨rfl, rfl, rfl, by decide +kernel, rfl, by decide +kernel, by decide +kernel⟩

theorem ok_law_netlist {P : Program} {w : World} {K : PySem.W.Frag} {mg : Str → Option Value} {base : Heap} (T : Facts K mg base) : QFn P w K mg base "_law_netlist" 8 2 sem_law_netlist :=
  qfnD (N := nm_law_netlist) (π := [false, false]) T.f_law_netlist sc_law_netlist rfl fun f cdv A outer s H E hr =>
  (qss_cons (qs_ret (QN.toE (qn_make (ok_Netlist_init (P := P) (w := w) (base := base) T) (hr.mono (by decide)) rfl rfl (qds_cons (QN.toD (qn_callTy u_list rfl T.b_list bt_list (qws_cons (QD.toW (qd_ixU (qw_var (i := 0)) (QD.toW qd_int))) qws_nil))) (qds_cons (qd_ixU (qw_var (i := 0)) (QD.toW qd_int)) (qds_cons (QN.toD (qn_callTy u_list rfl T.b_list bt_list (qws_cons (qw_var (i := 1)) qws_nil))) qds_nil))))))
  qss_nil)

abbrev nm_law_qsame_gates : List Str := ["_law_actual", "_law_gates", "_law_wire"]
theorem sc_law_qsame_gates : FnScope nm_law_qsame_gates ["_law_actual", "_law_gates"] (defScope s_law_qsame_gates) := ⟨rfl, rfl, rfl, by decide +kernel, rfl, by decide +kernel, by decide +kernel⟩

theorem ok_law_qsame_gates {P : Program} {w : World} {K : PySem.W.Frag} {mg : Str → Option Value} {base : Heap} (T : Facts K mg base) : QFn P w K mg base "_law_qsame_gates" 1 2 sem_law_qsame_gates :=
  qfnD (N := nm_law_qsame_gates) (π := [false, false]) T.f_law_qsame_gates sc_law_qsame_gates rfl fun f cdv A outer s H E hr =>
  (qss_cons (qs_if (qt_w (qtw_or (qt_not (qt_tru (QD.toW (qd_isi rfl T.b_isinstance rfl T.b_tuple bt_tuple (qw_var (i := 0)))))) (qtw_or1 (qt_cmp (u_ne hr.units) (QD.toW (QN.toD (qn_callB u_len rfl T.b_len bt_len (qws_cons (qw_var (i := 0)) qws_nil)))) (QD.toW (QN.toD (qn_callB u_len rfl T.b_len bt_len (qws_cons (qw_var (i := 1)) qws_nil)))))))) (qss_cons (qs_ret (QD.toE qd_bl))
  qss_nil) qss_nil)
  (qss_cons (qs_for PassesOwn.never rfl (qi_rng1 rfl T.b_range (QD.toW (QN.toD (qn_callB u_len rfl T.b_len bt_len (qws_cons (qw_var (i := 1)) qws_nil))))) (qg_name (i := 2) sc_law_qsame_gates.nd) (qss_cons (qs_if (qt_cmp u_is (QD.toW (qd_ixU (qw_var (i := 1)) (qw_var (i := 2)))) (QD.toW qd_non)) (qss_cons (qs_if (qt_cmp u_isnot (QD.toW (qd_ixU (qw_var (i := 0)) (qw_var (i := 2)))) (QD.toW qd_non)) (qss_cons (qs_ret (QD.toE qd_bl))
  qss_nil) qss_nil)
  qss_nil) (qss_cons (qs_if (qt_w (qtw_or (qt_not (qt_tru (QD.toW (qd_isi rfl T.b_isinstance rfl T.b_tuple bt_tuple (QD.toW (qd_ixU (qw_var (i := 0)) (qw_var (i := 2)))))))) (qtw_or1 (qt_cmp (u_ne hr.units) (QD.toW (qd_ixU (qw_var (i := 0)) (qw_var (i := 2)))) (QD.toW (qd_ixU (qw_var (i := 1)) (qw_var (i := 2)))))))) (qss_cons (qs_ret (QD.toE qd_bl))
  qss_nil) qss_nil)
  qss_nil))
  qss_nil))
  (qss_cons (qs_ret (QD.toE qd_bl))
  qss_nil)))

abbrev nm_law_qsame_netlist : List Str := ["_law_netlist_here", "_law_signals", "_law_start", "_law_gates"]
theorem sc_law_qsame_netlist : FnScope nm_law_qsame_netlist ["_law_netlist_here", "_law_signals", "_law_start", "_law_gates"] (defScope s_law_qsame_netlist) := ⟨rfl, rfl, rfl, by decide +kernel, rfl, by decide +kernel, by decide +kernel⟩

theorem ok_law_qsame_netlist {P : Program} {w : World} {K : PySem.W.Frag} {mg : Str → Option Value} {base : Heap} (T : Facts K mg base) : QFn P w K mg base "_law_qsame_netlist" 3 4 sem_law_qsame_netlist :=
  qfnD (N := nm_law_qsame_netlist) (π := [false, false, false, false]) T.f_law_qsame_netlist sc_law_qsame_netlist rfl fun f cdv A outer s H E hr =>
  (qss_cons (qs_if (qt_w (qtw_or (qt_not (qt_tru (QD.toW (QN.toD (qn_call (ok_law_same_signals (P := P) (w := w) (base := base) T) (hr.mono (by decide)) rfl rfl (qds_cons (qd_attr (ats_cons T.a_Netlist_signals ats_nil) (qw_var (i := 0))) (qds_cons (qd_var (i := 1)) qds_nil))))))) (qtw_or1 (qt_not (qt_tru (QD.toW (QN.toD (qn_call (ok_law_is_text (P := P) (w := w) (base := base) T) (hr.mono (by decide)) rfl rfl (qds_cons (qd_attr (ats_cons T.a_Netlist_start ats_nil) (qw_var (i := 0))) (qds_cons (qd_var (i := 2)) qds_nil)))))))))) (qss_cons (qs_ret (QD.toE qd_bl))
  qss_nil) qss_nil)
  (qss_cons (qs_ret (QN.toE (qn_call (ok_law_qsame_gates (P := P) (w := w) (base := base) T) (hr.mono (by decide)) rfl rfl (qds_cons (qd_attr (ats_cons T.a_Netlist_gates ats_nil) (qw_var (i := 0))) (qds_cons (qd_var (i := 3)) qds_nil)))))
  qss_nil))

abbrev nm_law_qwired : List Str := ["_law_world_here", "_law_cell_here", "_law_draws_here", "_law_width", "_law_more", "_law_gates", "_law_wire", "_law_draw", "_law_cube_here", "_law_below", "_law_way", "_law_one", "_law_two", "_law_k"]
theorem sc_law_qwired : FnScope nm_law_qwired ["_law_world_here", "_law_cell_here"] (defScope s_law_qwired) := ⟨rfl, rfl, rfl, by decide +kernel, rfl, by decide +kernel, by decide +kernel⟩

theorem ok_law_qwired {P : Program} {w : World} {K : PySem.W.Frag} {mg : Str → Option Value} {base : Heap} (T : Facts K mg base) : QFn P w K mg base "_law_qwired" 2 2 sem_law_qwired :=
  qfnD (N := nm_law_qwired) (π := [false, false]) T.f_law_qwired sc_law_qwired rfl fun f cdv A outer s H E hr =>
  (qss_cons (qs_set (i := 2) sc_law_qwired.nd (QD.toE (QN.toD (qn_call (ok_law_draws (P := P) (w := w) (base := base) T) (hr.mono (by decide)) rfl rfl (qds_cons (qd_var (i := 1)) (qds_cons qd_int qds_nil))))))
  (qss_cons (qs_set (i := 3) sc_law_qwired.nd (QD.toE (QN.toD (qn_callB u_len rfl T.b_len bt_len (qws_cons (QD.toW (qd_ixU (qw_var (i := 0)) (QD.toW qd_int))) qws_nil)))))
  (qss_cons (qs_set (i := 4) sc_law_qwired.nd (QD.toE (QN.toD (qn_bin u_mod (QD.toW (qd_ixU (qw_var (i := 2)) (QD.toW qd_int))) (QD.toW qd_int)))))
  (qss_cons (qs_set (i := 5) sc_law_qwired.nd (QN.toE (qn_lst qds_nil)))
  (qss_cons (qs_for PassesOwn.never rfl (qi_rng1 rfl T.b_range (QD.toW (QN.toD (qn_bin u_add (qw_var (i := 3)) (qw_var (i := 4)))))) (qg_name (i := 6) sc_law_qwired.nd) (qss_cons (qs_set (i := 7) sc_law_qwired.nd (QD.toE (qd_ixU (qw_var (i := 2)) (QD.toW (QN.toD (qn_bin u_add (QD.toW qd_int) (qw_var (i := 6))))))))
  (qss_cons (qs_set (i := 8) sc_law_qwired.nd (QD.toE (QN.toD (qn_call (ok_law_cube (P := P) (w := w) (base := base) T) (hr.mono (by decide)) rfl rfl (qds_cons (qd_ixU (qw_var (i := 2)) (QD.toW (QN.toD (qn_bin u_add (QD.toW qd_int) (qw_var (i := 6)))))) (qds_cons (qd_var (i := 3)) qds_nil))))))
  (qss_cons (qs_setLcD (i := 9) rfl sc_law_qwired.nd (blkOk_by (N := nm_law_qwired) (sc := defScope s_law_qwired) (own := [("_law_k", 13)]) (by decide +kernel)) (QI.w (qi_rng2 rfl T.b_range (qw_var (i := 3)) (qw_var (i := 6)))) (fun _ _ _ _ _ => (qg_name (i := 13) sc_law_qwired.nd)) (fun _ _ _ _ _ => (qts_one (qt_cmp u_gt (QD.toW (QN.toD (qn_bin u_mod (QD.toW (QN.toD (qn_bin u_div (QD.toW (qd_ixU (qw_var (i := 2)) (QD.toW (QN.toD (qn_bin u_mod (QD.toW (QN.toD (qn_bin u_add (qw_var (i := 6)) (qw_var (i := 13))))) (QD.toW qd_int)))))) (QD.toW qd_int)))) (QD.toW qd_int)))) (QD.toW qd_int)))) (fun _ _ _ _ _ => (qd_var (i := 13))))
  (qss_cons (qs_set (i := 10) sc_law_qwired.nd (QD.toE (QN.toD (qn_bin u_mod (qw_var (i := 7)) (QD.toW qd_int)))))
  (qss_cons (qs_if (qt_w (qtw_and (qt_cmp u_lt (qw_var (i := 6)) (qw_var (i := 3))) (qtw_and1 (qt_cmp (u_eq hr.units) (QD.toW (qd_ixU (QD.toW (qd_ixU (QD.toW (qd_ixU (qw_var (i := 0)) (QD.toW qd_int))) (qw_var (i := 6)))) (QD.toW qd_int))) (QD.toW qd_str))))) (qss_cons (qs_append (i := 5) (QD.toE qd_non))
  qss_nil) (qss_cons (qs_if (qt_w (qtw_and (qt_cmp u_lt (qw_var (i := 6)) (qw_var (i := 3))) (qtw_and (qt_cmp u_lt (qw_var (i := 10)) (QD.toW qd_int)) (qtw_and1 (qt_cmp u_gt (qw_var (i := 4)) (QD.toW qd_int)))))) (qss_cons (qs_set (i := 11) sc_law_qwired.nd (QD.toE (QN.toD (qn_bin u_mod (QD.toW (QN.toD (qn_bin u_div (qw_var (i := 7)) (QD.toW qd_int)))) (qw_var (i := 4))))))
  (qss_cons (qs_set (i := 12) sc_law_qwired.nd (QD.toE (QN.toD (qn_bin u_mod (QD.toW (QN.toD (qn_bin u_add (QD.toW (QN.toD (qn_bin u_add (qw_var (i := 11)) (QD.toW qd_int)))) (QD.toW (QN.toD (qn_bin u_mod (QD.toW (QN.toD (qn_bin u_div (qw_var (i := 7)) (QD.toW qd_int)))) (QD.toW (QN.toD (qn_bin u_sub (qw_var (i := 4)) (QD.toW qd_int)))))))))) (qw_var (i := 4))))))
  (qss_cons (qs_append (i := 5) (QD.toE (qd_tup (qds_cons qd_str (qds_cons (QN.toD (qn_bin u_add (qw_var (i := 3)) (qw_var (i := 11)))) (qds_cons (QN.toD (qn_bin u_add (qw_var (i := 3)) (qw_var (i := 12)))) qds_nil))))))
  qss_nil))) (qss_cons (qs_if (qt_w (qtw_and (qt_cmp u_lt (qw_var (i := 6)) (qw_var (i := 3))) (qtw_and1 (qt_cmp (u_eq hr.units) (qw_var (i := 10)) (QD.toW qd_int))))) (qss_cons (qs_append (i := 5) (QD.toE (qd_tup (qds_cons qd_str (qds_cons (qd_tup (qds_cons (qd_var (i := 8)) qds_nil)) (qds_cons (qd_tup qds_nil) qds_nil))))))
  qss_nil) (qss_cons (qs_if (qt_cmp u_lt (qw_var (i := 6)) (qw_var (i := 3))) (qss_cons (qs_append (i := 5) (QD.toE (qd_tup (qds_cons qd_str (qds_cons (qd_tup (qds_cons (qd_var (i := 8)) qds_nil)) qds_nil)))))
  qss_nil) (qss_cons (qs_if (qt_w (qtw_or (qt_cmp (u_eq hr.units) (qw_var (i := 6)) (qw_var (i := 3))) (qtw_or1 (qt_cmp (u_eq hr.units) (qw_var (i := 10)) (QD.toW qd_int))))) (qss_cons (qs_append (i := 5) (QD.toE (qd_tup (qds_cons qd_str (qds_cons (qd_var (i := 8)) qds_nil)))))
  qss_nil) (qss_cons (qs_if (qt_cmp u_lt (qw_var (i := 10)) (QD.toW qd_int)) (qss_cons (qs_append (i := 5) (QD.toE (qd_tup (qds_cons qd_str (qds_cons (qd_tup (qds_cons (QN.toD (qn_bin u_add (qw_var (i := 3)) (QD.toW (QN.toD (qn_bin u_mod (QD.toW (QN.toD (qn_bin u_div (qw_var (i := 7)) (QD.toW qd_int)))) (QD.toW (QN.toD (qn_bin u_sub (qw_var (i := 6)) (qw_var (i := 3)))))))))) qds_nil)) qds_nil)))))
  qss_nil) (qss_cons (qs_append (i := 5) (QD.toE (qd_tup (qds_cons (qd_ixU (QD.toW (QN.toD (qn_lst (qds_cons qd_str (qds_cons qd_str qds_nil))))) (QD.toW (QN.toD (qn_bin u_mod (qw_var (i := 10)) (QD.toW qd_int))))) (qds_cons (QN.toD (qn_callTy u_tuple rfl T.b_tuple bt_tuple (qws_cons (qw_var (i := 9)) qws_nil))) qds_nil)))))
  qss_nil))
  qss_nil))
  qss_nil))
  qss_nil))
  qss_nil))
  qss_nil))
  qss_nil))))))
  (qss_cons (qs_ret (qe_mv (i := 5)))
  qss_nil))))))

abbrev nm_law_qsource : List Str := ["_law_gates", "_law_wire", "_law_k"]
theorem sc_law_qsource : FnScope nm_law_qsource ["_law_gates", "_law_wire"] (defScope s_law_qsource) := ⟨rfl, rfl, rfl, by decide +kernel, rfl, by decide +kernel, by decide +kernel⟩

theorem ok_law_qsource {P : Program} {w : World} {K : PySem.W.Frag} {mg : Str → Option Value} {base : Heap} (T : Facts K mg base) : QFn P w K mg base "_law_qsource" 1 2 sem_law_qsource :=
  qfnD (N := nm_law_qsource) (π := [false, false]) T.f_law_qsource sc_law_qsource rfl fun f cdv A outer s H E hr =>
  (qss_cons (qs_for PassesOwn.never rfl (qi_rng1 rfl T.b_range (QD.toW (QN.toD (qn_callB u_len rfl T.b_len bt_len (qws_cons (qw_var (i := 0)) qws_nil))))) (qg_name (i := 2) sc_law_qsource.nd) (qss_cons (qs_if (qt_w (qtw_and (qt_cmp (u_eq hr.units) (QD.toW (qd_ixU (QD.toW (qd_ixU (qw_var (i := 0)) (qw_var (i := 1)))) (QD.toW qd_int))) (QD.toW qd_str)) (qtw_and1 (qt_cmp (u_eq hr.units) (QD.toW (QN.toD (qn_callB u_len rfl T.b_len bt_len (qws_cons (QD.toW (qd_ixU (QD.toW (qd_ixU (qw_var (i := 0)) (qw_var (i := 1)))) (QD.toW qd_int))) qws_nil)))) (QD.toW qd_int))))) (qss_cons (qs_set (i := 1) sc_law_qsource.nd (QD.toE (qd_ixU (QD.toW (qd_ixU (QD.toW (qd_ixU (qw_var (i := 0)) (qw_var (i := 1)))) (QD.toW qd_int))) (QD.toW qd_int))))
  qss_nil) qss_nil)
  qss_nil))
  (qss_cons (qs_ret (QD.toE (qd_var (i := 1))))
  qss_nil))

abbrev nm_law_qreads : List Str := ["_law_gate"]
theorem sc_law_qreads : FnScope nm_law_qreads ["_law_gate"] (defScope s_law_qreads) := ⟨rfl, rfl, rfl, by decide +kernel, rfl, by decide +kernel, by decide +kernel⟩

theorem ok_law_qreads {P : Program} {w : World} {K : PySem.W.Frag} {mg : Str → Option Value} {base : Heap} (T : Facts K mg base) : QFn P w K mg base "_law_qreads" 1 1 sem_law_qreads :=
  qfnD (N := nm_law_qreads) (π := [false]) T.f_law_qreads sc_law_qreads rfl fun f cdv A outer s H E hr =>
  (qss_cons (qs_if (qt_w (qtw_or (qt_cmp u_is (qw_var (i := 0)) (QD.toW qd_non)) (qtw_or1 (qt_cmp u_in (QD.toW (qd_ixU (qw_var (i := 0)) (QD.toW qd_int))) (QD.toW (qd_tup (qds_cons qd_str (qds_cons qd_str (qds_cons qd_str qds_nil))))))))) (qss_cons (qs_ret (QN.toE (qn_lst qds_nil)))
  qss_nil) qss_nil)
  (qss_cons (qs_if (qt_cmp (u_eq hr.units) (QD.toW (qd_ixU (qw_var (i := 0)) (QD.toW qd_int))) (QD.toW qd_str)) (qss_cons (qs_ret (QN.toE (qn_lst (qds_cons (qd_ixU (qw_var (i := 0)) (QD.toW qd_int)) (qds_cons (qd_ixU (qw_var (i := 0)) (QD.toW qd_int)) qds_nil)))))
  qss_nil) qss_nil)
  (qss_cons (qs_ret (QN.toE (qn_callTy u_list rfl T.b_list bt_list (qws_cons (QD.toW (qd_ixU (qw_var (i := 0)) (QD.toW qd_int))) qws_nil))))
  qss_nil)))

abbrev nm_law_qneeded : List Str := ["_law_gates", "_law_width", "_law_found", "_law_wire", "_law_k"]
theorem sc_law_qneeded : FnScope nm_law_qneeded ["_law_gates", "_law_width"] (defScope s_law_qneeded) := ⟨rfl, rfl, rfl, by decide +kernel, rfl, by decide +kernel, by decide +kernel⟩

theorem ok_law_qneeded {P : Program} {w : World} {K : PySem.W.Frag} {mg : Str → Option Value} {base : Heap} (T : Facts K mg base) : QFn P w K mg base "_law_qneeded" 2 2 sem_law_qneeded :=
  qfnD (N := nm_law_qneeded) (π := [false, false]) T.f_law_qneeded sc_law_qneeded rfl fun f cdv A outer s H E hr =>
  (qss_cons (qs_set (i := 2) sc_law_qneeded.nd (QD.toE (QN.toD (qn_lst qds_nil))))
  (qss_cons (qs_for PassesOwn.never rfl (qi_rng1 rfl T.b_range (qw_var (i := 1))) (qg_name (i := 3) sc_law_qneeded.nd) (qss_cons (qs_set (i := 2) sc_law_qneeded.nd (QD.toE (QN.toD (qn_bin u_add (qw_var (i := 2)) (QD.toW (QN.toD (qn_call (ok_law_qreads (P := P) (w := w) (base := base) T) (hr.mono (by decide)) rfl rfl (qds_cons (qd_ixU (qw_var (i := 0)) (qw_var (i := 3))) qds_nil))))))))
  qss_nil))
  (qss_cons (qs_for PassesOwn.never rfl (qi_rng1 rfl T.b_range (QD.toW (QN.toD (qn_callB u_len rfl T.b_len bt_len (qws_cons (qw_var (i := 0)) qws_nil))))) (qg_name (i := 4) sc_law_qneeded.nd) (qss_cons (qs_set (i := 3) sc_law_qneeded.nd (QD.toE (QN.toD (qn_bin u_sub (QD.toW (QN.toD (qn_bin u_sub (QD.toW (QN.toD (qn_callB u_len rfl T.b_len bt_len (qws_cons (qw_var (i := 0)) qws_nil)))) (QD.toW qd_int)))) (qw_var (i := 4))))))
  (qss_cons (qs_if (qt_w (qtw_and (qt_cmp u_ge (qw_var (i := 3)) (qw_var (i := 1))) (qtw_and1 (qt_cmp u_in (qw_var (i := 3)) (qw_var (i := 2)))))) (qss_cons (qs_set (i := 2) sc_law_qneeded.nd (QD.toE (QN.toD (qn_bin u_add (qw_var (i := 2)) (QD.toW (QN.toD (qn_call (ok_law_qreads (P := P) (w := w) (base := base) T) (hr.mono (by decide)) rfl rfl (qds_cons (qd_ixU (qw_var (i := 0)) (qw_var (i := 3))) qds_nil))))))))
  qss_nil) qss_nil)
  qss_nil)))
  (qss_cons (qs_ret (QN.toE (qn_lc rfl sc_law_qneeded.nd (blkOk_by (N := nm_law_qneeded) (sc := defScope s_law_qneeded) (own := [("_law_wire", 3)]) (by decide +kernel)) (QI.w (qi_rng2 rfl T.b_range (qw_var (i := 1)) (QD.toW (QN.toD (qn_callB u_len rfl T.b_len bt_len (qws_cons (qw_var (i := 0)) qws_nil)))))) (fun _ _ _ _ _ => (qg_name (i := 3) sc_law_qneeded.nd)) (fun _ _ _ _ _ => (qts_one (qt_cmp u_in (qw_var (i := 3)) (qw_var (i := 2))))) (fun _ _ _ _ _ => (qd_var (i := 3))))))
  qss_nil))))

abbrev nm_law_qtidied : List Str := ["_law_gates", "_law_width", "_law_rows", "_law_gate", "_law_wires", "_law_wire", "_law_ends", "_law_kept", "_law_result", "_law_k"]
theorem sc_law_qtidied : FnScope nm_law_qtidied ["_law_gates", "_law_width"] (defScope s_law_qtidied) := ⟨rfl, rfl, rfl, by decide +kernel, rfl, by decide +kernel, by decide +kernel⟩

theorem ok_law_qtidied {P : Program} {w : World} {K : PySem.W.Frag} {mg : Str → Option Value} {base : Heap} (T : Facts K mg base) : QFn P w K mg base "_law_qtidied" 3 2 sem_law_qtidied :=
  qfnD (N := nm_law_qtidied) (π := [false, false]) T.f_law_qtidied sc_law_qtidied rfl fun f cdv A outer s H E hr =>
  (qss_cons (qs_set (i := 2) sc_law_qtidied.nd (QN.toE (qn_lst qds_nil)))
  (qss_cons (qs_for PassesOwn.never rfl (qi_u (qd_var (i := 0))) (qg_name (i := 3) sc_law_qtidied.nd) (qss_cons (qs_if (qt_w (qtw_and (qt_cmp u_isnot (qw_var (i := 3)) (QD.toW qd_non)) (qtw_and1 (qt_w (qtw_or (qt_cmp (u_eq hr.units) (QD.toW (qd_ixU (qw_var (i := 3)) (QD.toW qd_int))) (QD.toW qd_str)) (qtw_or1 (qt_w (qtw_and (qt_cmp (u_eq hr.units) (QD.toW (qd_ixU (qw_var (i := 3)) (QD.toW qd_int))) (QD.toW qd_str)) (qtw_and1 (qt_cmp u_gt (QD.toW (QN.toD (qn_callB u_len rfl T.b_len bt_len (qws_cons (QD.toW (qd_ixU (qw_var (i := 3)) (QD.toW qd_int))) qws_nil)))) (QD.toW qd_int))))))))))) (qss_cons (qs_set (i := 4) sc_law_qtidied.nd (QN.toE (qn_lst qds_nil)))
  (qss_cons (qs_for PassesOwn.never rfl (qi_u (qd_ixU (qw_var (i := 3)) (QD.toW qd_int))) (qg_name (i := 5) sc_law_qtidied.nd) (qss_cons (qs_if (qt_cmp u_nin (QD.toW (QN.toD (qn_call (ok_law_qsource (P := P) (w := w) (base := base) T) (hr.mono (by decide)) rfl rfl (qds_cons (qd_var (i := 0)) (qds_cons (qd_var (i := 5)) qds_nil))))) (qw_var (i := 4))) (qss_cons (qs_append (i := 4) (QD.toE (QN.toD (qn_call (ok_law_qsource (P := P) (w := w) (base := base) T) (hr.mono (by decide)) rfl rfl (qds_cons (qd_var (i := 0)) (qds_cons (qd_var (i := 5)) qds_nil))))))
  qss_nil) qss_nil)
  qss_nil))
  (qss_cons (qs_set (i := 3) sc_law_qtidied.nd (QD.toE (qd_tup (qds_cons (qd_ixU (qw_var (i := 3)) (QD.toW qd_int)) (qds_cons (QN.toD (qn_callTy u_tuple rfl T.b_tuple bt_tuple (qws_cons (QD.toW (QN.toD (qn_callB u_sorted rfl T.b_sorted bt_sorted (qws_cons (qw_var (i := 4)) qws_nil)))) qws_nil))) qds_nil)))))
  qss_nil))) (qss_cons (qs_if (qt_w (qtw_and (qt_cmp u_isnot (qw_var (i := 3)) (QD.toW qd_non)) (qtw_and1 (qt_cmp (u_eq hr.units) (QD.toW (qd_ixU (qw_var (i := 3)) (QD.toW qd_int))) (QD.toW qd_str))))) (qss_cons (qs_set (i := 6) sc_law_qtidied.nd (QD.toE (qd_tup (qds_cons (QN.toD (qn_call (ok_law_qsource (P := P) (w := w) (base := base) T) (hr.mono (by decide)) rfl rfl (qds_cons (qd_var (i := 0)) (qds_cons (qd_ixU (qw_var (i := 3)) (QD.toW qd_int)) qds_nil)))) (qds_cons (QN.toD (qn_call (ok_law_qsource (P := P) (w := w) (base := base) T) (hr.mono (by decide)) rfl rfl (qds_cons (qd_var (i := 0)) (qds_cons (qd_ixU (qw_var (i := 3)) (QD.toW qd_int)) qds_nil)))) qds_nil)))))
  (qss_cons (qs_if (qt_cmp (u_ne hr.units) (QD.toW (qd_ixU (qw_var (i := 6)) (QD.toW qd_int))) (QD.toW (qd_ixU (qw_var (i := 6)) (QD.toW qd_int)))) (qss_cons (qs_set (i := 3) sc_law_qtidied.nd (QD.toE (qd_tup (qds_cons qd_str (qds_cons (qd_ixU (qw_var (i := 6)) (QD.toW qd_int)) (qds_cons (qd_ixU (qw_var (i := 6)) (QD.toW qd_int)) qds_nil))))))
  qss_nil) qss_nil)
  qss_nil)) qss_nil)
  qss_nil))
  (qss_cons (qs_append (i := 2) (QD.toE (qd_var (i := 3))))
  qss_nil)))
  (qss_cons (qs_frz (qs_set (i := 7) sc_law_qtidied.nd (QD.toE (QN.toD (qn_bin u_add (QD.toW (QN.toD (qn_listR1 rfl rfl T.b_list rfl T.b_range (qw_var (i := 1))))) (QD.toW (QN.toD (qn_call (ok_law_qneeded (P := P) (w := w) (base := base) T) (hr.mono (by decide)) rfl rfl (qds_cons (qd_var (i := 2)) (qds_cons (qd_var (i := 1)) qds_nil))))))))))
  (qss_cons (qs_set (i := 8) sc_law_qtidied.nd (QN.toE (qn_lst qds_nil)))
  (qss_cons (qs_for PassesOwn.never rfl (qi_u (qd_var (i := 7))) (qg_name (i := 5) sc_law_qtidied.nd) (qss_cons (qs_set (i := 3) sc_law_qtidied.nd (QD.toE (qd_ixU (qw_var (i := 2)) (qw_var (i := 5)))))
  (qss_cons (qs_if (qt_w (qtw_and (qt_cmp u_isnot (qw_var (i := 3)) (QD.toW qd_non)) (qtw_and1 (qt_cmp (u_eq hr.units) (QD.toW (qd_ixU (qw_var (i := 3)) (QD.toW qd_int))) (QD.toW qd_str))))) (qss_cons (qs_set (i := 3) sc_law_qtidied.nd (QD.toE (qd_tup (qds_cons qd_str (qds_cons (qd_index (qw_var (i := 7)) (QD.toW (qd_ixU (qw_var (i := 3)) (QD.toW qd_int)))) (qds_cons (qd_index (qw_var (i := 7)) (QD.toW (qd_ixU (qw_var (i := 3)) (QD.toW qd_int)))) qds_nil))))))
  qss_nil) (qss_cons (qs_if (qt_w (qtw_and (qt_cmp u_isnot (qw_var (i := 3)) (QD.toW qd_non)) (qtw_and1 (qt_w (qtw_or (qt_cmp (u_eq hr.units) (QD.toW (qd_ixU (qw_var (i := 3)) (QD.toW qd_int))) (QD.toW qd_str)) (qtw_or1 (qt_cmp (u_eq hr.units) (QD.toW (qd_ixU (qw_var (i := 3)) (QD.toW qd_int))) (QD.toW qd_str)))))))) (qss_cons (qs_set (i := 3) sc_law_qtidied.nd (QD.toE (qd_tup (qds_cons (qd_ixU (qw_var (i := 3)) (QD.toW qd_int)) (qds_cons (QN.toD (qn_callTy u_tuple rfl T.b_tuple bt_tuple (qws_cons (QD.toW (QN.toD (qn_lc rfl sc_law_qtidied.nd (blkOk_by (N := nm_law_qtidied) (sc := defScope s_law_qtidied) (own := [("_law_k", 9)]) (by decide +kernel)) (qiw_u (QD.toW (qd_ixU (qw_var (i := 3)) (QD.toW qd_int)))) (fun _ _ _ _ _ => (qg_name (i := 9) sc_law_qtidied.nd)) (fun _ _ _ _ _ => qts_nil) (fun _ _ _ _ _ => (qd_index (qw_var (i := 7)) (qw_var (i := 9))))))) qws_nil))) qds_nil)))))
  qss_nil) qss_nil)
  qss_nil))
  (qss_cons (qs_append (i := 8) (QD.toE (qd_var (i := 3))))
  qss_nil))))
  (qss_cons (qs_ret (qe_mv (i := 8)))
  qss_nil))))))

abbrev nm_law : List Str := ["_law_script", "_law_turn", "_law_world_here", "_law_gates", "_law_width", "_law_netlist_here", "_law_wire", "_law_again", "_law_actual"]
theorem sc_law : FnScope nm_law ["_law_script"] (defScope s_law) := ⟨rfl, rfl, rfl, by decide +kernel, rfl, by decide +kernel, by decide +kernel⟩

theorem ok_law {P : Program} {w : World} {K : PySem.W.Frag} {mg : Str → Option Value} {base : Heap} {f : Addr} {fd : FuncData} (T : Facts K mg base) (F : FnP K "law" s_law f fd) : FnOk P w K mg base CX0 9 f fd ["_law_script"] (spF ⟨K, mg⟩ 1 sem_law) :=
  fnokD (N := nm_law) (π := [false]) F sc_law rfl fun cdv A outer s H E hr =>
  (qss_cons (qs_for PassesOwn.never rfl (qi_rng1 rfl T.b_range (QD.toW qd_int)) (qg_name (i := 1) sc_law.nd) (qss_cons (qs_set (i := 2) sc_law.nd (QD.toE (QN.toD (qn_call (ok_law_world (P := P) (w := w) (base := base) T) (hr.mono (by decide)) rfl rfl (qds_cons (QN.toD (qn_call (ok_law_cell (P := P) (w := w) (base := base) T) (hr.mono (by decide)) rfl rfl (qds_cons (qd_var (i := 0)) (qds_cons (QN.toD (qn_bin u_mul (QD.toW qd_int) (qw_var (i := 1)))) qds_nil)))) qds_nil)))))
  (qss_cons (qs_set (i := 3) sc_law.nd (QD.toE (QN.toD (qn_call (ok_law_qwired (P := P) (w := w) (base := base) T) (hr.mono (by decide)) rfl rfl (qds_cons (qd_var (i := 2)) (qds_cons (QN.toD (qn_call (ok_law_cell (P := P) (w := w) (base := base) T) (hr.mono (by decide)) rfl rfl (qds_cons (qd_var (i := 0)) (qds_cons (QN.toD (qn_bin u_add (QD.toW (QN.toD (qn_bin u_mul (QD.toW qd_int) (qw_var (i := 1))))) (QD.toW qd_int))) qds_nil)))) qds_nil))))))
  (qss_cons (qs_set (i := 4) sc_law.nd (QD.toE (QN.toD (qn_callB u_len rfl T.b_len bt_len (qws_cons (QD.toW (qd_ixU (qw_var (i := 2)) (QD.toW qd_int))) qws_nil)))))
  (qss_cons (qs_set (i := 5) sc_law.nd (QD.toE (QN.toD (qn_call (ok_law_netlist (P := P) (w := w) (base := base) T) (hr.mono (by decide)) rfl rfl (qds_cons (qd_var (i := 2)) (qds_cons (qd_var (i := 3)) qds_nil))))))
  (qss_cons (qs_for PassesOwn.never rfl (qi_rng2 rfl T.b_range (qw_var (i := 4)) (QD.toW (QN.toD (qn_callB u_len rfl T.b_len bt_len (qws_cons (qw_var (i := 3)) qws_nil))))) (qg_name (i := 6) sc_law.nd) (qss_cons (qs_if (qt_not (qt_tru (QD.toW (QN.toD (qn_call (ok_law_is_number (P := P) (w := w) (base := base) T) (hr.mono (by decide)) rfl rfl (qds_cons (QN.toD (qn_call (ok_source (P := P) (w := w) (base := base) T) (hr.mono (by decide)) rfl rfl (qds_cons (qd_var (i := 5)) (qds_cons (qd_var (i := 6)) qds_nil)))) (qds_cons (QN.toD (qn_call (ok_law_qsource (P := P) (w := w) (base := base) T) (hr.mono (by decide)) rfl rfl (qds_cons (qd_var (i := 3)) (qds_cons (qd_var (i := 6)) qds_nil)))) qds_nil))))))) (qss_cons (qs_ret (QD.toE qd_bl))
  qss_nil) qss_nil)
  qss_nil))
  (qss_cons (qs_for PassesOwn.never rfl (qi_rng1 rfl T.b_range (QD.toW qd_int)) (qg_name (i := 7) sc_law.nd) (qss_cons (qs_set (i := 8) sc_law.nd (QN.toE (qn_call (ok_needed (P := P) (w := w) (base := base) T) (hr.mono (by decide)) rfl rfl (qds_cons (qd_var (i := 5)) qds_nil))))
  (qss_cons (qs_if (qt_not (qt_tru (QD.toW (qd_callS (ok_law_is_list (P := P) (w := w) (base := base) T) (hr.mono (by decide)) rfl rfl (qvs_cons (qv_var (i := 8)) (qvs_cons (QW.toV (QD.toW (QN.toD (qn_call (ok_law_qneeded (P := P) (w := w) (base := base) T) (hr.mono (by decide)) rfl rfl (qds_cons (qd_var (i := 3)) (qds_cons (qd_var (i := 4)) qds_nil)))))) qvs_nil)))))) (qss_cons (qs_ret (QD.toE qd_bl))
  qss_nil) qss_nil)
  (qss_cons (qs_append (i := 8) (QD.toE qd_int))
  qss_nil))))
  (qss_cons (qs_if (qt_not (qt_tru (QD.toW (QN.toD (qn_call (ok_law_qsame_netlist (P := P) (w := w) (base := base) T) (hr.mono (by decide)) rfl rfl (qds_cons (QN.toD (qn_call (ok_tidied (P := P) (w := w) (base := base) T) (hr.mono (by decide)) rfl rfl (qds_cons (qd_var (i := 5)) qds_nil))) (qds_cons (qd_ixU (qw_var (i := 2)) (QD.toW qd_int)) (qds_cons (qd_ixU (qw_var (i := 2)) (QD.toW qd_int)) (qds_cons (QN.toD (qn_call (ok_law_qtidied (P := P) (w := w) (base := base) T) (hr.mono (by decide)) rfl rfl (qds_cons (qd_var (i := 3)) (qds_cons (qd_var (i := 4)) qds_nil)))) qds_nil))))))))) (qss_cons (qs_ret (QD.toE qd_bl))
  qss_nil) qss_nil)
  (qss_cons (qs_if (qt_not (qt_tru (QD.toW (QN.toD (qn_call (ok_law_qsame_netlist (P := P) (w := w) (base := base) T) (hr.mono (by decide)) rfl rfl (qds_cons (qd_var (i := 5)) (qds_cons (qd_ixU (qw_var (i := 2)) (QD.toW qd_int)) (qds_cons (qd_ixU (qw_var (i := 2)) (QD.toW qd_int)) (qds_cons (qd_var (i := 3)) qds_nil))))))))) (qss_cons (qs_ret (QD.toE qd_bl))
  qss_nil) qss_nil)
  qss_nil)))))))))
  (qss_cons (qs_ret (QD.toE qd_bl))
  qss_nil))
end W

namespace W
open PySem PySem.Spec PyProof.Rows L2 Q
/-! ### texts by their codes -/
abbrev S (l : List Nat) : Str := ⟨l.toArray⟩
theorem S_len {l : List Nat} : (S l).length = l.length := by show (l.toArray).size = _; simp
theorem S_app {l m : List Nat} : S l ++ S m = S (l ++ m) := by
  show (⟨l.toArray ++ m.toArray⟩ : Str) = ⟨(l ++ m).toArray⟩
  simp
theorem S_inj {l m : List Nat} : (S l = S m) ↔ l = m := by
  constructor
  · intro h; have := congrArg (fun s : Str => s.cps.toList) h; simpa using this
  · rintro rfl; rfl
def markL : List Nat := [98, 107, 109, 119, 48, 51, 53, 56]
def leadL : List Nat := [98, 107, 109, 119, 97, 99, 101, 103]
def lettersL : List Nat := [97, 98, 99, 100, 101, 102, 103, 104, 105, 106, 107, 108, 109, 110, 111, 112, 113, 114, 115, 116, 117, 118, 119, 120, 121, 122]
def tailL : List (List Nat) := [[], [55], [120, 48], [113, 49, 50], [97, 98], [122, 57, 122]]
theorem e_mark : ("bkmw0358" : Str) = S markL := by decide
theorem e_lead : ("bkmwaceg" : Str) = S leadL := by decide
theorem e_letters : ("abcdefghijklmnopqrstuvwxyz" : Str) = S lettersL := by decide
theorem e_t0 : ("" : Str) = S [] := by decide
theorem e_t1 : ("7" : Str) = S [55] := by decide
theorem e_t2 : ("x0" : Str) = S [120, 48] := by decide
theorem e_t3 : ("q12" : Str) = S [113, 49, 50] := by decide
theorem e_t4 : ("ab" : Str) = S [97, 98] := by decide
theorem e_t5 : ("z9z" : Str) = S [122, 57, 122] := by decide
theorem e_tails : [D.str "", D.str "7", D.str "x0", D.str "q12", D.str "ab", D.str "z9z"] = tailL.map fun l => D.str (S l) := by
  rw [e_t0, e_t1, e_t2, e_t3, e_t4, e_t5]; rfl
def markC (k : Nat) : Nat := markL.getD k 0
def leadC (k : Nat) : Nat := leadL.getD k 0
def letC (d : Int) : Nat := 97 + (d % 26).toNat
def tailC (d : Int) : List Nat := tailL.getD (d / 78 % 6).toNat []
/-- the k-th name by a draw -/
def nameL (d : Int) (k : Nat) : List Nat :=
  if d / 26 % 3 = 1 then letC d :: (tailC d ++ [markC k])
  else if d / 26 % 3 = 2 then leadC k :: letC d :: tailC d
  else letC d :: markC k :: tailC d
theorem at_mark {k : Nat} (h : k < 8) : markL[k]? = some (markC k) := by
  unfold markC; rw [List.getD_eq_getElem?_getD, List.getElem?_eq_getElem (by exact h)]; rfl
theorem at_lead {k : Nat} (h : k < 8) : leadL[k]? = some (leadC k) := by
  unfold leadC; rw [List.getD_eq_getElem?_getD, List.getElem?_eq_getElem (by exact h)]; rfl
theorem at_letter (d : Int) : lettersL[(d % 26).toNat]? = some (letC d) := by
  have h : (d % 26).toNat < 26 := by omega
  unfold letC
  have : ∀ n < 26, lettersL[n]? = some (97 + n) := by decide
  exact this _ h
theorem at_tail (d : Int) : atI (tailL.map fun l => D.str (S l)) (d / 78 % 6) = some (.str (S (tailC d))) := by
  have h0 : 0 ≤ d / 78 % 6 := Int.emod_nonneg _ (by decide)
  have h1 : (d / 78 % 6).toNat < 6 := by omega
  rw [atI_nonneg h0, List.getElem?_map]
  unfold tailC
  rw [List.getD_eq_getElem?_getD, List.getElem?_eq_getElem (by exact h1)]; rfl
theorem tailC_len (d : Int) : (tailC d).length ≤ 3 := by
  have h1 : (d / 78 % 6).toNat < 6 := by omega
  have : ∀ n < 6, (tailL.getD n []).length ≤ 3 := by decide
  exact this _ h1
theorem nameL_len (d : Int) (k : Nat) : (nameL d k).length ≤ 5 := by
  have := tailC_len d
  unfold nameL
  split
  · simp; omega
  · split <;> simp <;> omega
/-- names of one make -/
def Names (n : Nat) (ns : List (List Nat)) : Prop := ns.length = n ∧ ∃ (w : Int) (d : Nat → Int), ∀ k < n, ns[k]? = some (nameL (d k) k) ∧ d k / 26 % 3 = w
/-! ### draws -/
def Draws (n : Nat) (rows : List Int) : Prop := rows.length = n ∧ ∀ x ∈ rows, 0 ≤ x ∧ x < 4096
theorem Draws.get {n : Nat} {rows : List Int} (h : Draws n rows) {i : Nat} (hi : i < n) : ∃ x, rows[i]? = some x ∧ 0 ≤ x ∧ x < 4096 := by
  have hl : i < rows.length := by rw [h.1]; exact hi
  exact ⟨rows[i], List.getElem?_eq_getElem hl, h.2 _ (List.getElem_mem hl)⟩
/-- any place, by a remainder -/
theorem Draws.at {n : Nat} {rows : List Int} (h : Draws n rows) (hn : 0 < n) (z : Int) : ∃ x, atI (rows.map D.int) (z % (n : Int)) = some (.int x) ∧ 0 ≤ x ∧ x < 4096 := by
  have h0 : 0 ≤ z % (n : Int) := Int.emod_nonneg _ (by omega)
  have h1 : z % (n : Int) < n := Int.emod_lt_of_pos _ (by omega)
  obtain ⟨x, e, b⟩ := h.get (i := (z % (n : Int)).toNat) (by omega)
  exact ⟨x, by rw [atI_nonneg h0, List.getElem?_map, e]; rfl, b⟩
theorem atI_some {α : Type} {xs : List α} {i : Int} (h0 : 0 ≤ i) (h1 : i < xs.length) : ∃ x, atI xs i = some x ∧ x ∈ xs := by
  have : i.toNat < xs.length := by omega
  exact ⟨xs[i.toNat], by rw [atI_nonneg h0, List.getElem?_eq_getElem this], List.getElem_mem this⟩
theorem chr1 {c : Nat} : (⟨#[c]⟩ : Str) = S [c] := rfl
theorem sl8 {n : Nat} (h : n ≤ 16000000) : n ≤ sizeLine := Nat.le_trans h (by decide)
theorem sl8' {n : Nat} (h : n ≤ 16000000) : n < sizeLine := Nat.lt_of_le_of_lt h (by decide)
abbrev dI (rows : List Int) : D := .lst (rows.map D.int)
end W

namespace W
open PySem PySem.Spec PyProof.Rows L2 Q
/-! ### processes, plainly -/
inductive Kd where
  | seq | par | cho
  deriving DecidableEq
inductive Pr where
  | e (s v : Int) | n (k : Kd) (ps : List Pr)
def Kd.str : Kd → Str
  | .seq => "seq" | .par => "par" | .cho => "choice"
mutual
def encP : Pr → D
  | .e s v => .tup [.str "edge", .int s, .int v]
  | .n k ps => .tup [.str k.str, .tup (encPs ps)]
def encPs : List Pr → List D
  | [] => []
  | p :: ps => encP p :: encPs ps
end
theorem encPs_eq (ps : List Pr) : encPs ps = ps.map encP := by induction ps <;> simp_all [encPs]
mutual
def dep : Pr → Nat
  | .e _ _ => 1
  | .n _ ps => deps ps + 1
def deps : List Pr → Nat
  | [] => 0
  | p :: ps => max (dep p) (deps ps)
end
theorem dep_pos (p : Pr) : 1 ≤ dep p := by cases p <;> simp [dep]
theorem dep_mem {p : Pr} {ps : List Pr} (h : p ∈ ps) : dep p ≤ deps ps := by
  induction ps with
  | nil => cases h
  | cons q ps ih =>
    simp only [deps]
    rcases List.mem_cons.mp h with rfl | h
    · omega
    · have := ih h; omega
mutual
def wf : Pr → Prop
  | .e _ _ => True
  | .n _ ps => ps ≠ [] ∧ ps.length ≤ 100 ∧ wfs ps
def wfs : List Pr → Prop
  | [] => True
  | p :: ps => wf p ∧ wfs ps
end
theorem wf_mem {p : Pr} {ps : List Pr} (w : wfs ps) (h : p ∈ ps) : wf p := by
  induction ps with
  | nil => cases h
  | cons q ps ih =>
    simp only [wfs] at w
    rcases List.mem_cons.mp h with rfl | h
    · exact w.1
    · exact ih w.2 h
def oI : Option Int → D
  | none => .non
  | some i => .int i
def fit : Option Int → Option Int → Bool
  | none, _ => true
  | _, none => true
  | some a, some b => a == 1 && b == 1
mutual
def frontW : Pr → Option Int
  | .e _ _ => none
  | .n .par ps => some ps.length
  | .n .cho _ => some 1
  | .n .seq ps => frontWs ps
def frontWs : List Pr → Option Int
  | [] => none
  | p :: _ => frontW p
end
mutual
def backW : Pr → Option Int
  | .e _ _ => none
  | .n .par ps => some ps.length
  | .n .cho _ => some 1
  | .n .seq ps => backWs ps
def backWs : List Pr → Option Int
  | [] => none
  | [p] => backW p
  | _ :: ps => backWs ps
end
theorem backWs_eq {ps : List Pr} {p : Pr} (h : ps.getLast? = some p) : backWs ps = backW p := by
  induction ps with
  | nil => cases h
  | cons q ps ih =>
    cases ps with
    | nil => simp at h; subst h; rfl
    | cons r ps => simp only [backWs]; exact ih (by simpa [List.getLast?_cons_cons] using h)
def chain : List Pr → Bool
  | [] => true
  | [_] => true
  | p :: q :: r => fit (backW p) (frontW q) && chain (q :: r)
mutual
def conn : Pr → Bool
  | .e _ _ => true
  | .n .seq ps => conns ps && chain ps
  | .n _ ps => conns ps && ps.all fun p => fit (frontW p) (some 1) && fit (backW p) (some 1)
def conns : List Pr → Bool
  | [] => true
  | p :: ps => conn p && conns ps
end
def closed (p : Pr) : Bool := conn p && fit (backW p) (frontW p)
/-- well formed over n signals -/
def Kd.isSeq : Pr → Bool
  | .n .seq _ => true
  | _ => false
mutual
def ok (n : Nat) : Pr → Prop
  | .e s v => (0 ≤ s ∧ s < n) ∧ (v = 0 ∨ v = 1)
  | .n k ps => (2 ≤ ps.length ∧ ps.length ≤ 8) ∧ (k = .seq → ∀ p ∈ ps, Kd.isSeq p = false) ∧ oks n ps
def oks (n : Nat) : List Pr → Prop
  | [] => True
  | p :: ps => ok n p ∧ oks n ps
end
theorem oks_iff {n : Nat} {ps : List Pr} : oks n ps ↔ ∀ p ∈ ps, ok n p := by induction ps <;> simp_all [oks]
theorem deps_le {ps : List Pr} {m : Nat} : deps ps ≤ m ↔ ∀ p ∈ ps, dep p ≤ m := by
  induction ps with
  | nil => simp [deps]
  | cons p ps ih => simp only [deps, List.mem_cons, forall_eq_or_imp, ← ih]; omega
mutual
theorem ok_wf {n : Nat} : ∀ {p : Pr}, ok n p → wf p
  | .e _ _, _ => trivial
  | .n k ps, ⟨⟨h1, h2⟩, _, h3⟩ => ⟨fun z => by subst z; simp at h1, by omega, oks_wfs h3⟩
theorem oks_wfs {n : Nat} : ∀ {ps : List Pr}, oks n ps → wfs ps
  | [], _ => trivial
  | p :: ps, ⟨h1, h2⟩ => ⟨ok_wf h1, oks_wfs h2⟩
end
theorem s_e_e : (("edge" : Str) = "edge") = True := by simp
theorem s_s_e : (Kd.seq.str = "edge") = False := by decide
theorem s_p_e : (Kd.par.str = "edge") = False := by decide
theorem s_c_e : (Kd.cho.str = "edge") = False := by decide
theorem s_s_s : (Kd.seq.str = "seq") = True := by decide
theorem s_p_s : (Kd.par.str = "seq") = False := by decide
theorem s_c_s : (Kd.cho.str = "seq") = False := by decide
theorem s_s_p : (Kd.seq.str = "par") = False := by decide
theorem s_p_p : (Kd.par.str = "par") = True := by decide
theorem s_c_p : (Kd.cho.str = "par") = False := by decide
theorem s_s_c : (Kd.seq.str = "choice") = False := by decide
theorem s_p_c : (Kd.par.str = "choice") = False := by decide
theorem s_c_c : (Kd.cho.str = "choice") = True := by decide
end W

namespace W
open PySem PySem.Spec PyProof.Rows L2 Q
theorem last_of {ps : List Pr} (h : ps ≠ []) : ∃ q, ps.getLast? = some q ∧ q ∈ ps := ⟨ps.getLast h, List.getLast?_eq_some_getLast h, List.getLast_mem h⟩
theorem cutD_tail (ds : List D) (h : 1 ≤ ds.length) : Q.cutD ds (some 1) none = ds.drop 1 := by
  unfold Q.cutD
  have e1 : HT.sIx ds.length 0 (some 1) = 1 := by simp [HT.sIx]; omega
  have e2 : HT.sIx ds.length ds.length none = ds.length := by simp [HT.sIx]
  rw [e1, e2, List.take_of_length_le]; simp
theorem cutD_head (ds : List D) (h : 1 ≤ ds.length) : Q.cutD ds none (some 1) = ds.take 1 := by
  unfold Q.cutD
  have e1 : HT.sIx ds.length ds.length (some 1) = 1 := by simp [HT.sIx]; omega
  have e2 : HT.sIx ds.length 0 none = 0 := by simp [HT.sIx]
  rw [e1, e2]; simp
def kindW : List Str := ["input", "output", "output", "inner"]
/-- the signals of a program: names, kinds, digits of the start -/
structure Sigs (many : Nat) (ns : List (List Nat)) (ks : List Str) (st : List Nat) : Prop where
  pos : 0 < many
  le : many ≤ 4
  names : Names many ns
  kinds : ks.length = many ∧ ∀ k ∈ ks, k ∈ kindW
  start : st.length = many ∧ ∀ c ∈ st, c = 48 ∨ c = 49
def sigD (ns : List (List Nat)) (ks : List Str) : D := .lst ((ns.zip ks).map fun p => .tup [.str (S p.1), .str p.2])
theorem join_S (ls : List Nat) : Txt.join ("" : Str) (ls.map fun c => S [c]) = S ls := by
  show Builtin.Str.glued _ _ = _
  rw [PySem.StrLaws.glued_eq_join]
  have e0 : ("" : Str) = S [] := by decide
  rw [e0]
  induction ls with
  | nil => rfl
  | cons a ls ih =>
    cases ls with
    | nil => rfl
    | cons b ls =>
      have e : PySem.Str.join (S []) ((a :: b :: ls).map fun c => S [c]) = S [a] ++ S [] ++ PySem.Str.join (S []) ((b :: ls).map fun c => S [c]) := rfl
      rw [e, ih, S_app, S_app]; rfl
theorem joinD_S (ls : List Nat) (h : ls.length ≤ 1000) : joinD (.str "") (.lst (ls.map fun c => D.str (S [c]))) = some (.str (S ls)) := by
  have e1 : (ls.map fun c => D.str (S [c])) = (ls.map fun c => S [c]).map D.str := by simp
  have e : ((ls.map fun c => S [c]).map (·.length)).sum = ls.length := by
    clear h e1
    induction ls with
    | nil => rfl
    | cons x xs ih => simp only [List.map_cons, List.sum_cons, ih, S_len, List.length_cons, List.length_nil]; omega
  have e0 : ("" : Str).length = 0 := by decide
  rw [e1]
  simp only [joinD, dStrs_map, Option.bind_some, e, e0]
  rw [if_pos (by omega), join_S]
@[simp] theorem unT_lst {ts : List TgF} {ds : List D} {ρ : Ev} : unT ts (.lst ds) ρ = goT ts ds ρ := rfl
@[simp] theorem unT_tup {ts : List TgF} {ds : List D} {ρ : Ev} : unT ts (.tup ds) ρ = goT ts ds ρ := rfl
@[simp] theorem wp_goT_nil {ρ : Ev} {Q : Ev → Prop} : wp (goT [] [] ρ) Q ↔ Q ρ := by simp [goT]
@[simp] theorem wp_goT_cons {t : TgF} {ts : List TgF} {d : D} {ds : List D} {ρ : Ev} {Q : Ev → Prop} : wp (goT (t :: ts) (d :: ds) ρ) Q ↔ wp (t d ρ) fun ρ1 => wp (goT ts ds ρ1) Q := by simp [goT]
theorem rng_map (a : Int) (n : Nat) : rngD a n = (List.range n).map fun k => D.int (a + ((k : Nat) : Int)) := rfl
@[simp] theorem wp_frzS {i : Nat} {ex : SF} {ρ : Ev} {Q : Out × Ev → Prop} : wp (frzS i ex ρ) Q ↔ match ρ[i]?.join with
    | some o => wp (ex (ρ.set i (some (.fz o.fr)))) Q
    | none => wp (ex ρ) Q := by unfold frzS; cases ρ[i]?.join <;> rfl
end W

namespace W
open PySem PySem.Spec PyProof.Rows L2 Q
/-! ### membership -/
theorem inF_strs (x : Str) : ∀ ns : List Str, inF (.str x) (ns.map D.str) = some (decide (x ∈ ns))
  | [] => rfl
  | n :: ns => by
    have e : eqF (.str n) (.str x) = some (decide (n = x)) := by simp only [eqF]; by_cases h : n = x <;> simp [h]
    simp only [List.map_cons, inF, e, inF_strs x ns, Option.bind_some, Option.map_some]
    by_cases h : n = x
    · subst h; simp
    · have h2 : ¬ x = n := fun z => h z.symm
      simp [h, h2]
theorem inS_lst (x : Str) (ns : List Str) : inS (.str x) (.lst (ns.map D.str)) = some (decide (x ∈ ns)) := by
  simp only [inS, flatD, if_true, inO]; exact inF_strs x ns
theorem inS_tup (x : Str) (ns : List Str) : inS (.str x) (.tup (ns.map D.str)) = some (decide (x ∈ ns)) := by
  simp only [inS, flatD, if_true, inO]; exact inF_strs x ns
theorem inS_sign (c : Nat) (l : List Nat) : inS (.str (S [c])) (.str (S l)) = some (decide (c ∈ l)) := by
  simp only [inS, flatD, if_true, inO]
  rw [show (!(Builtin.Str.occurrences (S l) (S [c]) 0 (S l).length 1).isEmpty) = decide (c ∈ l) from StrLaws.found_one (S l) c]
theorem ninS_eq (d e : D) : ninS d e = (inS d e).map (! ·) := rfl
/-! ### names -/
def lettersOk (c : Nat) : Prop := c ∈ lettersL
def digitsL : List Nat := [48, 49, 50, 51, 52, 53, 54, 55, 56, 57]
theorem e_digits : ("0123456789" : Str) = S digitsL := by decide
theorem e_01 : ("01" : Str) = S [48, 49] := by decide
def goodC (c : Nat) : Bool := decide (c ∈ lettersL) || decide (c ∈ digitsL)
theorem good_let (d : Int) : letC d ∈ lettersL := by
  have h1 : (d % 26).toNat < 26 := by omega
  unfold letC
  have : ∀ n < 26, 97 + n ∈ lettersL := by decide
  exact this _ h1
theorem good_tail (d : Int) : ∀ c ∈ tailC d, goodC c = true := by
  have h1 : (d / 78 % 6).toNat < 6 := by omega
  have : ∀ n < 6, ∀ c ∈ tailL.getD n [], goodC c = true := by decide
  exact this _ h1
theorem good_mark {k : Nat} (h : k < 8) : goodC (markC k) = true := by
  have : ∀ n < 8, goodC (markC n) = true := by decide
  exact this _ h
theorem good_lead {k : Nat} (h : k < 8) : leadC k ∈ lettersL := by
  have : ∀ n < 8, leadC n ∈ lettersL := by decide
  exact this _ h
structure GoodN (l : List Nat) : Prop where
  len : 1 ≤ l.length ∧ l.length ≤ 12
  hd : ∀ c, l[0]? = some c → c ∈ lettersL
  all : ∀ c ∈ l, goodC c = true
theorem good_of_let {c : Nat} (h : c ∈ lettersL) : goodC c = true := by simp [goodC, h]
theorem good_name (d : Int) {k : Nat} (h : k < 8) : GoodN (nameL d k) := by
  have hl := nameL_len d k
  have g1 := good_of_let (good_let d)
  have g2 := good_tail d
  have g3 := good_mark h
  have g4 := good_of_let (good_lead h)
  unfold nameL at hl ⊢
  by_cases q1 : d / 26 % 3 = 1
  · rw [if_pos q1] at hl ⊢
    refine ⟨⟨by simp, by omega⟩, fun c e => ?_, fun c hc => ?_⟩
    · simp at e; subst e; exact good_let d
    · simp only [List.mem_cons, List.mem_append, List.not_mem_nil, or_false] at hc
      rcases hc with rfl | hc | rfl
      · exact g1
      · exact g2 c hc
      · exact g3
  · by_cases q2 : d / 26 % 3 = 2
    · rw [if_neg q1, if_pos q2] at hl ⊢
      refine ⟨⟨by simp, by omega⟩, fun c e => ?_, fun c hc => ?_⟩
      · simp at e; subst e; exact good_lead h
      · simp only [List.mem_cons] at hc
        rcases hc with rfl | rfl | hc
        · exact g4
        · exact g1
        · exact g2 c hc
    · rw [if_neg q1, if_neg q2] at hl ⊢
      refine ⟨⟨by simp, by omega⟩, fun c e => ?_, fun c hc => ?_⟩
      · simp at e; subst e; exact good_let d
      · simp only [List.mem_cons] at hc
        rcases hc with rfl | rfl | hc
        · exact g1
        · exact g3
        · exact g2 c hc
theorem mark_inj {i j : Nat} (hi : i < 8) (hj : j < 8) (h : markC i = markC j) : i = j := by
  have : ∀ i < 8, ∀ j < 8, markC i = markC j → i = j := by decide
  exact this i hi j hj h
theorem lead_inj {i j : Nat} (hi : i < 8) (hj : j < 8) (h : leadC i = leadC j) : i = j := by
  have : ∀ i < 8, ∀ j < 8, leadC i = leadC j → i = j := by decide
  exact this i hi j hj h
theorem name_inj {d e : Int} {i j : Nat} (hi : i < 8) (hj : j < 8) (w : d / 26 % 3 = e / 26 % 3) (h : nameL d i = nameL e j) : i = j := by
  unfold nameL at h
  rw [w] at h
  by_cases q1 : e / 26 % 3 = 1
  · rw [if_pos q1, if_pos q1] at h
    have h2 := congrArg List.getLast? h
    rw [← List.cons_append, ← List.cons_append, List.getLast?_append, List.getLast?_append] at h2
    simp only [List.getLast?_singleton, Option.some_or, Option.some.injEq] at h2
    exact mark_inj hi hj h2
  · by_cases q2 : e / 26 % 3 = 2
    · rw [if_neg q1, if_neg q1, if_pos q2, if_pos q2] at h
      exact lead_inj hi hj (List.cons.inj h).1
    · rw [if_neg q1, if_neg q1, if_neg q2, if_neg q2] at h
      exact mark_inj hi hj (List.cons.inj (List.cons.inj h).2).1
theorem Names.nodup {n : Nat} {ns : List (List Nat)} (h : Names n ns) (h8 : n ≤ 8) : ns.Nodup ∧ ∀ l ∈ ns, GoodN l := by
  obtain ⟨hl, w, d, k⟩ := h
  constructor
  · refine List.pairwise_iff_getElem.mpr fun i j hi hj hij e => ?_
    have e1 := (k i (by omega)).1
    have e2 := (k j (by omega)).1
    rw [List.getElem?_eq_getElem hi] at e1
    rw [List.getElem?_eq_getElem hj] at e2
    have := name_inj (by omega) (by omega) ((k i (by omega)).2.trans (k j (by omega)).2.symm) ((Option.some.inj e1).symm.trans (e.trans (Option.some.inj e2)))
    omega
  · intro l hm
    obtain ⟨i, hi, rfl⟩ := List.mem_iff_getElem.mp hm
    have e := (k i (by omega)).1
    rw [List.getElem?_eq_getElem hi] at e
    rw [Option.some.inj e]
    exact good_name _ (by omega)
end W

namespace W
open PySem PySem.Spec PyProof.Rows L2 Q
theorem dInts_map (is : List Int) : dInts (is.map D.int) = some is := by
  induction is with
  | nil => rfl
  | cons i is ih => simp [dInts, ih]
theorem maxL_deps (p : Pr) (ps : List Pr) : maxL ((p :: ps).map fun q => (dep q : Int)) = (deps (p :: ps) : Int) := by
  refine (maxL_spec (m := (deps (p :: ps) : Int)) ?_ ?_).symm
  · induction ps generalizing p with
    | nil => simp [deps]
    | cons q qs ih =>
      have h := ih q
      simp only [deps] at h ⊢
      rcases Nat.le_total (dep p) (max (dep q) (deps qs)) with z | z
      · have e : max (dep p) (max (dep q) (deps qs)) = max (dep q) (deps qs) := by omega
        rw [e]
        exact List.mem_cons_of_mem _ h
      · have e : max (dep p) (max (dep q) (deps qs)) = dep p := by omega
        rw [e]; simp
  · intro i hi
    obtain ⟨q, hq, rfl⟩ := List.mem_map.mp hi
    have := dep_mem hq
    omega
theorem maxC_deps {ps : List Pr} (h : ps ≠ []) : maxC [.lst (ps.map fun q => .int (dep q))] = some (.fz (.int (deps ps))) := by
  cases ps with
  | nil => exact absurd rfl h
  | cons p ps =>
    have e : ((p :: ps).map fun q => D.int (dep q)) = ((p :: ps).map fun q => (dep q : Int)).map D.int := by simp
    simp only [maxC, e, dInts_map, Option.bind_some]
    rw [if_pos (by simp), maxL_deps]
def kindT : List Str := ["input", "output", "inner"]
theorem kind_in {k : Str} (h : k ∈ kindW) : k ∈ kindT := by
  simp only [kindW, kindT, List.mem_cons, List.not_mem_nil, or_false] at h ⊢
  rcases h with h | h | h | h <;> simp [h]
theorem inS_kind {k : Str} (h : k ∈ kindW) : inS (.str k) (.tup [.str "input", .str "output", .str "inner"]) = some true := by
  have := inS_tup k kindT
  simp only [kind_in h, decide_true] at this
  exact this
@[simp] theorem ofString_inj {a b : String} : (Str.ofString a = Str.ofString b) ↔ a = b := by
  constructor
  · intro h
    rw [Str.ofString_eq_toList, Str.ofString_eq_toList] at h
    have h2 : a.toList.map Char.toNat = b.toList.map Char.toNat := by
      have := congrArg (fun s : Str => s.cps.toList) h
      simpa using this
    refine String.toList_inj.mp ((List.map_inj_right fun x y q => ?_).mp h2)
    exact Char.toNat_inj.mp q
  · rintro rfl; rfl
end W

namespace W
open PySem PySem.Spec PyProof.Rows L2 Q
theorem eqB_pair (a b : Int) : eqB (.tup [.int a, .int b]) (.tup [.int a, .int b]) = some true := by
  simp [eqB, Q.scalD, toPy, toPys, SeqAt.shaped, PyData.eqv]
  refine ⟨⟨rfl, Nat.le_of_ble_eq_true rfl⟩, ?_⟩
  simp [PyData.eqvAll, PyData.eqv]
/-! ### steps of processes, plainly -/
abbrev Stp := (Int × Int) × Option Pr
def oP : Option Pr → D
  | none => .non
  | some p => encP p
def encS (t : Stp) : D := .tup [.tup [.int t.1.1, .int t.1.2], oP t.2]
def one (k : Kd) (ps : List Pr) : Pr := match ps with
  | [p] => p
  | ps => .n k ps
def joinL : Option Pr → List Pr → List Pr
  | none, rest => rest
  | some (.n .seq qs), rest => qs ++ rest
  | some p, rest => p :: rest
def joinP (st : Option Pr) (rest : List Pr) : Pr := one .seq (joinL st rest)
def besideL (ps : List Pr) (k : Nat) (st : Option Pr) : List Pr := ps.take k ++ st.toList ++ ps.drop (k + 1)
def besideP (ps : List Pr) (k : Nat) (st : Option Pr) : Pr := one .par (besideL ps k st)
def stepsP : Nat → Pr → List Stp
  | 0, _ => []
  | j + 1, .e s v => [((s, v), none)]
  | j + 1, .n .seq [] => []
  | j + 1, .n .seq (p :: rest) => (stepsP j p).map fun t => (t.1, some (joinP t.2 rest))
  | j + 1, .n .par ps => (List.range ps.length).flatMap fun k => (ps[k]?.map fun p => (stepsP j p).map fun t => (t.1, some (besideP ps k t.2))).getD []
  | j + 1, .n .cho ps => (List.range ps.length).flatMap fun k => (ps[k]?.map fun p => stepsP j p).getD []
mutual
def sz : Pr → Nat
  | .e _ _ => 1
  | .n _ ps => szs ps + 1
def szs : List Pr → Nat
  | [] => 0
  | p :: ps => sz p + szs ps
end
mutual
def nf : Pr → Prop
  | .e _ _ => True
  | .n _ ps => 2 ≤ ps.length ∧ nfs ps
def nfs : List Pr → Prop
  | [] => True
  | p :: ps => nf p ∧ nfs ps
end
theorem nfs_iff {ps : List Pr} : nfs ps ↔ ∀ p ∈ ps, nf p := by induction ps <;> simp_all [nfs]
theorem sz_pos (p : Pr) : 1 ≤ sz p := by cases p <;> simp [sz]
theorem szs_append (ps qs : List Pr) : szs (ps ++ qs) = szs ps + szs qs := by induction ps <;> simp_all [szs]; omega
theorem szs_len (ps : List Pr) : ps.length ≤ szs ps := by
  induction ps with
  | nil => simp
  | cons p ps ih => have := sz_pos p; simp [szs]; omega
theorem deps_append (ps qs : List Pr) : deps (ps ++ qs) = max (deps ps) (deps qs) := by induction ps <;> simp_all [deps]
/-- a state is no bigger than what it came from -/
structure Le (q p : Pr) : Prop where
  nf : nf q
  sz : sz q ≤ sz p
  dep : dep q ≤ dep p
theorem one_le {k : Kd} {ps : List Pr} (h : 1 ≤ ps.length) (hn : nfs ps) : nf (one k ps) ∧ sz (one k ps) ≤ szs ps + 1 ∧ dep (one k ps) ≤ deps ps + 1 := by
  unfold one
  split
  · rename_i p
    simp only [nfs] at hn
    simp only [szs, deps]
    exact ⟨hn.1, by omega, by omega⟩
  · rename_i hne
    have h2 : 2 ≤ ps.length := by
      match ps, h, hne with
      | [p], _, hne => exact absurd rfl (hne p)
      | _ :: _ :: _, _, _ => simp
    exact ⟨⟨h2, hn⟩, Nat.le_refl _, Nat.le_refl _⟩
theorem take_drop_at {ps : List Pr} {k : Nat} {p : Pr} (h : ps[k]? = some p) : ps = ps.take k ++ p :: ps.drop (k + 1) := by
  have hk : k < ps.length := (List.getElem?_eq_some_iff.mp h).1
  have e := List.drop_eq_getElem_cons hk
  rw [List.getElem?_eq_getElem hk] at h
  rw [← Option.some.inj h, ← e, List.take_append_drop]
theorem steps_le : ∀ (j : Nat) (p : Pr), nf p → ∀ t ∈ stepsP j p, ∀ q, t.2 = some q → Le q p
  | 0, p, _, t, h, q, e => by simp [stepsP] at h
  | j + 1, .e s v, _, t, h, q, e => by simp [stepsP] at h; subst h; cases e
  | j + 1, .n .seq [], _, t, h, q, e => by simp [stepsP] at h
  | j + 1, .n .seq (p :: rest), hn, t, h, q, e => by
    simp only [stepsP, List.mem_map] at h
    obtain ⟨u, hu, rfl⟩ := h
    cases e
    obtain ⟨h1, hn⟩ := hn
    simp only [nfs] at hn
    have hr : 1 ≤ rest.length := by simpa using h1
    unfold joinP
    cases hst : u.2 with
    | none =>
      obtain ⟨a, b, c⟩ := one_le (k := .seq) (ps := rest) hr hn.2
      refine ⟨a, ?_, ?_⟩
      · simp only [joinL, sz, szs]; omega
      · simp only [joinL, dep, deps]; omega
    | some w =>
      have ih := steps_le j p hn.1 u hu w hst
      have key : 1 ≤ (joinL (some w) rest).length ∧ nfs (joinL (some w) rest) ∧ szs (joinL (some w) rest) ≤ sz w + szs rest ∧ deps (joinL (some w) rest) ≤ max (dep w) (deps rest) := by
        have hw := ih.nf
        cases w with
        | e s v => refine ⟨by simp [joinL], ⟨trivial, hn.2⟩, by simp [joinL, szs, sz], by simp [joinL, deps, dep]⟩
        | n k qs =>
          cases k with
          | seq =>
            refine ⟨by simp [joinL]; omega, ?_, by simp [joinL, szs_append, sz], by simp only [joinL, deps_append, dep]; omega⟩
            simp only [joinL]
            exact nfs_iff.mpr fun p hp => (List.mem_append.mp hp).elim (nfs_iff.mp hw.2 p) (nfs_iff.mp hn.2 p)
          | par => exact ⟨by simp [joinL], ⟨hw, hn.2⟩, by simp [joinL, szs], by simp [joinL, deps]⟩
          | cho => exact ⟨by simp [joinL], ⟨hw, hn.2⟩, by simp [joinL, szs], by simp [joinL, deps]⟩
      obtain ⟨k1, k2, k3, k4⟩ := key
      obtain ⟨a, b, c⟩ := one_le (k := .seq) k1 k2
      have i2 := ih.sz
      have i3 := ih.dep
      refine ⟨a, ?_, ?_⟩
      · simp only [sz, szs]; omega
      · simp only [dep, deps]; omega
  | j + 1, .n .par ps, hn, t, h, q, e => by
    simp only [stepsP, List.mem_flatMap] at h
    obtain ⟨k, hk, h⟩ := h
    cases hp : ps[k]? with
    | none => rw [hp] at h; simp at h
    | some p =>
      rw [hp] at h
      simp only [Option.map_some, Option.getD_some, List.mem_map] at h
      obtain ⟨u, hu, rfl⟩ := h
      cases e
      obtain ⟨h1, hn⟩ := hn
      have hpm : p ∈ ps := List.mem_of_getElem? hp
      have ek := take_drop_at hp
      have hl : ps.length = (ps.take k).length + 1 + (ps.drop (k + 1)).length := by
        have := congrArg List.length ek
        simp only [List.length_append, List.length_cons] at this; omega
      have hs : szs ps = szs (ps.take k) + sz p + szs (ps.drop (k + 1)) := by
        have := congrArg szs ek
        rw [szs_append] at this; simp only [szs] at this; omega
      have hd : deps ps = max (deps (ps.take k)) (max (dep p) (deps (ps.drop (k + 1)))) := by
        have := congrArg deps ek
        rw [deps_append] at this; simpa only [deps] using this
      have n1 : ∀ q ∈ ps.take k, nf q := fun q hq => nfs_iff.mp hn q (List.mem_of_mem_take hq)
      have n2 : ∀ q ∈ ps.drop (k + 1), nf q := fun q hq => nfs_iff.mp hn q (List.mem_of_mem_drop hq)
      have key : 1 ≤ (besideL ps k u.2).length ∧ nfs (besideL ps k u.2) ∧ szs (besideL ps k u.2) ≤ szs ps ∧ deps (besideL ps k u.2) ≤ deps ps := by
        cases hst : u.2 with
        | none =>
          refine ⟨by simp only [besideL, Option.toList_none, List.append_nil, List.length_append]; omega, ?_, ?_, ?_⟩
          · simp only [besideL, Option.toList_none, List.append_nil]
            exact nfs_iff.mpr fun q hq => (List.mem_append.mp hq).elim (n1 q) (n2 q)
          · simp only [besideL, Option.toList_none, List.append_nil, szs_append]; omega
          · simp only [besideL, Option.toList_none, List.append_nil, deps_append]; omega
        | some w =>
          have ih := steps_le j p (nfs_iff.mp hn p hpm) u hu w hst
          have i2 := ih.sz
          have i3 := ih.dep
          refine ⟨by simp only [besideL, Option.toList_some, List.length_append, List.length_singleton]; omega, ?_, ?_, ?_⟩
          · simp only [besideL, Option.toList_some]
            refine nfs_iff.mpr fun q hq => ?_
            rcases List.mem_append.mp hq with z | z
            · rcases List.mem_append.mp z with z | z
              · exact n1 q z
              · simp at z; subst z; exact ih.nf
            · exact n2 q z
          · simp only [besideL, Option.toList_some, szs_append, szs]; omega
          · simp only [besideL, Option.toList_some, deps_append, deps]; omega
      obtain ⟨k1, k2, k3, k4⟩ := key
      obtain ⟨a, b, c⟩ := one_le (k := .par) k1 k2
      refine ⟨a, ?_, ?_⟩
      · unfold besideP; simp only [sz]; omega
      · unfold besideP; simp only [dep]; omega
  | j + 1, .n .cho ps, hn, t, h, q, e => by
    simp only [stepsP, List.mem_flatMap] at h
    obtain ⟨k, hk, h⟩ := h
    cases hp : ps[k]? with
    | none => rw [hp] at h; simp at h
    | some p =>
      rw [hp] at h
      simp only [Option.map_some, Option.getD_some] at h
      have hpm : p ∈ ps := List.mem_of_getElem? hp
      have ih := steps_le j p (nfs_iff.mp hn.2 p hpm) t h q e
      have hd := dep_mem hpm
      have hs : sz p ≤ szs ps := by
        have ek := take_drop_at hp
        have := congrArg szs ek
        rw [szs_append] at this; simp only [szs] at this; omega
      have i2 := ih.sz
      have i3 := ih.dep
      exact ⟨ih.nf, by simp only [sz]; omega, by simp only [dep]; omega⟩
end W

namespace W
open PySem PySem.Spec PyProof.Rows L2 Q
def partsF (F : Nat → Pr → List Stp) (ps : List Pr) (n : Nat) : List Stp := (List.range n).flatMap fun k => (ps[k]?.map (F k)).getD []
theorem partsF_succ {F : Nat → Pr → List Stp} {ps : List Pr} {n : Nat} {p : Pr} (h : ps[n]? = some p) : partsF F ps (n + 1) = partsF F ps n ++ F n p := by
  unfold partsF
  rw [List.range_succ, List.flatMap_append]
  simp [h]
theorem partsF_cons (F : Nat → Pr → List Stp) (p : Pr) (ps : List Pr) : partsF F (p :: ps) (p :: ps).length = F 0 p ++ partsF (fun k => F (k + 1)) ps ps.length := by
  unfold partsF
  rw [List.length_cons, List.range_succ_eq_map, List.flatMap_cons, List.flatMap_map]
  simp
theorem partsF_len : ∀ (F : Nat → Pr → List Stp) (ps : List Pr), (∀ k, ∀ p ∈ ps, (F k p).length ≤ sz p) → (partsF F ps ps.length).length ≤ szs ps
  | F, [], h => by simp [partsF]
  | F, p :: ps, h => by
    rw [partsF_cons, List.length_append]
    have := partsF_len (fun k => F (k + 1)) ps fun k q hq => h (k + 1) q (by simp [hq])
    have := h 0 p (by simp)
    simp only [szs]; omega
theorem partsF_le (F : Nat → Pr → List Stp) (ps : List Pr) : ∀ {n m : Nat}, n ≤ m → (partsF F ps n).length ≤ (partsF F ps m).length := by
  intro n m h
  obtain ⟨d, rfl⟩ := Nat.exists_eq_add_of_le h
  unfold partsF
  rw [List.range_add, List.flatMap_append, List.length_append]; omega
theorem steps_par {j : Nat} {ps : List Pr} : stepsP (j + 1) (.n .par ps) = partsF (fun k p => (stepsP j p).map fun t => (t.1, some (besideP ps k t.2))) ps ps.length := rfl
theorem steps_cho {j : Nat} {ps : List Pr} : stepsP (j + 1) (.n .cho ps) = partsF (fun _ p => stepsP j p) ps ps.length := rfl
theorem steps_len : ∀ (j : Nat) (p : Pr), (stepsP j p).length ≤ sz p
  | 0, p => by simp [stepsP]
  | j + 1, .e s v => by simp [stepsP, sz]
  | j + 1, .n .seq [] => by simp [stepsP]
  | j + 1, .n .seq (p :: rest) => by
    have := steps_len j p
    simp only [stepsP, List.length_map, sz, szs]; omega
  | j + 1, .n .par ps => by
    rw [steps_par]
    refine Nat.le_trans (partsF_len _ ps fun k p hp => ?_) (by simp only [sz]; omega)
    rw [List.length_map]; exact steps_len j p
  | j + 1, .n .cho ps => by
    rw [steps_cho]
    exact Nat.le_trans (partsF_len _ ps fun k p hp => steps_len j p) (by simp only [sz]; omega)
theorem steps_ne : ∀ (j : Nat) (p : Pr), dep p ≤ j → nf p → stepsP j p ≠ []
  | 0, p, h, _ => by have := dep_pos p; omega
  | j + 1, .e s v, _, _ => by simp [stepsP]
  | j + 1, .n .seq [], _, h => by have := h.1; simp at this
  | j + 1, .n .seq (p :: rest), hd, h => by
    have h2 := h.2
    simp only [nfs] at h2
    simp only [dep, deps] at hd
    have := steps_ne j p (by omega) h2.1
    simpa [stepsP] using this
  | j + 1, .n .par [], _, h => by have := h.1; simp at this
  | j + 1, .n .par (p :: rest), hd, h => by
    have h2 := h.2
    simp only [nfs] at h2
    simp only [dep, deps] at hd
    have := steps_ne j p (by omega) h2.1
    rw [steps_par, partsF_cons]
    simp [this]
  | j + 1, .n .cho [], _, h => by have := h.1; simp at this
  | j + 1, .n .cho (p :: rest), hd, h => by
    have h2 := h.2
    simp only [nfs] at h2
    simp only [dep, deps] at hd
    have := steps_ne j p (by omega) h2.1
    rw [steps_cho, partsF_cons]
    simp [this]
theorem cutD_from (ds : List D) (k : Nat) (h : k + 1 ≤ ds.length) : Q.cutD ds (some ((k : Int) + 1)) none = ds.drop (k + 1) := by
  unfold Q.cutD
  have e1 : HT.sIx ds.length 0 (some ((k : Int) + 1)) = k + 1 := by simp only [HT.sIx]; split <;> omega
  have e2 : HT.sIx ds.length ds.length none = ds.length := by simp [HT.sIx]
  rw [e1, e2, List.take_of_length_le]; simp
theorem cutD_to (ds : List D) (k : Nat) (h : k ≤ ds.length) : Q.cutD ds none (some (k : Int)) = ds.take k := by
  unfold Q.cutD
  have e1 : HT.sIx ds.length ds.length (some (k : Int)) = k := by simp only [HT.sIx]; split <;> omega
  have e2 : HT.sIx ds.length 0 none = 0 := by simp [HT.sIx]
  rw [e1, e2]; simp
theorem encP_n (k : Kd) (ps : List Pr) : encP (.n k ps) = .tup [.str k.str, .tup (ps.map encP)] := by simp [encP, encPs_eq]
end W

namespace W
open PySem PySem.Spec PyProof.Rows L2 Q
theorem p_law_draws (cell : Int) (n : Nat) (hn : n ≤ 1000) : wp (sem_law_draws [.fz (.int cell), .fz (.int n)]) fun r => ∃ rows, Draws n rows ∧ r = (.ls (rows.map D.int), [.fz (.int cell), .fz (.int n)]) := by
  unfold sem_law_draws
  rw [wp_fnF rfl]
  simp
  refine ⟨by omega, ?_⟩
  refine wp_for_range (fun k ρ => ∃ (rows : List Int) (rest : Int) (a b : Option O), Draws k rows ∧ ρ = [some (.fz (.int cell)), some (.fz (.int n)), some (.ls (rows.map D.int)), some (.fz (.int rest)), a, b]) ⟨[], cell, none, none, ⟨rfl, by simp⟩, rfl⟩ (fun k ρ hk ⟨rows, rest, a, b, hd, er⟩ => ?_) (fun ρ ⟨rows, rest, a, b, hd, er⟩ => ?_)
  · subst er
    have hz : rows.length < sizeLine := by rw [hd.1]; exact Nat.lt_of_lt_of_le (Nat.lt_of_lt_of_le hk hn) (by decide)
    have fin : ∀ x : Int, 0 ≤ x → x < 4096 → ∃ rows1, Draws (k + 1) rows1 ∧ rows.map D.int ++ [D.int x] = rows1.map D.int := fun x h1 h2 => ⟨rows ++ [x], ⟨by simp [hd.1], fun y hy => by
      rcases List.mem_append.mp hy with h | h
      · exact hd.2 y h
      · simp at h; subst h; exact ⟨h1, h2⟩⟩, by simp⟩
    by_cases c1 : (1000000000000000000 : Int) ≤ cell
    · by_cases c2 : 0 < rest
      · simp [c1, c2, hz]
        exact fin _ (by omega) (by omega)
      · simp [c1, c2, hz]
        exact ⟨by omega, by omega, fin _ (by omega) (by omega)⟩
    · simp [c1, hz]
      exact ⟨by omega, by omega, fin _ (by omega) (by omega)⟩
  · subst er
    simp
    exact ⟨rows, hd, rfl⟩
theorem p_law_cell (ns : List Int) (k : Nat) : ∃ c : Int, sem_law_cell [.fz (.scr ns), .fz (.int k)] = some (.fz (.int c), [.fz (.scr ns), .fz (.int k)]) := by
  by_cases h : k < ns.length
  · refine ⟨ns[k], of_wp ?_⟩
    unfold sem_law_cell
    rw [wp_fnF rfl]
    simp [h]
  · refine ⟨0, of_wp ?_⟩
    unfold sem_law_cell
    rw [wp_fnF rfl]
    simp [h]
theorem p_law_name (d : Int) (k : Nat) (hk : k < 8) : sem_law_name [.fz (.int d), .fz (.int k)] = some (.fz (.str (S (nameL d k))), [.fz (.int d), .fz (.int k)]) := by
  refine of_wp ?_
  unfold sem_law_name
  rw [wp_fnF rfl]
  have h26 : 0 ≤ d % 26 ∧ d % 26 < 26 := by omega
  have ht := tailC_len d
  have e1 : markL.length = 8 := rfl
  have e2 : leadL.length = 8 := rfl
  have e3 : lettersL.length = 26 := rfl
  simp [e_mark, e_lead, e_letters, e_tails, S_len, at_mark hk, at_lead hk, at_letter, at_tail, chr1, S_app, e1, e2, e3]
  refine ⟨by omega, by omega, ?_⟩
  split
  · rename_i h
    simp [h, S_len, S_app, nameL]
    exact ⟨sl8 (by omega), sl8 (by omega)⟩
  · rename_i h
    split
    · rename_i h2
      simp [h, h2, S_len, S_app, nameL]
      exact ⟨by omega, by decide, sl8 (by omega)⟩
    · rename_i h2
      simp [h, h2, S_len, S_app, nameL]
      exact ⟨by decide, sl8 (by omega)⟩
theorem p_law_names {n : Nat} {rows : List Int} (hd : Draws n rows) (a many : Nat) (ha : a < n) (hm : many ≤ 8) : wp (sem_law_names [.fz (dI rows), .fz (.int a), .fz (.int many)]) fun r => ∃ ns, Names many ns ∧ r = (.ls (ns.map fun l => .str (S l)), [.fz (dI rows), .fz (.int a), .fz (.int many)]) := by
  unfold sem_law_names
  rw [wp_fnF rfl]
  obtain ⟨x0, e0, b0⟩ := hd.get ha
  simp [e0]
  refine ⟨by omega, ?_⟩
  refine wp_for_range (fun k ρ => ∃ (ns : List (List Nat)) (d : Nat → Int) (lv lv2 : Option O), ns.length = k ∧ (∀ i < k, ns[i]? = some (nameL (d i) i) ∧ d i / 26 % 3 = x0 / 26 % 3) ∧
      ρ = [some (.fz (dI rows)), some (.fz (.int a)), some (.fz (.int many)), some (.ls (ns.map fun l => .str (S l))), some (.fz (.int (x0 / 26 % 3))), lv, lv2]) ⟨[], fun _ => 0, none, none, rfl, by simp, rfl⟩ (fun k ρ hk ⟨ns, d, lv, lv2, hl, hn, er⟩ => ?_) (fun ρ ⟨ns, d, lv, lv2, hl, hn, er⟩ => ?_)
  · subst er
    obtain ⟨x, ex, bx⟩ := hd.at (by omega) ((a : Int) + (k : Int))
    have hr : rows.length = n := hd.1
    have hnm := p_law_name (x % 26 + 26 * (x0 / 26 % 3) + 78 * (x / 78)) k (by omega)
    simp [hr, ex, hnm, show ¬ n = 0 by omega, show 0 < n by omega]
    refine ⟨sl8' (by omega), ns ++ [nameL (x % 26 + 26 * (x0 / 26 % 3) + 78 * (x / 78)) k], by simp [hl], ?_, by simp⟩
    refine ⟨fun i => if i < k then d i else x % 26 + 26 * (x0 / 26 % 3) + 78 * (x / 78), fun i hi => ?_⟩
    show (ns ++ [nameL (x % 26 + 26 * (x0 / 26 % 3) + 78 * (x / 78)) k])[i]? = some (nameL (if i < k then d i else x % 26 + 26 * (x0 / 26 % 3) + 78 * (x / 78)) i) ∧ (if i < k then d i else x % 26 + 26 * (x0 / 26 % 3) + 78 * (x / 78)) / 26 % 3 = x0 / 26 % 3
    rcases Nat.lt_or_ge i k with q | q
    · rw [if_pos q, List.getElem?_append_left (by omega)]; exact hn i q
    · obtain rfl : i = k := by omega
      rw [if_neg (Nat.lt_irrefl _), List.getElem?_append_right (by omega), hl]
      exact ⟨by simp, by omega⟩
  · subst er
    simp
    exact ⟨ns, ⟨hl, _, d, hn⟩, rfl⟩
end W

namespace W
open PySem PySem.Spec PyProof.Rows L2 Q
theorem p_is_name (l : List Nat) (h : GoodN l) : sem_is_name [.fz (.str (S l))] = some (.fz (.bl true), [.fz (.str (S l))]) := by
  refine of_wp ?_
  unfold sem_is_name
  rw [wp_fnF rfl]
  have hl := h.len
  obtain ⟨c, hc⟩ : ∃ c, l[0]? = some c := ⟨l[0], List.getElem?_eq_getElem (by omega)⟩
  have hcl := h.hd c hc
  have n1 : ¬ (l.length : Int) < 1 := by omega
  have n2 : ¬ 12 < (l.length : Int) := by omega
  simp [S_len, n1, n2, e_letters, e_digits, hc, chr1, ninS_eq, inS_sign, hcl]
  refine ⟨sl8 (by omega), by omega, fun x hx => ?_⟩
  simpa [goodC] using h.all x hx
theorem p_is_code (l : List Nat) (h : ∀ c ∈ l, c = 48 ∨ c = 49) (hl : l.length ≤ 100) : sem_is_code [.fz (.str (S l)), .fz (.int l.length)] = some (.fz (.bl true), [.fz (.str (S l)), .fz (.int l.length)]) := by
  refine of_wp ?_
  unfold sem_is_code
  rw [wp_fnF rfl]
  simp [S_len, e_01]
  exact ⟨sl8 (by omega), h⟩
theorem p_are_signals {many : Nat} {ns : List (List Nat)} {ks : List Str} {st : List Nat} (h : Sigs many ns ks st) : sem_are_signals [.fz (sigD ns ks)] = some (.fz (.bl true), [.fz (sigD ns ks)]) := by
  refine of_wp ?_
  unfold sem_are_signals
  rw [wp_fnF rfl]
  have hz : (ns.zip ks).length = many := by simp [h.names.1, h.kinds.1]
  have hm := h.le
  obtain ⟨nd, gn⟩ := h.names.nodup (by omega)
  have n1 : ¬ 8 < ((ns.zip ks).length : Int) := by omega
  simp only [sigD]
  simp
  refine ⟨by have := h.names.1; omega, ?_⟩
  refine wp_for_list (enc := fun p : List Nat × Str => D.tup [.str (S p.1), .str p.2]) (xs := ns.zip ks) (fun done ρ => ∃ (l2 l3 : Option O), ρ = [some (.fz (sigD ns ks)), some (.ls ((done.map fun p => S p.1).map D.str)), l2, l3])
    ⟨none, none, rfl⟩ (fun done p rest ρ e ⟨l2, l3, er⟩ => ?_) (fun ρ ⟨l2, l3, er⟩ => ?_)
  · subst er
    have hp : p ∈ ns.zip ks := by rw [e]; simp
    have hp1 : p.1 ∈ ns := (List.of_mem_zip hp).1
    have hp2 : p.2 ∈ ks := (List.of_mem_zip hp).2
    have hk := h.kinds.2 _ hp2
    have ndz : ((ns.zip ks).map (·.1)).Nodup := by
      rw [List.map_fst_zip (by rw [h.names.1, h.kinds.1]; exact Nat.le_refl _)]; exact nd
    have hn : S p.1 ∉ done.map fun p => S p.1 := fun z => by
      obtain ⟨q, hq, e2⟩ := List.mem_map.mp z
      rw [S_inj] at e2
      rw [e, List.map_append, List.map_cons] at ndz
      exact (List.nodup_append.mp ndz).2.2 q.1 (List.mem_map_of_mem hq) p.1 (by simp) e2
    have i1 := inS_lst (S p.1) (done.map fun p => S p.1)
    have i2 := inS_kind hk
    have hlen : done.length ≤ many := by rw [← hz, e]; simp
    simp only [hn, decide_false] at i1
    simp only [List.map_map] at i1
    simp [wp_eq (p_is_name p.1 (gn _ hp1)), ninS_eq, i2]
    rw [wp_eq i1]
    exact ⟨rfl, sl8' (by omega)⟩
  · subst er
    simp
end W

namespace W
open PySem PySem.Spec PyProof.Rows L2 Q
abbrev tN (l : List Nat) : D := .tup (l.map fun x => .int (x : Nat))
abbrev lN (l : List Nat) : D := .lst (l.map fun x => .int (x : Nat))
theorem ixN_nat {n k : Nat} (h : k < n) : L2.ixN n (k : Int) = some k := by
  unfold L2.ixN
  simp [h]
theorem p_law_bits (d : Int) (n : Nat) (hn : n ≤ 100) : wp (sem_law_bits [.fz (.int d), .fz (.int n)]) fun r => ∃ l : List Nat, (∀ x ∈ l, x < n) ∧ l.length ≤ n ∧ r = (.fz (tN l), [.fz (.int d), .fz (.int n)]) := by
  unfold sem_law_bits
  rw [wp_fnF rfl]
  simp
  refine ⟨by omega, ?_⟩
  refine wp_for_range (fun k ρ => ∃ (l : List Nat) (d1 : Int) (a : Option O), (∀ x ∈ l, x < n) ∧ l.length ≤ k ∧ ρ = [some (.fz (.int d1)), some (.fz (.int n)), some (.ls (l.map fun x => .int (x : Nat))), a]) ⟨[], d, none, by simp, by simp, rfl⟩ (fun k ρ hk ⟨l, d1, a, h1, h2, er⟩ => ?_) (fun ρ ⟨l, d1, a, h1, h2, er⟩ => ?_)
  · subst er
    simp [b_law_bits_1, wt_law_bits_1]
    by_cases c : d1 % 2 = 1
    · simp [c]
      refine ⟨sl8' (by omega), l ++ [k], fun x hx => ?_, by simp; omega, by simp⟩
      rcases List.mem_append.mp hx with h | h
      · exact h1 x h
      · simp at h; omega
    · simp [c]
      exact ⟨l, h1, by omega, rfl⟩
  · subst er
    simp
    exact ⟨l, h1, h2, rfl⟩
end W

namespace W
open PySem PySem.Spec PyProof.Rows L2 Q
abbrev encE (e : Nat × Int) : D := .tup [.int (e.1 : Nat), .int e.2]
def SigE (many : Nat) (es : List (Nat × Int)) : Prop := ∀ e ∈ es, e.1 < many
theorem SigE.nil {many : Nat} : SigE many [] := fun _ h => nomatch h
theorem SigE.add {many : Nat} {es : List (Nat × Int)} (h : SigE many es) {e : Nat × Int} (he : e.1 < many) : SigE many (es ++ [e]) := fun x hx => by
  rcases List.mem_append.mp hx with q | q
  · exact h x q
  · simp at q; subst q; exact he
abbrev lE (es : List (Nat × Int)) : D := .lst (es.map encE)
theorem setN_map {α : Type} (f : α → D) (xs : List α) (k : Nat) (x : α) : (xs.map f).set k (f x) = (xs.set k x).map f := by
  rw [List.map_set]
theorem e_1 : ("1" : Str) = S [49] := by decide
theorem p_law_sequence {n : Nat} {rows : List Int} (hd : Draws n rows) (hn : 0 < n) (a many : Nat) (hm : many ≤ 100) (own st : List Nat) (ho : ∀ x ∈ own, x < many) (h0 : own ≠ []) (hl : own.length ≤ 40) (hs : st.length = many) :
    wp (sem_law_sequence [.fz (dI rows), .fz (.int a), .fz (lN own), .fz (.str (S st))]) fun r => ∃ es : List (Nat × Int), SigE many es ∧ (1 ≤ es.length ∧ es.length ≤ 100) ∧ r = (.ls (es.map encE), [.fz (dI rows), .fz (.int a), .fz (lN own), .fz (.str (S st))]) := by
  unfold sem_law_sequence
  rw [wp_fnF rfl]
  have hr : rows.length = n := hd.1
  have hn0 : ¬ n = 0 := by omega
  obtain ⟨x, ex, bx⟩ := hd.at (by omega) ((a : Int))
  have ol : 1 ≤ own.length := by cases own with
    | nil => exact absurd rfl h0
    | cons _ _ => simp
  obtain ⟨o0, eo⟩ : ∃ o, own[0]? = some o := ⟨own[0], List.getElem?_eq_getElem (by omega)⟩
  have om : o0 < many := ho _ (List.mem_of_getElem? eo)
  have key : ∀ (pool : List Nat), (∀ x ∈ pool, x < many) → 1 ≤ pool.length → pool.length ≤ 100 →
      wp (t_law_sequence_1 [some (.fz (dI rows)), some (.fz (.int a)), some (.fz (lN own)), some (.fz (.str (S st))), some (.fz (lN pool)), none, none, none, none, none, none]) (fnK [false, false, false, false] [.fz (dI rows), .fz (.int a), .fz (lN own), .fz (.str (S st))] fun r => ∃ es : List (Nat × Int), SigE many es ∧ (1 ≤ es.length ∧ es.length ≤ 100) ∧ r = (.ls (es.map encE), [.fz (dI rows), .fz (.int a), .fz (lN own), .fz (.str (S st))])) := by
    intro pool hp p1 p2
    rw [wt_law_sequence_1]
    simp
    refine ⟨sl8 (by omega), ?_⟩
    have e1 : (st.map fun c => D.str ⟨#[c]⟩) = st.map fun c => D.str (S [c]) := rfl
    rw [e1]
    refine wp_lcGo (enc2 := D.int) (P := fun _ _ => True) (fun c hc => ?_) fun vs vl _ => ?_
    · simp [wipeE, e_1]
    refine ⟨by omega, ?_⟩
    refine wp_for_range (fun k ρ => ∃ (pool1 : List Nat) (vs : List Int) (es : List (Nat × Int)) (b c d : Option O), (∀ x ∈ pool1, x < many) ∧ pool1.length + k = pool.length ∧ vs.length = many ∧ SigE many es ∧ es.length = k ∧
      ρ = [some (.fz (dI rows)), some (.fz (.int a)), some (.fz (lN own)), some (.fz (.str (S st))), some (.fz (lN pool1)), some (.ls (vs.map D.int)), some (.ls (es.map encE)), b, c, d, none]) ⟨pool, vs, [], none, none, none, hp, rfl, by rw [vl, hs], .nil, rfl, rfl⟩ (fun k ρ hk ⟨pool1, vs, es, b, c, d, h1, h2, h3, h4, h5, er⟩ => ?_) (fun ρ ⟨pool1, vs, es, b, c, d, h1, h2, h3, h4, h5, er⟩ => ?_)
    · subst er
      obtain ⟨x, ex, bx⟩ := hd.at (by omega) ((a : Int) + 1 + (k : Int))
      have hp0 : 0 < pool1.length := by omega
      have q0 : 0 ≤ x / 5 % (pool1.length : Int) := Int.emod_nonneg _ (by omega)
      have q1 : x / 5 % (pool1.length : Int) < pool1.length := Int.emod_lt_of_pos _ (by omega)
      generalize em : (x / 5 % (pool1.length : Int)).toNat = m
      have ei : x / 5 % (pool1.length : Int) = (m : Int) := by omega
      have hm1 : m < pool1.length := by omega
      obtain ⟨s, es1⟩ : ∃ s, pool1[m]? = some s := ⟨_, List.getElem?_eq_getElem hm1⟩
      have sm : s < many := h1 _ (List.mem_of_getElem? es1)
      obtain ⟨v, ev⟩ : ∃ v, vs[s]? = some v := ⟨_, List.getElem?_eq_getElem (by omega)⟩
      have hsv : s < vs.length := by omega
      have gs : vs[s] = v := by
        rw [List.getElem?_eq_getElem hsv] at ev; exact Option.some.inj ev
      have c1 := cutD_to (pool1.map fun x => D.int (x : Nat)) m (by simp; omega)
      have c2 := cutD_from (pool1.map fun x => D.int (x : Nat)) m (by simp; omega)
      have hpp : pool1.length ≠ 0 := by omega
      simp [b_law_sequence_1, hr, ex, ei, es1, c1, c2, ixN_nat, h3, sm, ev, hsv, hn0, hpp, hn, hp0]
      refine ⟨sl8 (by omega), sl8' (by omega), pool1.take m ++ pool1.drop (m + 1), fun y hy => ?_, by simp; omega, vs.set s (1 - v), by simp [h3], es ++ [(s, 1 - v)], h4.add sm, by simp [h5], ?_⟩
      · rcases List.mem_append.mp hy with h | h
        · exact h1 y (List.mem_of_mem_take h)
        · exact h1 y (List.mem_of_mem_drop h)
      · simp [List.map_set, gs]
    · subst er
      simp
      exact ⟨es, h4, ⟨by omega, by omega⟩, rfl⟩
  simp [hr, ex, eo, hn0, hn]
  refine ⟨sl8 (by omega), ?_⟩
  have e2 : (own.map fun x => D.int (x : Nat)) ++ (own.map fun x => D.int (x : Nat)) = (own ++ own).map fun x => D.int (x : Nat) := by simp
  by_cases c : x % 3 = 1
  · simp [c]
    refine ⟨sl8 (by omega), ?_⟩
    have e3 : (own.map fun x => D.int (x : Nat)) ++ ((own.map fun x => D.int (x : Nat)) ++ [.int (o0 : Nat), .int (o0 : Nat)]) = (own ++ own ++ [o0, o0]).map fun x => D.int (x : Nat) := by simp
    rw [e3]
    refine key (own ++ own ++ [o0, o0]) (fun y hy => ?_) (by simp; omega) (by simp; omega)
    simp at hy
    rcases hy with h | h
    · exact ho y h
    · subst h; exact om
  · simp [c]
    rw [e2]
    exact key (own ++ own) (fun y hy => by simp at hy; exact ho y hy) (by simp; omega) (by simp; omega)
end W

namespace W
open PySem PySem.Spec PyProof.Rows L2 Q
abbrev encG (g : List (Nat × Int)) : D := lE g
/-- groups of edges: one or two each, one at either end -/
structure Grp (many : Nat) (gs : List (List (Nat × Int))) : Prop where
  sz : ∀ g ∈ gs, 1 ≤ g.length ∧ g.length ≤ 2
  sig : ∀ g ∈ gs, ∀ e ∈ g, e.1 < many
  hd : ∀ g, gs[0]? = some g → g.length = 1
  ls : ∀ g, gs.getLast? = some g → g.length = 1
/-- in the making -/
structure GrpM (many : Nat) (k : Nat) (n : Nat) (gs : List (List (Nat × Int))) : Prop where
  sz : ∀ g ∈ gs, 1 ≤ g.length ∧ g.length ≤ 2
  sig : ∀ g ∈ gs, ∀ e ∈ g, e.1 < many
  hd : ∀ g, gs[0]? = some g → g.length = 1
  ls : k = n → ∀ g, gs.getLast? = some g → g.length = 1
  ne : 0 < k → gs ≠ []
  ls0 : gs = [] → k = 0
theorem GrpM.add1 {many k n : Nat} {gs : List (List (Nat × Int))} (h : GrpM many k n gs) (e : Nat × Int) (he : e.1 < many) : GrpM many (k + 1) n (gs ++ [[e]]) := by
  refine ⟨fun g hg => ?_, fun g hg => ?_, fun g hg => ?_, fun _ g hg => ?_, fun _ => by simp, fun z => by simp at z⟩
  · rcases List.mem_append.mp hg with q | q
    · exact h.sz g q
    · simp at q; subst q; simp
  · rcases List.mem_append.mp hg with q | q
    · exact h.sig g q
    · simp at q; subst q; simpa using he
  · cases gs with
    | nil => simp at hg; subst hg; rfl
    | cons a gs => exact h.hd g (by simpa using hg)
  · simp at hg; subst hg; rfl
theorem GrpM.add2 {many k n : Nat} {gs : List (List (Nat × Int))} (h : GrpM many k n gs) (e f : Nat × Int) (he : e.1 < many) (hf : f.1 < many) (hk : 0 < k) (hn : k + 2 < n) : GrpM many (k + 2) n (gs ++ [[e, f]]) := by
  refine ⟨fun g hg => ?_, fun g hg => ?_, fun g hg => ?_, fun z => by omega, fun _ => by simp, fun z => by simp at z⟩
  · rcases List.mem_append.mp hg with q | q
    · exact h.sz g q
    · simp at q; subst q; simp
  · rcases List.mem_append.mp hg with q | q
    · exact h.sig g q
    · simp at q; subst q; intro e' h'; simp at h'; rcases h' with z | z <;> subst z <;> assumption
  · cases gs with
    | nil => exact absurd rfl (h.ne hk)
    | cons a gs => exact h.hd g (by simpa using hg)
theorem p_law_groups {n : Nat} {rows : List Int} (hd : Draws n rows) (hn : 0 < n) (a many : Nat) (es : List (Nat × Int)) (he : SigE many es) (hl : es.length ≤ 100) :
    wp (sem_law_groups [.fz (lE es), .fz (dI rows), .fz (.int a)]) fun r => ∃ gs : List (List (Nat × Int)), Grp many gs ∧ gs.length ≤ 100 ∧ (es ≠ [] → gs ≠ []) ∧ r = (.ls (gs.map encG), [.fz (lE es), .fz (dI rows), .fz (.int a)]) := by
  unfold sem_law_groups
  rw [wp_fnF rfl]
  have hr : rows.length = n := hd.1
  have hn0 : ¬ n = 0 := by omega
  simp
  refine ⟨by omega, ?_⟩
  refine wp_for_range (fun t ρ => ∃ (k : Nat) (gs : List (List (Nat × Int))) (b c : Option O), GrpM many k es.length gs ∧ gs.length ≤ t ∧ (t ≤ k ∧ k ≤ es.length) ∧ ρ = [some (.fz (lE es)), some (.fz (dI rows)), some (.fz (.int a)), some (.ls (gs.map encG)), some (.fz (.int k)), b, c])
    ⟨0, [], none, none, ⟨by simp, by simp, by simp, by simp, by simp, by simp⟩, by simp, by simp, rfl⟩ (fun t ρ ht ⟨k, gs, b, c, h1, h2, h3, er⟩ => ?_) (fun ρ ⟨k, gs, b, c, h1, h2, h3, er⟩ => ?_)
  · subst er
    obtain ⟨x, ex, bx⟩ := hd.at (by omega) ((a : Int) + (t : Int))
    have hz : gs.length < sizeLine := sl8' (by omega)
    have one : ∀ (y : Nat × Int), es[k]? = some y → wp (t_law_groups_1 [some (.fz (lE es)), some (.fz (dI rows)), some (.fz (.int a)), some (.ls (gs.map encG)), some (.fz (.int k)), some (.fz (.int t)), some (.fz (.bl false))]) (fun r => ∃ (k : Nat) (gs : List (List (Nat × Int))), GrpM many k es.length gs ∧ gs.length ≤ t + 1 ∧ (t + 1 ≤ k ∧ k ≤ es.length) ∧ r = (.nx, [some (.fz (lE es)), some (.fz (dI rows)), some (.fz (.int a)), some (.ls (gs.map encG)), some (.fz (.int k)), some (.fz (.int t)), some (.fz (.bl false))])) := by
      intro y ey
      have hk : k < es.length := (List.getElem?_eq_some_iff.mp ey).1
      rw [wt_law_groups_1]
      simp [ey, hz]
      exact ⟨k + 1, gs ++ [[y]], h1.add1 y (he y (List.mem_of_getElem? ey)), by simp; omega, ⟨by omega, by omega⟩, by simp, by simp⟩
    by_cases ck : ¬ k < es.length
    · simp [b_law_groups_1, ck]
      exact ⟨k, gs, h1, by omega, ⟨by omega, by omega⟩, by simp⟩
    have ck : k < es.length := by omega
    obtain ⟨y, ey⟩ : ∃ y, es[k]? = some y := ⟨_, List.getElem?_eq_getElem ck⟩
    have gy : es[k] = y := by rw [List.getElem?_eq_getElem ck] at ey; exact Option.some.inj ey
    by_cases c : 0 < k ∧ k + 2 < es.length ∧ x / 3 % 2 = 1
    · obtain ⟨c1, c2, c3⟩ := c
      obtain ⟨z, ez⟩ : ∃ y, es[k + 1]? = some y := ⟨_, List.getElem?_eq_getElem (by omega)⟩
      obtain ⟨g, eg⟩ : ∃ g, gs.getLast? = some g := ⟨gs.getLast (h1.ne c1), List.getLast?_eq_some_getLast _⟩
      have c2' : (k : Int) + 2 < es.length := by omega
      by_cases c4 : g.length = 2 ∨ y.1 = z.1
      · simp [b_law_groups_1, ck, hr, hn, hn0, ex, ey, gy, ez, eg, c1, c2', c3, List.getLast?_map]
        by_cases c5 : g.length = 2
        · have c5' : (g.length : Int) = 2 := by omega
          simp [c5']
          refine wp_mono (one y ey) fun r ⟨k1, gs1, g1, g2, g3, er⟩ => ?_
          subst er
          simp
          exact ⟨k1, gs1, g1, g2, g3, by simp⟩
        · have c5' : ¬ (g.length : Int) = 2 := by omega
          have c6 : y.1 = z.1 := c4.resolve_left c5
          simp [c5', c6]
          refine wp_mono (one y ey) fun r ⟨k1, gs1, g1, g2, g3, er⟩ => ?_
          subst er
          simp
          exact ⟨k1, gs1, g1, g2, g3, by simp⟩
      · have c5 : ¬ (g.length : Int) = 2 := fun z => c4 (.inl (by omega))
        have c6 : ¬ ((y.1 : Nat) : Int) = ((z.1 : Nat) : Int) := fun z => c4 (.inr (by omega))
        simp [b_law_groups_1, wt_law_groups_1, ck, hr, hn, hn0, ex, ey, gy, ez, eg, c1, c2', c3, List.getLast?_map, c5, c6, hz]
        exact ⟨k + 2, gs ++ [[y, z]], h1.add2 y z (he y (List.mem_of_getElem? ey)) (he z (List.mem_of_getElem? ez)) c1 c2, by simp; omega, ⟨by omega, by omega⟩, by simp, by simp⟩
    · by_cases c1 : 0 < k
      · by_cases c2 : (k : Int) + 2 < es.length
        · have c3 : ¬ x / 3 % 2 = 1 := fun z => c ⟨c1, by omega, z⟩
          simp [b_law_groups_1, ck, hr, hn, hn0, ex, ey, gy, c1, c2, c3]
          refine wp_mono (one y ey) fun r ⟨k1, gs1, g1, g2, g3, er⟩ => ?_
          subst er
          simp
          exact ⟨k1, gs1, g1, g2, g3, by simp⟩
        · simp [b_law_groups_1, ck, hr, hn, hn0, ex, ey, gy, c1, c2]
          refine wp_mono (one y ey) fun r ⟨k1, gs1, g1, g2, g3, er⟩ => ?_
          subst er
          simp
          exact ⟨k1, gs1, g1, g2, g3, by simp⟩
      · simp [b_law_groups_1, ck, hr, hn, hn0, ex, ey, gy, c1]
        refine wp_mono (one y ey) fun r ⟨k1, gs1, g1, g2, g3, er⟩ => ?_
        subst er
        simp
        exact ⟨k1, gs1, g1, g2, g3, by simp⟩
  · subst er
    simp
    exact ⟨gs, ⟨h1.sz, h1.sig, h1.hd, h1.ls (by omega)⟩, by omega, fun hne => h1.ne (by have : es.length ≠ 0 := fun z => hne (List.length_eq_zero_iff.mp z); omega), rfl⟩
end W

namespace W
open PySem PySem.Spec PyProof.Rows L2 Q
theorem p_law_add_groups {many : Nat} {gs : List (List (Nat × Int))} (h : Grp many gs) (hl : gs.length ≤ 100) (c0 : Int) (rs0 es0 : List D) (hr : rs0.length ≤ 10000) (he : es0.length ≤ 10000) (en : Int) :
    wp (sem_law_add_groups [.ns [.fz (.int c0), .ls rs0, .ls es0], .fz (.lst (gs.map encG)), .fz (.int en)]) fun r => ∃ (c : Int) (rs es : List D), rs.length ≤ rs0.length + 200 ∧ es.length ≤ es0.length + 200 ∧ r = (.fz .non, [.ns [.fz (.int c), .ls rs, .ls es], .fz (.lst (gs.map encG)), .fz (.int en)]) := by
  unfold sem_law_add_groups
  rw [wp_fnF rfl]
  simp
  refine ⟨by omega, ?_⟩
  refine wp_for_range (fun k ρ => ∃ (c : Int) (rs es bf : List D) (a5 a6 a7 a8 a9 : Option O), rs.length ≤ rs0.length + 2 * k ∧ es.length ≤ es0.length + 2 * k ∧ (∀ g, gs[k]? = some g → g.length ≤ bf.length) ∧
      ρ = [some (.ns [.fz (.int c), .ls rs, .ls es]), some (.fz (.lst (gs.map encG))), some (.fz (.int en)), some (.fz (.lst bf)), a5, a6, a7, a8, a9]) ⟨c0, rs0, es0, [.int en], _, _, _, _, _, by omega, by omega, fun g hg => by rw [h.hd g hg]; simp, rfl⟩ (fun k ρ hk ⟨c, rs, es, bf, a5, a6, a7, a8, a9, h1, h2, h3, er⟩ => ?_) (fun ρ ⟨c, rs, es, bf, a5, a6, a7, a8, a9, h1, h2, h3, er⟩ => ?_)
  · subst er
    obtain ⟨g, eg⟩ : ∃ y, gs[k]? = some y := ⟨_, List.getElem?_eq_getElem hk⟩
    have gg : gs[k] = g := by rw [List.getElem?_eq_getElem hk] at eg; exact Option.some.inj eg
    have gm := List.mem_of_getElem? eg
    have gz := h.sz g gm
    have gb := h3 g eg
    have hz1 : rs.length < sizeLine := sl8' (by omega)
    have hz2 : es.length < sizeLine := sl8' (by omega)
    have hz3 : rs.length + 1 < sizeLine := sl8' (by omega)
    have hz4 : es.length + 1 < sizeLine := sl8' (by omega)
    have two : ∀ (c : Int) (bh : List D) (a6 a7 a8 a9 : Option O), g.length ≤ bh.length → wp (t_law_add_groups_2 [some (.ns [.fz (.int c), .ls rs, .ls es]), some (.fz (.lst (gs.map encG))), some (.fz (.int en)), some (.fz (.lst bf)), some (.fz (.int k)), some (.fz (.lst bh)), a6, a7, a8]) fun r => ∃ (rs' es' : List D) (a6 a7 a8 : Option O), rs'.length ≤ rs0.length + 2 * (k + 1) ∧ es'.length ≤ es0.length + 2 * (k + 1) ∧
        r = (.nx, [some (.ns [.fz (.int c), .ls rs', .ls es']), some (.fz (.lst (gs.map encG))), some (.fz (.int en)), some (.fz (.lst bh)), some (.fz (.int k)), some (.fz (.lst bh)), a6, a7, a8]) := by
      intro c bh a6 a7 a8 a9 hb
      rw [wt_law_add_groups_2]
      match g, gz, gb, hb, eg, gg with
      | [e], _, gb, hb, eg, gg =>
        simp [eg, gg, hz1, hz2, wt_law_add_groups_1]
        omega
      | [e, f], _, gb, hb, eg, gg =>
        obtain ⟨b0, eb0⟩ : ∃ y, bf[0]? = some y := ⟨_, List.getElem?_eq_getElem (by simp at gb; omega)⟩
        obtain ⟨b1, eb1⟩ : ∃ y, bf[1]? = some y := ⟨_, List.getElem?_eq_getElem (by simp at gb; omega)⟩
        obtain ⟨d0, ed0⟩ : ∃ y, bh[0]? = some y := ⟨_, List.getElem?_eq_getElem (by simp at hb; omega)⟩
        obtain ⟨d1, ed1⟩ : ∃ y, bh[1]? = some y := ⟨_, List.getElem?_eq_getElem (by simp at hb; omega)⟩
        simp [eg, gg, rngD, List.range_succ, forGo, b_law_add_groups_1, eb0, eb1, ed0, ed1, hz1, hz2, hz3, hz4, wt_law_add_groups_1]
        omega
    by_cases cl : k + 1 < gs.length
    · obtain ⟨g1, eg1⟩ : ∃ y, gs[k + 1]? = some y := ⟨_, List.getElem?_eq_getElem cl⟩
      have gg1 : gs[k + 1] = g1 := by rw [List.getElem?_eq_getElem cl] at eg1; exact Option.some.inj eg1
      have cl' : (k : Int) + 1 < gs.length := by omega
      have em : (if g.length < g1.length then (g1.length : Int) else g.length) = ((max g.length g1.length : Nat) : Int) := by split <;> omega
      have g1z := h.sz g1 (List.mem_of_getElem? eg1)
      generalize hm : max g.length g1.length = m at em
      simp [b_law_add_groups_2, cl', eg, gg, eg1, gg1, em]
      rw [rng_map]
      refine ⟨by omega, sl8 (by simp; omega), ?_⟩
      rw [wp_eq (lcGo_map (g := fun x : Nat => D.int (c + (0 + (x : Int)))) fun x hx => ?_)]
      · simp [L2.ixN]
        refine wp_mono (two _ _ _ _ _ none ?_) fun r ⟨rs', es', x6, x7, x8, k1, k2, er⟩ => ?_
        · simp; omega
        subst er
        simp
        exact ⟨_, rs', k1, _, k2, by omega, rfl, rfl, rfl⟩
      · simp [wipeE]
    · have cl' : ¬ (k : Int) + 1 < gs.length := by omega
      have g1' : g.length = 1 := by
        refine h.ls g ?_
        rw [List.getLast?_eq_getElem?, ← eg]
        congr 1; omega
      have n1 : gs[k + 1]? = none := List.getElem?_eq_none (by omega)
      simp [b_law_add_groups_2, cl', eg, gg]
      refine wp_mono (two _ _ _ _ _ none ?_) fun r ⟨rs', es', x6, x7, x8, k1, k2, er⟩ => ?_
      · simp; omega
      subst er
      simp
      exact ⟨_, rs', k1, _, k2, by simp [n1], rfl, rfl, rfl⟩
  · subst er
    simp
    exact ⟨c, rs, by omega, es, by omega, rfl, rfl, rfl⟩
end W

namespace W
open PySem PySem.Spec PyProof.Rows L2 Q
theorem p_law_free_net {rows : List Int} (hd : Draws 60 rows) (many : Nat) (hm : 0 < many) :
    wp (sem_law_free_net [.fz (dI rows), .fz (.int many)]) fun r => ∃ (c : Int) (rs es : List D) (l : List Nat), rs.length ≤ 8 ∧ es.length ≤ 8 ∧ l.length ≤ 8 ∧ r = (.ns [.fz (.int c), .ls rs, .ls es, .fz (tN l)], [.fz (dI rows), .fz (.int many)]) := by
  unfold sem_law_free_net
  rw [wp_fnF rfl]
  have at60 : ∀ (a : Nat), a < 60 → ∃ x, rows[a]? = some x ∧ 0 ≤ x ∧ x < 4096 := fun a h => hd.get h
  obtain ⟨x10, e10, b10⟩ := at60 10 (by omega)
  obtain ⟨x11, e11, b11⟩ := at60 11 (by omega)
  obtain ⟨x40, e40, b40⟩ := at60 40 (by omega)
  simp [e10, e11, e40]
  generalize em : (1 + x10 % 5).toNat = c
  have ei : 1 + x10 % 5 = (c : Int) := by omega
  have hc : 0 < c ∧ c ≤ 5 := by omega
  generalize et : (x11 % 8).toNat = t
  have ht : t < 8 := by omega
  rw [ei]
  refine ⟨⟨by omega, by omega⟩, ?_⟩
  refine wp_for_range (fun k ρ => ∃ (rs es : List D) (a b : Option O), rs.length ≤ k ∧ es.length ≤ k ∧ ρ = [some (.fz (dI rows)), some (.fz (.int many)), some (.fz (.int c)), some (.ls rs), some (.ls es), a, b]) ⟨[], [], none, none, by simp, by simp, rfl⟩ (fun k ρ hk ⟨rs, es, a, b, h1, h2, er⟩ => ?_) (fun ρ ⟨rs, es, a, b, h1, h2, er⟩ => ?_)
  · subst er
    obtain ⟨y0, f0, g0⟩ := at60 (3 * k + 12) (by omega)
    obtain ⟨y1, f1, g1⟩ := at60 (3 * k + 13) (by omega)
    obtain ⟨y2, f2, g2⟩ := at60 (3 * k + 14) (by omega)
    have q0 : (12 : Int) + 3 * (k : Int) = ((3 * k + 12 : Nat) : Int) := by omega
    have q1 : (13 : Int) + 3 * (k : Int) = ((3 * k + 13 : Nat) : Int) := by omega
    have q2 : (14 : Int) + 3 * (k : Int) = ((3 * k + 14 : Nat) : Int) := by omega
    have z1 : rs.length < sizeLine := sl8' (by omega)
    have z2 : es.length < sizeLine := sl8' (by omega)
    have a0 : atI (rows.map D.int) (12 + 3 * (k : Int)) = some (.int y0) := by rw [q0, atI_cast, List.getElem?_map, f0]; rfl
    have a1 : atI (rows.map D.int) (13 + 3 * (k : Int)) = some (.int y1) := by rw [q1, atI_cast, List.getElem?_map, f1]; rfl
    have a2 : atI (rows.map D.int) (14 + 3 * (k : Int)) = some (.int y2) := by rw [q2, atI_cast, List.getElem?_map, f2]; rfl
    have hmz : (0 : Int) < many := by omega
    have two : ∀ (d : D), wp (t_law_free_net_1 [some (.fz (dI rows)), some (.fz (.int many)), some (.fz (.int c)), some (.ls rs), some (.ls es), some (.fz (.int k)), some (.fz d)]) fun r => ∃ (rs es : List D), rs.length ≤ k + 1 ∧ es.length ≤ k + 1 ∧ r = (.nx, [some (.fz (dI rows)), some (.fz (.int many)), some (.fz (.int c)), some (.ls rs), some (.ls es), some (.fz (.int k)), some (.fz d)]) := by
      intro d
      rw [wt_law_free_net_1]
      simp only [wp_seqS, wp_appS, wp_tupF, wp_evs_cons, wp_evs_nil, wp_frN, wp_callN, wp_bin, wp_cst, wp_ixF, wp_varW, wp_varD, wp_pureE]
      simp [a1, a2]
      refine wp_mono (p_law_bits y1 c (by omega)) fun r ⟨l, l1, l2, er⟩ => ?_
      subst er
      simp [z1, z2, hmz, hm]
      omega
    have n0 : ∀ d : D, True := fun _ => trivial
    simp [b_law_free_net_1, a0]
    refine wp_mono (p_law_bits y0 c (by omega)) fun r ⟨l, l1, l2, er⟩ => ?_
    subst er
    by_cases c0 : l = []
    · subst c0
      simp [hc]
      refine wp_mono (two _) fun r ⟨rs', es', k1, k2, er⟩ => ?_
      subst er
      simp
      exact ⟨k1, k2⟩
    · simp [c0]
      refine wp_mono (two _) fun r ⟨rs', es', k1, k2, er⟩ => ?_
      subst er
      simp
      exact ⟨k1, k2⟩
  · subst er
    simp [e40]
    refine wp_mono (p_law_bits x40 c (by omega)) fun r ⟨l, l1, l2, er⟩ => ?_
    subst er
    simp
    exact ⟨_, rs, by omega, es, by omega, l, by omega, rfl, rfl, rfl, rfl⟩
end W

namespace W
open PySem PySem.Spec PyProof.Rows L2 Q
/-- what a world is: only its signals and its start are said -/
def IsWorld (d : D) : Prop := ∃ (many : Nat) (ns : List (List Nat)) (ks : List Str) (st : List Nat) (d0 d1 d2 d4 : D), Sigs many ns ks st ∧ d = .tup [d0, d1, d2, sigD ns ks, d4, .str (S st)]
theorem kindD_at (x : Int) : ∃ k : Str, atI [D.str "input", D.str "output", D.str "output", D.str "inner"] (x % 4) = some (.str k) ∧ k ∈ kindW := by
  have : x % 4 = 0 ∨ x % 4 = 1 ∨ x % 4 = 2 ∨ x % 4 = 3 := by omega
  rcases this with h | h | h | h <;> simp [h, kindW]
theorem t_world_1 {many : Nat} {rows : List Int} (hd : Draws 60 rows) (hm : 0 < many ∧ many ≤ 4) {ks : List Str} {st : List Nat} (hk : ks.length = many ∧ ∀ k ∈ ks, k ∈ kindW) (hs : st.length = many ∧ ∀ c ∈ st, c = 48 ∨ c = 49) (cell sh c : Int) (rs es mk : List D) (more : List O) (a8 a9 a10 a11 a12 a13 a14 a15 a16 : Option O) :
    wp (t_law_world_1 [some (.fz (.int cell)), some (.fz (dI rows)), some (.fz (.int many)), some (.ls (ks.map D.str)), some (.fz (.str (S st))), some (.fz (.int sh)), some (.ns (.fz (.int c) :: .ls rs :: .ls es :: more)), some (.ls mk), a8, a9, a10, a11, a12, a13, a14, a15, a16]) (fnK [false] [.fz (.int cell)] fun r => ∃ d, IsWorld d ∧ r = (.fz d, [.fz (.int cell)])) := by
  rw [wt_law_world_1]
  simp
  refine wp_mono (p_law_names hd 48 many (by omega) (by omega)) fun r ⟨ns, hn, er⟩ => ?_
  subst er
  simp
  rw [rng_map]
  refine ⟨by omega, sl8 (by simp; omega), ?_⟩
  refine wp_lcGo (enc2 := fun p : List Nat × Str => D.tup [.str (S p.1), .str p.2]) (P := fun i p => ns[i]? = some p.1 ∧ ks[i]? = some p.2) (fun i hi => ?_) fun ps pl pp => ?_
  · have hi : i < many := by simpa using hi
    obtain ⟨n, en⟩ : ∃ n, ns[i]? = some n := ⟨_, List.getElem?_eq_getElem (by rw [hn.1]; exact hi)⟩
    obtain ⟨k, ek⟩ : ∃ n, ks[i]? = some n := ⟨_, List.getElem?_eq_getElem (by rw [hk.1]; exact hi)⟩
    simp [wipeE, en, ek]
  simp only [List.length_range] at pl
  have ep : ps = ns.zip ks := by
    apply List.ext_getElem?
    intro i
    rcases Nat.lt_or_ge i many with h | h
    · obtain ⟨z, ez⟩ : ∃ n, ps[i]? = some n := ⟨_, List.getElem?_eq_getElem (by rw [pl]; exact h)⟩
      have := pp i i z (by simp [h]) ez
      rw [ez]; symm; rw [List.getElem?_zip_eq_some]; exact this
    · rw [List.getElem?_eq_none (by omega), List.getElem?_eq_none (by simp [hk.1]; omega)]
  have hS : Sigs many ns ks st := ⟨hm.1, hm.2, hn, hk, hs⟩
  simp [O.fr, O.frs]
  exact ⟨many, ns, ks, st, _, _, _, _, hS, by rw [ep]; rfl⟩
theorem t_world_2 {many : Nat} {rows : List Int} (hd : Draws 60 rows) (hm : 0 < many ∧ many ≤ 4) {ks : List Str} {st : List Nat} (hk : ks.length = many ∧ ∀ k ∈ ks, k ∈ kindW) (hs : st.length = many ∧ ∀ c ∈ st, c = 48 ∨ c = 49) (cell sh c : Int) (rs es mk : List D) (more : List O) (a8 a9 a10 a11 a12 a13 a14 a15 a16 : Option O) :
    wp (t_law_world_2 [some (.fz (.int cell)), some (.fz (dI rows)), some (.fz (.int many)), some (.ls (ks.map D.str)), some (.fz (.str (S st))), some (.fz (.int sh)), some (.ns (.fz (.int c) :: .ls rs :: .ls es :: more)), some (.ls mk), a8, a9, a10, a11, a12, a13, a14, a15, a16]) (fnK [false] [.fz (.int cell)] fun r => ∃ d, IsWorld d ∧ r = (.fz d, [.fz (.int cell)])) := by
  rw [wt_law_world_2]
  have at60 : ∀ (a : Nat), a < 60 → ∃ x, rows[a]? = some x ∧ 0 ≤ x ∧ x < 4096 := fun a h => hd.get h
  obtain ⟨x58, e58, b58⟩ := at60 58 (by omega)
  obtain ⟨x57, e57, b57⟩ := at60 57 (by omega)
  obtain ⟨x56, e56, b56⟩ := at60 56 (by omega)
  have one := fun es => t_world_1 hd hm hk hs cell sh c rs es mk more a8 a9 a10 a11 a12 a13 a14 a15 a16
  have hmz : (0 : Int) < many := by omega
  by_cases c1 : x58 % 5 = 1
  · by_cases c2 : 0 < es.length
    · have q0 : 0 ≤ x57 % (es.length : Int) := Int.emod_nonneg _ (by omega)
      have q1 : x57 % (es.length : Int) < es.length := Int.emod_lt_of_pos _ (by omega)
      generalize em : (x57 % (es.length : Int)).toNat = m
      have ei : x57 % (es.length : Int) = (m : Int) := by omega
      have hm1 : m < es.length := by omega
      have c2' : ¬ es = [] := fun z => by subst z; simp at c2
      simp [e58, e57, e56, c1, c2, c2', ei, ixN_nat hm1, hm]
      exact wp_mono (one _) fun r h => by simpa using h
    · simp [e58, c1, c2]
      exact wp_mono (one _) fun r h => by simpa using h
  · simp [e58, c1]
    exact wp_mono (one _) fun r h => by simpa using h
end W

namespace W
open PySem PySem.Spec PyProof.Rows L2 Q
/-- the signals of one loop -/
def ownL (many loops g : Nat) : List Nat := (List.range many).filter fun k => k % loops == g
/-- the state of a world in the making -/
def MkW (cell : Int) (rows : List Int) (many : Nat) (st : List Nat) (sh : Int) (lo n : Nat) (ρ : Ev) : Prop := ∃ (ks : List Str) (c : Int) (rs es mk : List D) (a9 a10 a11 a12 a13 a14 a15 a16 : Option O), (ks.length = many ∧ ∀ k ∈ ks, k ∈ kindW) ∧ rs.length ≤ n ∧ es.length ≤ n ∧ mk.length ≤ n ∧
  ρ = [some (.fz (.int cell)), some (.fz (dI rows)), some (.fz (.int many)), some (.ls (ks.map D.str)), some (.fz (.str (S st))), some (.fz (.int sh)), some (.ns [.fz (.int c), .ls rs, .ls es]), some (.ls mk), some (.fz (.int lo)), a9, a10, a11, a12, a13, a14, a15, a16]
/-- within one loop -/
def MkI (cell : Int) (rows : List Int) (many : Nat) (st : List Nat) (sh : Int) (lo g n : Nat) (ρ : Ev) : Prop := ∃ (ks : List Str) (c en : Int) (rs es mk : List D) (a12 a13 a14 a15 a16 : Option O), (ks.length = many ∧ ∀ k ∈ ks, k ∈ kindW) ∧ rs.length ≤ n ∧ es.length ≤ n ∧ mk.length ≤ n ∧
  ρ = [some (.fz (.int cell)), some (.fz (dI rows)), some (.fz (.int many)), some (.ls (ks.map D.str)), some (.fz (.str (S st))), some (.fz (.int sh)), some (.ns [.fz (.int c), .ls rs, .ls es]), some (.ls mk), some (.fz (.int lo)), some (.fz (.int g)), some (.fz (lN (ownL many lo g))), some (.fz (.int en)), a12, a13, a14, a15, a16]
theorem MkI.out {cell : Int} {rows : List Int} {many : Nat} {st : List Nat} {sh : Int} {lo g n : Nat} {ρ : Ev} (h : MkI cell rows many st sh lo g n ρ) : MkW cell rows many st sh lo n ρ := by
  obtain ⟨ks, c, en, rs, es, mk, a12, a13, a14, a15, a16, h1, h2, h3, h4, er⟩ := h
  exact ⟨ks, c, rs, es, mk, _, _, _, _, _, _, _, _, h1, h2, h3, h4, er⟩
theorem kind_put {many : Nat} {ks : List Str} (hk : ks.length = many ∧ ∀ k ∈ ks, k ∈ kindW) (i : Nat) : (ks.set i "input").length = many ∧ ∀ k ∈ ks.set i "input", k ∈ kindW := ⟨by simp [hk.1], fun k h => by
  rcases List.mem_or_eq_of_mem_set h with q | q
  · exact hk.2 k q
  · subst q; simp [kindW]⟩
theorem p_world_1 {many : Nat} {rows : List Int} (hd : Draws 60 rows) (hm : 0 < many ∧ many ≤ 4) {st : List Nat} (hs : st.length = many) (cell sh : Int) (lo g n b : Nat) (hn : n ≤ 9000) (hb : b ≤ 1) (hg : g < lo ∧ lo ≤ many) (ρ : Ev) (h : MkI cell rows many st sh lo g n ρ) :
    wp (b_law_world_1 (ρ.set 12 (some (.fz (.int b))))) fun r => ∃ ρ', r = (.nx, ρ') ∧ MkI cell rows many st sh lo g (n + 200) ρ' := by
  obtain ⟨ks, c, en, rs, es, mk, a12, a13, a14, a15, a16, h1, h2, h3, h4, er⟩ := h
  subst er
  have oo : ∀ x ∈ ownL many lo g, x < many := fun x hx => by
    have := (List.mem_filter.mp hx).1
    simpa using this
  have on : ownL many lo g ≠ [] := List.ne_nil_of_mem (a := g) (List.mem_filter.mpr ⟨by simp; omega, by simp [Nat.mod_eq_of_lt hg.1]⟩)
  have ol : (ownL many lo g).length ≤ 40 := by
    have := List.length_filter_le (fun k => k % lo == g) (List.range many)
    simp only [List.length_range] at this
    unfold ownL; omega
  have q : (10 : Int) + 13 * (b : Int) + 5 * (g : Int) = ((10 + 13 * b + 5 * g : Nat) : Int) := by omega
  have q2 : (36 : Int) + 7 * (b : Int) = ((36 + 7 * b : Nat) : Int) := by omega
  unfold b_law_world_1
  simp
  rw [q]
  refine wp_mono (p_law_sequence hd (by omega) (10 + 13 * b + 5 * g) many (by omega) (ownL many lo g) st oo on ol hs) fun r ⟨es1, e1, e2, er⟩ => ?_
  subst er
  simp
  rw [q2]
  refine wp_mono (p_law_groups hd (by omega) (36 + 7 * b) many es1 e1 e2.2) fun r ⟨gs, g1, g2, g3, er⟩ => ?_
  subst er
  simp
  refine wp_mono (p_law_add_groups g1 g2 c rs es (by omega) (by omega) en) fun r ⟨c', rs', es', k1, k2, er⟩ => ?_
  subst er
  simp [putA]
  obtain ⟨e, ee⟩ : ∃ y, es1[0]? = some y := ⟨_, List.getElem?_eq_getElem (by omega)⟩
  have em := e1 e (List.mem_of_getElem? ee)
  by_cases c5 : sh = 5
  · simp [c5, ee, ixN_nat, h1.1, em]
    exact ⟨ks.set e.1 "input", c', en, rs', es', mk, _, _, _, _, _, kind_put h1 _, by omega, by omega, by omega, by simp [List.map_set]; exact ⟨rfl, rfl, rfl, rfl, rfl⟩⟩
  · simp [c5]
    exact ⟨ks, c', en, rs', es', mk, _, _, _, _, _, h1, by omega, by omega, by omega, rfl⟩
end W

namespace W
open PySem PySem.Spec PyProof.Rows L2 Q
theorem p_world_2 {many : Nat} {rows : List Int} (hd : Draws 60 rows) (hm : 0 < many ∧ many ≤ 4) {st : List Nat} (hs : st.length = many) (cell sh : Int) (lo g n : Nat) (hn : n ≤ 8000) (hg : g < lo ∧ lo ≤ many) (ρ : Ev) (h : MkW cell rows many st sh lo n ρ) :
    wp (b_law_world_2 (ρ.set 9 (some (.fz (.int g))))) fun r => ∃ ρ', r = (.nx, ρ') ∧ MkW cell rows many st sh lo (n + 500) ρ' := by
  obtain ⟨ks, c, rs, es, mk, a9, a10, a11, a12, a13, a14, a15, a16, h1, h2, h3, h4, er⟩ := h
  subst er
  unfold b_law_world_2
  simp
  rw [rng_map]
  refine ⟨by omega, sl8 (by simp; omega), ?_⟩
  have hz : mk.length < sizeLine := sl8' (by omega)
  rw [wp_eq (lcGo_filter (p := fun k : Nat => k % lo == g) (g := fun k : Nat => D.int (k : Nat)) fun x hx => ?_)]
  · simp [L2.ixN, hz]
    have fin : ∀ (b : Nat), b ≤ 2 → ∀ (ρ : Ev), MkI cell rows many st sh lo g (n + 1) ρ → wp (forGo (setT 12) b_law_world_1 (rngD 0 b) ρ) fun r => ∃ ρ', r = (.nx, ρ') ∧ MkW cell rows many st sh lo (n + 500) ρ' := by
      intro b hb ρ h
      refine wp_for_range (fun k ρ => MkI cell rows many st sh lo g (n + 1 + 200 * k) ρ) h (fun k ρ hk h => ?_) (fun ρ h => ?_)
      · simp only [wp_setT, Int.zero_add]
        refine wp_mono (p_world_1 hd hm hs cell sh lo g (n + 1 + 200 * k) k (by omega) (by omega) hg ρ h) fun r ⟨ρ', er, h'⟩ => ?_
        subst er
        simpa [Nat.mul_add, Nat.add_assoc] using h'
      · obtain ⟨ks, c, rs, es, mk, a9, a10, a11, a12, a13, a14, a15, a16, h1, h2, h3, h4, er⟩ := h.out
        exact ⟨ρ, rfl, ks, c, rs, es, mk, a9, a10, a11, a12, a13, a14, a15, a16, h1, by omega, by omega, by omega, er⟩
    have base : MkI cell rows many st sh lo g (n + 1) [some (.fz (.int cell)), some (.fz (dI rows)), some (.fz (.int many)), some (.ls (ks.map D.str)), some (.fz (.str (S st))), some (.fz (.int sh)), some (.ns [.fz (.int (c + 1)), .ls rs, .ls es]), some (.ls (mk ++ [D.int c])), some (.fz (.int lo)), some (.fz (.int g)), some (.fz (lN (ownL many lo g))), some (.fz (.int c)), a12, a13, a14, a15, a16] :=
      ⟨ks, _, _, _, _, _, _, _, _, _, _, h1, by omega, by omega, by simp; omega, rfl⟩
    by_cases c5 : sh = 5
    · simp [c5] at fin base ⊢
      refine wp_mono (fin 2 (by omega) _ base) fun r ⟨ρ', er, h'⟩ => ?_
      subst er
      simpa using h'
    · simp [c5]
      refine wp_mono (fin 1 (by omega) _ base) fun r ⟨ρ', er, h'⟩ => ?_
      subst er
      simpa using h'
  · simp [wipeE]
    have hlo : (0 : Int) < lo := by omega
    refine ⟨by omega, ?_⟩
    rw [Bool.eq_iff_iff]
    simp
    omega

theorem p_law_world (cell : Int) : wp (sem_law_world [.fz (.int cell)]) fun r => ∃ d, IsWorld d ∧ r = (.fz d, [.fz (.int cell)]) := by
  unfold sem_law_world
  rw [wp_fnF rfl]
  simp
  refine wp_mono (p_law_draws cell 60 (by omega)) fun r ⟨rows, hd, er⟩ => ?_
  subst er
  have at60 : ∀ (a : Nat), a < 60 → ∃ x, rows[a]? = some x ∧ 0 ≤ x ∧ x < 4096 := fun a h => hd.get h
  obtain ⟨x0, e0, b0⟩ := at60 0 (by omega)
  obtain ⟨x9, e9, b9⟩ := at60 9 (by omega)
  simp [e0, e9]
  generalize em : (1 + x0 % 4).toNat = many
  have ei : 1 + x0 % 4 = (many : Int) := by omega
  have hm : 0 < many ∧ many ≤ 4 := by omega
  rw [ei]
  rw [rng_map]
  refine ⟨by omega, sl8 (by simp; omega), ?_⟩
  refine wp_lcGo (enc2 := D.str) (P := fun _ k => k ∈ kindW) (fun i hi => ?_) fun ks kl kp => ?_
  · have hi : i < many := by simpa using hi
    obtain ⟨x, ex, bx⟩ := at60 (i + 1) (by omega)
    have e1 : (1 : Int) + (i : Int) = ((i : Int) + 1) := by omega
    obtain ⟨k, hk, hw⟩ := kindD_at x
    simp [wipeE, e1, ex, hk, hw]
  simp only [List.length_range] at kl
  refine ⟨by omega, sl8 (by simp; omega), ?_⟩
  refine wp_lcGo (enc2 := fun c => D.str (S [c])) (P := fun _ c => c = 48 ∨ c = 49) (fun i hi => ?_) fun st stl stp => ?_
  · have hi : i < many := by simpa using hi
    obtain ⟨x, ex, bx⟩ := at60 (i + 5) (by omega)
    have e1 : (5 : Int) + (i : Int) = (((i + 5 : Nat)) : Int) := by omega
    simp only [wipeE]
    simp
    rw [e1, atI_cast, List.getElem?_map, ex]
    simp
    have : x / 7 % 2 = 0 ∨ x / 7 % 2 = 1 := by omega
    rcases this with h | h <;> simp [h, show ("01" : Str) = S [48, 49] by decide, S_len] <;> decide
  simp only [List.length_range] at stl
  rw [wp_eq (joinD_S st (by omega))]
  have kmem : ∀ k ∈ ks, k ∈ kindW := fun k hk => by
    obtain ⟨i, hi, e⟩ := List.mem_iff_getElem.mp hk
    exact kp i i k (by simp [← kl, hi]) (by rw [List.getElem?_eq_getElem hi, e])
  have smem : ∀ c ∈ st, c = 48 ∨ c = 49 := fun k hk => by
    obtain ⟨i, hi, e⟩ := List.mem_iff_getElem.mp hk
    exact stp i i k (by simp [← stl, hi]) (by rw [List.getElem?_eq_getElem hi, e])
  have loop : ∀ (lo : Nat), 0 < lo ∧ lo ≤ 2 ∧ lo ≤ many → wp (forGo (setT 9) b_law_world_2 (rngD 0 lo) [some (.fz (.int cell)), some (.fz (dI rows)), some (.fz (.int many)), some (.ls (ks.map D.str)), some (.fz (.str (S st))), some (.fz (.int (x9 % 8))), some (.ns [.fz (.int 0), .ls [], .ls []]), some (.ls []), some (.fz (.int lo)), none, none, none, none, none, none, none, none]) fun r => ∃ ρ', r = (.nx, ρ') ∧ MkW cell rows many st (x9 % 8) lo 1000 ρ' := by
    intro lo hl
    refine wp_for_range (fun k ρ => MkW cell rows many st (x9 % 8) lo (500 * k) ρ) ⟨ks, 0, [], [], [], _, _, _, _, _, _, _, _, ⟨by omega, kmem⟩, by simp, by simp, by simp, rfl⟩ (fun k ρ hk h => ?_) (fun ρ h => ?_)
    · simp only [wp_setT, Int.zero_add]
      refine wp_mono (p_world_2 hd hm (by omega) cell (x9 % 8) lo k (500 * k) (by omega) (by omega) ρ h) fun r ⟨ρ', er, h'⟩ => ?_
      subst er
      simpa [Nat.mul_add] using h'
    · obtain ⟨ks, c, rs, es, mk, a9, a10, a11, a12, a13, a14, a15, a16, h1, h2, h3, h4, er⟩ := h
      exact ⟨ρ, rfl, ks, c, rs, es, mk, a9, a10, a11, a12, a13, a14, a15, a16, h1, by omega, by omega, by omega, er⟩
  have tail : ∀ ρ', MkW cell rows many st (x9 % 8) 1 1000 ρ' ∨ MkW cell rows many st (x9 % 8) 2 1000 ρ' → wp (t_law_world_2 ρ') (fnK [false] [.fz (.int cell)] fun r => ∃ d, IsWorld d ∧ r = (.fz d, [.fz (.int cell)])) := by
    rintro ρ' (⟨ks, c, rs, es, mk, a9, a10, a11, a12, a13, a14, a15, a16, h1, h2, h3, h4, er⟩ | ⟨ks, c, rs, es, mk, a9, a10, a11, a12, a13, a14, a15, a16, h1, h2, h3, h4, er⟩) <;> subst er
    · exact t_world_2 hd hm h1 ⟨by omega, smem⟩ cell _ c rs es mk [] _ a9 a10 a11 a12 a13 a14 a15 a16
    · exact t_world_2 hd hm h1 ⟨by omega, smem⟩ cell _ c rs es mk [] _ a9 a10 a11 a12 a13 a14 a15 a16
  by_cases c5 : 5 < x9 % 8
  · simp [c5]
    refine wp_mono (p_law_free_net hd many (by omega)) fun r ⟨c, rs, es, l, l1, l2, l3, er⟩ => ?_
    subst er
    simp [O.get, O.stp]
    exact t_world_2 hd hm ⟨by omega, kmem⟩ ⟨by omega, smem⟩ cell (x9 % 8) c rs es _ [.fz (tN l)] none none none none none none none none none
  · simp [c5]
    by_cases c4 : x9 % 8 = 4 ∧ 1 < many
    · have c4' : (1 : Int) < many := by omega
      rw [c4.1] at loop tail
      simp [c4.1, c4', c4.2]
      refine wp_mono (loop 2 (by omega)) fun r ⟨ρ', er, h⟩ => ?_
      subst er
      simp
      exact tail ρ' (.inr h)
    · by_cases c3 : x9 % 8 = 4
      · have c4' : ¬ (1 : Int) < many := fun z => c4 ⟨c3, by omega⟩
        rw [c3] at loop tail
        simp [c3, c4']
        refine wp_mono (loop 1 (by omega)) fun r ⟨ρ', er, h⟩ => ?_
        subst er
        simp
        exact tail ρ' (.inl h)
      · simp [c3]
        refine wp_mono (loop 1 (by omega)) fun r ⟨ρ', er, h⟩ => ?_
        subst er
        simp
        exact tail ρ' (.inl h)
end W

namespace W
open PySem PySem.Spec PyProof.Rows L2 Q
/-! ### gates, plainly -/
inductive Gt where
  | no | c (a b : Nat) | la (q : List Nat) | at (q : List Nat) | an (q : List Nat) | wr (o : Bool) (ws : List Nat)
def wn (o : Bool) : Str := if o then "or" else "all"
def enG : Gt → D
  | .no => .non
  | .c a b => .tup [.str "c", .int (a : Nat), .int (b : Nat)]
  | .la q => .tup [.str "latch", .tup [.str (S q)], .tup []]
  | .at q => .tup [.str "atomic", .tup [.str (S q)]]
  | .an q => .tup [.str "and", .str (S q)]
  | .wr o ws => .tup [.str (wn o), tN ws]
def Cube (w : Nat) (q : List Nat) : Prop := q.length = w ∧ ∀ c ∈ q, c = 48 ∨ c = 49 ∨ c = 45
def GOK (w m i : Nat) (inp : Bool) : Gt → Prop
  | .no => i < w ∧ inp = true
  | .c a b => i < w ∧ inp = false ∧ (w ≤ a ∧ a < m) ∧ (w ≤ b ∧ b < m) ∧ a ≠ b
  | .la q => i < w ∧ inp = false ∧ Cube w q
  | .at q => i < w ∧ inp = false ∧ Cube w q
  | .an q => w ≤ i ∧ Cube w q
  | .wr _ ws => w ≤ i ∧ ws.Pairwise (· < ·) ∧ ∀ x ∈ ws, w ≤ x ∧ x < i
/-- gates of a netlist over the signals -/
structure VN (ks : List Str) (gs : List Gt) : Prop where
  pos : 0 < ks.length
  lo : ks.length ≤ gs.length
  hi : gs.length ≤ 1000
  ok : ∀ i g, gs[i]? = some g → GOK ks.length gs.length i (ks[i]? == some "input") g
theorem asc_len : ∀ {ws : List Nat} {a m : Nat}, ws.Pairwise (· < ·) → (∀ x ∈ ws, a ≤ x ∧ x < m) → ws.length ≤ m - a
  | [], a, m, _, _ => by simp
  | x :: ws, a, m, h, hb => by
    have h1 := hb x (by simp)
    have := asc_len (a := x + 1) (m := m) (List.pairwise_cons.mp h).2 fun y hy => ⟨(List.pairwise_cons.mp h).1 y hy, (hb y (by simp [hy])).2⟩
    simp only [List.length_cons]; omega
theorem e_01d : ("01-" : Str) = S [48, 49, 45] := by decide
theorem p_is_cube {w : Nat} {q : List Nat} (h : Cube w q) (hw : w ≤ 1000) : sem_is_cube [.fz (.str (S q)), .fz (.int w)] = some (.fz (.bl true), [.fz (.str (S q)), .fz (.int w)]) := by
  refine of_wp ?_
  unfold sem_is_cube
  rw [wp_fnF rfl]
  have := h.1
  simp [S_len, e_01d, h.1]
  exact ⟨sl8 (by omega), h.2⟩
theorem p_are_cubes {w : Nat} {qs : List (List Nat)} (h : ∀ q ∈ qs, Cube w q) (hw : w ≤ 1000) : sem_are_cubes [.fz (.tup (qs.map fun q => .str (S q))), .fz (.int w)] = some (.fz (.bl true), [.fz (.tup (qs.map fun q => .str (S q))), .fz (.int w)]) := by
  refine of_wp ?_
  unfold sem_are_cubes
  rw [wp_fnF rfl]
  simp
  rw [wp_eq (evalGo_all (p := fun _ => true) fun q hq => ?_)]
  · simp
  · simp [wipeE, wp_eq (p_is_cube (h q hq) hw)]
theorem p_are_wires {ws : List Nat} {a m : Nat} (h : ws.Pairwise (· < ·)) (hb : ∀ x ∈ ws, a ≤ x ∧ x < m) : sem_are_wires [.fz (tN ws), .fz (.int a), .fz (.int m)] = some (.fz (.bl true), [.fz (tN ws), .fz (.int a), .fz (.int m)]) := by
  refine of_wp ?_
  unfold sem_are_wires
  rw [wp_fnF rfl]
  simp
  refine wp_for_list (enc := fun x : Nat => D.int (x : Nat)) (xs := ws) (fun done ρ => ∃ (la : Int) (b : Option O), (la = a - 1 ∨ ∃ y ∈ done, la = (y : Nat)) ∧ ρ = [some (.fz (tN ws)), some (.fz (.int a)), some (.fz (.int m)), some (.fz (.int la)), b]) ⟨_, none, .inl rfl, rfl⟩ (fun done x rest ρ e ⟨la, b, h1, er⟩ => ?_) (fun ρ ⟨la, b, h1, er⟩ => ?_)
  · subst er
    have hx := hb x (by rw [e]; simp)
    have c1 : ¬ (x : Int) ≤ la := by
      rcases h1 with h1 | ⟨y, hy, h1⟩
      · omega
      · rw [e] at h
        have := (List.pairwise_append.mp h).2.2 y hy x (by simp)
        omega
    have c2 : ¬ (m : Int) ≤ x := by omega
    simp [c1, c2]
  · subst er
    simp
theorem p_fits_inner {w m i : Nat} {inp : Bool} {g : Gt} (h : GOK w m i inp g) (hi : w ≤ i) (hw : w ≤ 1000) : sem_fits_inner [.fz (enG g), .fz (.int i), .fz (.int w)] = some (.fz (.bl true), [.fz (enG g), .fz (.int i), .fz (.int w)]) := by
  refine of_wp ?_
  unfold sem_fits_inner
  rw [wp_fnF rfl]
  cases g with
  | no => have := h.1; omega
  | c a b => have := h.1; omega
  | la q => have := h.1; omega
  | «at» q => have := h.1; omega
  | an q => simp [enG, wp_eq (p_is_cube h.2 hw)]
  | wr o ws => cases o <;> simp [enG, wn, wp_eq (p_are_wires h.2.1 h.2.2)]
theorem p_fits_signal {w m i : Nat} {inp : Bool} {g : Gt} (h : GOK w m i inp g) (hi : i < w) (hp : inp = false) (hw : w ≤ 1000) : sem_fits_signal [.fz (enG g), .fz (.int w), .fz (.int m)] = some (.fz (.bl true), [.fz (enG g), .fz (.int w), .fz (.int m)]) := by
  refine of_wp ?_
  unfold sem_fits_signal
  rw [wp_fnF rfl]
  cases g with
  | no => have := h.2; rw [hp] at this; cases this
  | c a b =>
    obtain ⟨_, _, h1, h2, h3⟩ := h
    have h3' : ¬ (a : Int) = b := by omega
    simp [enG, h1, h2, h3', h3]
  | la q =>
    have e1 := p_are_cubes (qs := [q]) (w := w) (by simpa using h.2.2) hw
    have e2 := p_are_cubes (qs := []) (w := w) (by simp) hw
    simp only [List.map_cons, List.map_nil] at e1 e2
    simp [enG, wp_eq e1, wp_eq e2]
  | «at» q =>
    have e1 := p_are_cubes (qs := [q]) (w := w) (by simpa using h.2.2) hw
    simp only [List.map_cons, List.map_nil] at e1
    simp [enG, wp_eq e1]
  | an q => have := h.1; omega
  | wr o ws => have := h.1; omega
end W

namespace W
open PySem PySem.Spec PyProof.Rows L2 Q
theorem enG_non (g : Gt) : Q.isNon (enG g) = true ↔ g = .no := by cases g <;> simp [enG]
theorem GOK.inp {w m i : Nat} {inp : Bool} {g : Gt} (h : GOK w m i inp g) : (i < w ∧ inp = true) ↔ g = .no := by
  cases g with
  | no => exact ⟨fun _ => rfl, fun _ => h⟩
  | c a b => exact ⟨fun z => (by have := h.2.1; rw [z.2] at this; cases this), fun z => nomatch z⟩
  | la q => exact ⟨fun z => (by have := h.2.1; rw [z.2] at this; cases this), fun z => nomatch z⟩
  | «at» q => exact ⟨fun z => (by have := h.2.1; rw [z.2] at this; cases this), fun z => nomatch z⟩
  | an q => exact ⟨fun z => (by have := h.1; omega), fun z => nomatch z⟩
  | wr o ws => exact ⟨fun z => (by have := h.1; omega), fun z => nomatch z⟩
def netFs (ns : List (List Nat)) (ks : List Str) (st : List Nat) (gs : List Gt) : List (Str × D) := [("signals", .tup ((ns.zip ks).map fun p => .tup [.str (S p.1), .str p.2])), ("start", .str (S st)), ("gates", .tup (gs.map enG))]
def netD (ns : List (List Nat)) (ks : List Str) (st : List Nat) (gs : List Gt) : D := .obj "Netlist" (netFs ns ks st gs)
def netO (ns : List (List Nat)) (ks : List Str) (st : List Nat) (gs : List Gt) : O := .ob "Netlist" ((netFs ns ks st gs).map fun p => (p.1, .fz p.2))
theorem kind_at {many : Nat} {ns : List (List Nat)} {ks : List Str} {st : List Nat} (h : Sigs many ns ks st) {i : Nat} (hi : i < many) : ∃ (n : List Nat) (k : Str), ks[i]? = some k ∧ ((ns.zip ks).map fun p : List Nat × Str => D.tup [.str (S p.1), .str p.2])[i]? = some (.tup [.str (S n), .str k]) := by
  obtain ⟨n, en⟩ : ∃ n, ns[i]? = some n := ⟨_, List.getElem?_eq_getElem (by rw [h.names.1]; exact hi)⟩
  obtain ⟨k, ek⟩ : ∃ n, ks[i]? = some n := ⟨_, List.getElem?_eq_getElem (by rw [h.kinds.1]; exact hi)⟩
  refine ⟨n, k, ek, ?_⟩
  rw [List.getElem?_map, (List.getElem?_zip_eq_some (z := (n, k))).mpr ⟨en, ek⟩]; rfl
theorem p_Netlist_init {many : Nat} {ns : List (List Nat)} {ks : List Str} {st : List Nat} {gs : List Gt} (h : Sigs many ns ks st) (v : VN ks gs) :
    sem_Netlist_init [.ob "Netlist" [], .fz (sigD ns ks), .fz (.str (S st)), .fz (.lst (gs.map enG))] = some (.fz .non, [netO ns ks st gs, .fz (sigD ns ks), .fz (.str (S st)), .fz (.lst (gs.map enG))]) := by
  refine of_wp ?_
  unfold sem_Netlist_init
  rw [wp_fnF rfl]
  have hz : (ns.zip ks).length = many := by simp [h.names.1, h.kinds.1]
  have hm := h.le
  have hp := h.pos
  have kl := h.kinds.1
  obtain ⟨v1, v2, v3, v4⟩ := v
  have n1 : ¬ (gs.length : Int) < many := by omega
  have n2 : ¬ (4000 : Int) < gs.length := by omega
  have n3 : ¬ many = 0 := by omega
  have c1 := p_is_code st h.start.2 (by rw [h.start.1]; omega)
  rw [h.start.1] at c1
  have hs : sigD ns ks = .lst ((ns.zip ks).map fun p => .tup [.str (S p.1), .str p.2]) := rfl
  have hsl : lenO [sigD ns ks] = some (.fz (.int many)) := by rw [hs]; simp [lenO_lst, ← hz]
  simp [wp_eq (p_are_signals h), wp_eq hsl, wp_eq c1, n1, n2, n3]
  refine ⟨by omega, ?_⟩
  refine wp_for_range (fun k ρ => ∃ (a5 a6 : Option O), ρ = [some (.ob "Netlist" []), some (.fz (sigD ns ks)), some (.fz (.str (S st))), some (.fz (.lst (gs.map enG))), some (.fz (.int many)), a5, a6, none, none]) ⟨none, none, rfl⟩ (fun k ρ hk ⟨a5, a6, er⟩ => ?_) (fun ρ ⟨a5, a6, er⟩ => ?_)
  · subst er
    obtain ⟨g, eg⟩ : ∃ y, gs[k]? = some y := ⟨_, List.getElem?_eq_getElem hk⟩
    have gg : gs[k] = g := by rw [List.getElem?_eq_getElem hk] at eg; exact Option.some.inj eg
    have gk := v4 k g eg
    rw [kl] at gk
    by_cases c : k < many
    · obtain ⟨n, kd, k1, k2⟩ := kind_at h c
      rw [k1] at gk
      have iu : wp (ixU (sigD ns ks) (.int (k : Nat))) (fun d => d = .tup [.str (S n), .str kd]) := by rw [hs, ixU_lst, atI_cast, k2]; simp
      have ie := of_wp iu
      by_cases c2 : kd = "input"
      · have hg : g = .no := gk.inp.mp ⟨c, by simp [c2]⟩
        subst hg
        simp [b_Netlist_init_1, eg, gg, c, ie, c2, enG]
      · have hg : ¬ g = .no := fun z => c2 (by have := (gk.inp.mpr z).2; simpa using this)
        have hn : Q.isNon (enG g) = false := by
          cases hq : Q.isNon (enG g) with
          | false => rfl
          | true => exact absurd ((enG_non g).mp hq) hg
        have c3 : ¬ (many : Int) ≤ k := by omega
        have c2' : (some kd == some ("input" : Str)) = false := by simp [c2]
        have fs := p_fits_signal gk c c2' (by omega)
        simp [b_Netlist_init_1, eg, gg, c, ie, c2, hn, c3, wp_eq fs]
    · have hg : ¬ g = .no := fun z => c (gk.inp.mpr z).1
      have hn : Q.isNon (enG g) = false := by
        cases hq : Q.isNon (enG g) with
        | false => rfl
        | true => exact absurd ((enG_non g).mp hq) hg
      have c3 : (many : Int) ≤ k := by omega
      have fs := p_fits_inner gk (by omega) (by omega)
      simp [b_Netlist_init_1, eg, gg, c, hn, c3, wp_eq fs]
  · subst er
    have hz2 : min ns.length ks.length = many := by simpa using hz
    simp [hs]
    refine ⟨sl8 (by omega), ?_⟩
    rw [wp_eq (lcGo_map (g := fun p : List Nat × Str => D.tup [.str (S p.1), .str p.2]) fun q hq => ?_)]
    · simp [putO, netO, netFs]
    · simp [wipeE]
end W

namespace W
open PySem PySem.Spec PyProof.Rows L2 Q
open Classical in
theorem wp_lcGo_some {α : Type} {enc : α → D} {tgt : TgF} {gt : BF} {ge : PF} {xs : List α} {ρ : Ev} {g : α → D} {Q : List D → Prop} (h : ∀ x ∈ xs, wp (tgt (enc x) ρ) fun ρ1 => wp (gt ρ1) fun b => b = true → wp (ge ρ1) fun y => y = g x) (k : ∀ p : α → Bool, Q ((xs.filter p).map g)) : wp (lcGo tgt gt ge ρ (xs.map enc)) Q := by
  have e := lcGo_filter (enc := enc) (tgt := tgt) (gt := gt) (ge := ge) (ρ := ρ) (xs := xs) (p := fun x => decide (∃ ρ1, tgt (enc x) ρ = some ρ1 ∧ gt ρ1 = some true)) (g := g) fun x hx => by
    obtain ⟨ρ1, e1, b, e2, h3⟩ := h x hx
    refine ⟨ρ1, e1, b, e2, ?_, fun hp => ?_⟩
    · rw [Bool.eq_iff_iff, decide_eq_true_iff]
      exact ⟨fun z => ⟨ρ1, e1, by rw [e2, z]⟩, fun ⟨ρ2, z1, z2⟩ => by
        rw [e1] at z1; cases z1
        rw [e2] at z2; exact Option.some.inj z2⟩
    · obtain ⟨ρ2, z1, z2⟩ := decide_eq_true_iff.mp hp
      rw [e1] at z1; cases z1
      rw [e2] at z2
      exact h3 (Option.some.inj z2)
  rw [wp_eq e]
  exact k _
theorem p_law_cube (d : Int) (w : Nat) (hw : w ≤ 1000) : wp (sem_law_cube [.fz (.int d), .fz (.int w)]) fun r => ∃ q, Cube w q ∧ r = (.fz (.str (S q)), [.fz (.int d), .fz (.int w)]) := by
  unfold sem_law_cube
  rw [wp_fnF rfl]
  simp
  refine ⟨by omega, ?_⟩
  refine wp_for_range (fun k ρ => ∃ (q : List Nat) (d1 : Int) (a : Option O), Cube k q ∧ ρ = [some (.fz (.int d1)), some (.fz (.int w)), some (.fz (.str (S q))), a]) ⟨[], d, none, ⟨rfl, by simp⟩, by rw [e_t0]⟩ (fun k ρ hk ⟨q, d1, a, h1, er⟩ => ?_) (fun ρ ⟨q, d1, a, h1, er⟩ => ?_)
  · subst er
    have fin : ∀ c, (c = 48 ∨ c = 49 ∨ c = 45) → Cube (k + 1) (q ++ [c]) := fun c hc => ⟨by simp [h1.1], fun y hy => by
      rcases List.mem_append.mp hy with z | z
      · exact h1.2 y z
      · simp at z; subst z; exact hc⟩
    have := h1.1
    have c3 : d1 % 3 = 0 ∨ d1 % 3 = 1 ∨ d1 % 3 = 2 := by omega
    rcases c3 with c | c | c
    · simp [b_law_cube_1, c, e_01d, S_len, S_app, chr1]
      exact ⟨sl8 (by omega), fin 48 (by simp)⟩
    · simp [b_law_cube_1, c, e_01d, S_len, S_app, chr1]
      exact ⟨sl8 (by omega), fin 49 (by simp)⟩
    · simp [b_law_cube_1, c, e_01d, S_len, S_app, chr1]
      exact ⟨sl8 (by omega), fin 45 (by simp)⟩
  · subst er
    simp
    exact h1
theorem far_off {m a z : Int} (h : 1 < m) (ha : 0 ≤ a ∧ a < m) (hz : 0 ≤ z ∧ z < m - 1) : a ≠ (a + 1 + z) % m := by
  by_cases c : a + 1 + z < m
  · rw [Int.emod_eq_of_lt (by omega) c]; omega
  · have e : (a + 1 + z) % m = (a + 1 + z - m) % m := by rw [Int.sub_emod_right]
    rw [e, Int.emod_eq_of_lt (by omega) (by omega)]; omega
/-- gates so far -/
def GsK (many m : Nat) (ks : List Str) (gs : List Gt) : Prop := ∀ i g, gs[i]? = some g → GOK many m i (ks[i]? == some "input") g
theorem GsK.add {many m : Nat} {ks : List Str} {gs : List Gt} (h : GsK many m ks gs) {g : Gt} (hg : GOK many m gs.length (ks[gs.length]? == some "input") g) : GsK many m ks (gs ++ [g]) := fun i x hx => by
  rcases Nat.lt_or_ge i gs.length with q | q
  · rw [List.getElem?_append_left q] at hx; exact h i x hx
  · have : i < (gs ++ [g]).length := (List.getElem?_eq_some_iff.mp hx).1
    simp at this
    obtain rfl : i = gs.length := by omega
    simp at hx; subst hx; exact hg
theorem p_law_qwired {many : Nat} {ns : List (List Nat)} {ks : List Str} {st : List Nat} (h : Sigs many ns ks st) (d0 d1 d2 d4 : D) (cell : Int) :
    wp (sem_law_qwired [.fz (.tup [d0, d1, d2, sigD ns ks, d4, .str (S st)]), .fz (.int cell)]) fun r => ∃ gs, VN ks gs ∧ gs.length ≤ 12 ∧ r = (.ls (gs.map enG), [.fz (.tup [d0, d1, d2, sigD ns ks, d4, .str (S st)]), .fz (.int cell)]) := by
  unfold sem_law_qwired
  rw [wp_fnF rfl]
  have hz : (ns.zip ks).length = many := by simp [h.names.1, h.kinds.1]
  have hm := h.le
  have hp := h.pos
  have kl := h.kinds.1
  have hs : sigD ns ks = .lst ((ns.zip ks).map fun p => .tup [.str (S p.1), .str p.2]) := rfl
  have hsl : lenO [sigD ns ks] = some (.fz (.int many)) := by rw [hs]; simp [lenO_lst, ← hz]
  simp
  refine wp_mono (p_law_draws cell 60 (by omega)) fun r ⟨rows, hd, er⟩ => ?_
  subst er
  have hr : rows.length = 60 := hd.1
  have at60 : ∀ (a : Nat), a < 60 → ∃ x, rows[a]? = some x ∧ 0 ≤ x ∧ x < 4096 := fun a h => hd.get h
  obtain ⟨x0, e0, b0⟩ := at60 0 (by omega)
  generalize em : (x0 % 9).toNat = more
  have ei : x0 % 9 = (more : Int) := by omega
  have hmo : more < 9 := by omega
  simp [hsl, e0, ei]
  have e : ((many : Int) + (more : Int)).toNat = many + more := by omega
  rw [e]
  refine ⟨by omega, ?_⟩
  refine wp_for_range (fun k ρ => ∃ (gs : List Gt) (a6 a7 a8 a9 a10 a11 a12 a13 : Option O), gs.length = k ∧ GsK many (many + more) ks gs ∧ ρ = [some (.fz (.tup [d0, d1, d2, sigD ns ks, d4, .str (S st)])), some (.fz (.int cell)), some (.fz (dI rows)), some (.fz (.int many)), some (.fz (.int more)), some (.ls (gs.map enG)), a6, a7, a8, a9, a10, a11, a12, a13])
    ⟨[], none, none, none, none, none, none, none, none, rfl, fun i g z => by simp at z, rfl⟩ (fun k ρ hk ⟨gs, a6, a7, a8, a9, a10, a11, a12, a13, h1, h2, er⟩ => ?_) (fun ρ ⟨gs, a6, a7, a8, a9, a10, a11, a12, a13, h1, h2, er⟩ => ?_)
  · subst er
    obtain ⟨x, ex, bx⟩ := at60 (k + 1) (by omega)
    obtain ⟨y, ey, bY⟩ := at60 (k + 20) (by omega)
    have ax : atI (rows.map D.int) (1 + (k : Int)) = some (.int x) := by rw [show (1 : Int) + (k : Int) = ((k + 1 : Nat) : Int) by omega, atI_cast, List.getElem?_map, ex]; rfl
    have ay : atI (rows.map D.int) (20 + (k : Int)) = some (.int y) := by rw [show (20 : Int) + (k : Int) = ((k + 20 : Nat) : Int) by omega, atI_cast, List.getElem?_map, ey]; rfl
    have hzl : gs.length < sizeLine := sl8' (by omega)
    simp only [wp_setT, Int.zero_add]
    unfold b_law_qwired_1
    simp [ax, ay]
    refine wp_mono (p_law_cube y many (by omega)) fun r ⟨q, hq, er⟩ => ?_
    subst er
    rw [rng_map]
    refine ⟨by omega, sl8 (by simp; omega), ?_⟩
    refine wp_lcGo_some (g := fun j : Nat => D.int ((many : Int) + (j : Int))) (fun j hj => ?_) fun p => ?_
    · obtain ⟨z, ez, bz⟩ := hd.at (by omega) ((k : Int) + ((many : Int) + (j : Int)))
      simp at ez
      simp [wipeE, ez]
    simp
    have fin : ∀ g, GOK many (many + more) k (ks[k]? == some "input") g → gs.length < sizeLine ∧ ∃ gs1, gs1.length = k + 1 ∧ GsK many (many + more) ks gs1 ∧ gs.map enG ++ [enG g] = gs1.map enG := fun g hg => ⟨hzl, gs ++ [g], by simp [h1], h2.add (by rw [h1]; exact hg), by simp⟩
    by_cases c : k < many
    · obtain ⟨n, kd, k1, k2⟩ := kind_at h c
      rw [k1] at fin
      have iu : wp (ixU (sigD ns ks) (.int (k : Nat))) (fun d => d = .tup [.str (S n), .str kd]) := by rw [hs, ixU_lst, atI_cast, k2]; simp
      have ie := of_wp iu
      by_cases c2 : kd = "input"
      · simp [c, ie, c2]
        exact fin .no ⟨c, by simp [c2]⟩
      · have c2' : (some kd == some ("input" : Str)) = false := by simp [c2]
        have fl : gs.length < sizeLine ∧ ∃ gs1, gs1.length = k + 1 ∧ GsK many (many + more) ks gs1 ∧ gs.map enG ++ [enG (.la q)] = gs1.map enG := fin (.la q) ⟨c, c2', hq⟩
        have fa : gs.length < sizeLine ∧ ∃ gs1, gs1.length = k + 1 ∧ GsK many (many + more) ks gs1 ∧ gs.map enG ++ [enG (.at q)] = gs1.map enG := fin (.at q) ⟨c, c2', hq⟩
        simp only [enG] at fl fa
        by_cases c3 : x % 5 < 3
        · by_cases c4 : 1 < more
          · have c4' : (1 : Int) < more := by omega
            simp [c, ie, c2, c3, c4']
            refine ⟨by omega, ?_⟩
            have o1 : 0 ≤ x / 5 % (more : Int) := Int.emod_nonneg _ (by omega)
            have o2 : x / 5 % (more : Int) < more := Int.emod_lt_of_pos _ (by omega)
            have z1 : 0 ≤ x / 64 % ((more : Int) - 1) := Int.emod_nonneg _ (by omega)
            have z2 : x / 64 % ((more : Int) - 1) < more - 1 := Int.emod_lt_of_pos _ (by omega)
            have t1 : 0 ≤ (x / 5 % (more : Int) + 1 + x / 64 % ((more : Int) - 1)) % (more : Int) := Int.emod_nonneg _ (by omega)
            have t2 : (x / 5 % (more : Int) + 1 + x / 64 % ((more : Int) - 1)) % (more : Int) < more := Int.emod_lt_of_pos _ (by omega)
            have ne := far_off (m := (more : Int)) c4' ⟨o1, o2⟩ ⟨z1, z2⟩
            generalize x / 5 % (more : Int) = one at o1 o2 ne t1 t2 ⊢
            generalize x / 64 % ((more : Int) - 1) = z at z1 z2 ne t1 t2 ⊢
            generalize (one + 1 + z) % (more : Int) = two at ne t1 t2 ⊢
            have := fin (.c (many + one.toNat) (many + two.toNat)) ⟨c, c2', by omega, by omega, by omega⟩
            simp only [enG] at this
            rw [show ((many + one.toNat : Nat) : Int) = (many : Int) + one by omega, show ((many + two.toNat : Nat) : Int) = (many : Int) + two by omega] at this
            exact this
          · have c4' : ¬ (1 : Int) < more := by omega
            simp [c, ie, c2, c3, c4', show ¬ x % 5 = 3 by omega]
            exact fa
        · by_cases c5 : x % 5 = 3
          · simp [c, ie, c2, c5]
            exact fl
          · simp [c, ie, c2, c3, c5]
            exact fa
    · have fn : gs.length < sizeLine ∧ ∃ gs1, gs1.length = k + 1 ∧ GsK many (many + more) ks gs1 ∧ gs.map enG ++ [enG (.an q)] = gs1.map enG := fin (.an q) ⟨by omega, hq⟩
      simp only [enG] at fn
      by_cases c6 : k = many
      · simp [c6]
        rw [c6] at fn
        exact fn
      · have c6' : ¬ (k : Int) = many := by omega
        by_cases c7 : x % 5 = 0
        · simp [c, c6', c7]
          exact fn
        · by_cases c8 : x % 5 < 3
          · simp [c, c6', c7, c8]
            refine ⟨by omega, ?_⟩
            have o1 : 0 ≤ x / 5 % ((k : Int) - many) := Int.emod_nonneg _ (by omega)
            have o2 : x / 5 % ((k : Int) - many) < (k : Int) - many := Int.emod_lt_of_pos _ (by omega)
            generalize x / 5 % ((k : Int) - many) = one at o1 o2 ⊢
            have := fin (.wr true [many + one.toNat]) ⟨by omega, by simp, fun y hy => by simp at hy; omega⟩
            simp only [enG, wn, if_true, tN, List.map_cons, List.map_nil] at this
            rw [show ((many + one.toNat : Nat) : Int) = (many : Int) + one by omega] at this
            exact this
          · have wr : ∀ o, gs.length < sizeLine ∧ ∃ gs1, gs1.length = k + 1 ∧ GsK many (many + more) ks gs1 ∧ gs.map enG ++ [enG (.wr o (((List.range (k - many)).filter p).map fun j => many + j))] = gs1.map enG := fun o => fin (.wr o _) ⟨by omega, by
              rw [List.pairwise_map]
              exact ((List.pairwise_lt_range).filter _).imp fun h => by omega, fun y hy => by
              obtain ⟨j, hj, rfl⟩ := List.mem_map.mp hy
              have := List.mem_range.mp (List.mem_filter.mp hj).1
              omega⟩
            have em : ((((List.range (k - many)).filter p).map fun j => many + j).map fun x : Nat => D.int (x : Nat)) = ((List.range (k - many)).filter p).map fun j : Nat => D.int ((many : Int) + (j : Int)) := by
              rw [List.map_map]
              exact List.map_congr_left fun j _ => by simp
            have w5 : x % 5 = 3 ∨ x % 5 = 4 := by omega
            rcases w5 with c5 | c5
            · have := wr false
              simp only [enG, wn, tN, em] at this
              simp [c, c6', c5]
              simpa using this
            · have := wr true
              simp only [enG, wn, tN, em] at this
              simp [c, c6', c5]
              simpa using this
  · subst er
    simp
    exact ⟨gs, ⟨by omega, by omega, by omega, by rw [kl, h1]; exact h2⟩, by omega, rfl⟩
end W

namespace W
open PySem PySem.Spec PyProof.Rows L2 Q
theorem g_no : enG .no = .non := rfl
theorem g_c {a b : Nat} : enG (.c a b) = .tup [.str "c", .int (a : Nat), .int (b : Nat)] := rfl
theorem g_la {q : List Nat} : enG (.la q) = .tup [.str "latch", .tup [.str (S q)], .tup []] := rfl
theorem g_at {q : List Nat} : enG (.at q) = .tup [.str "atomic", .tup [.str (S q)]] := rfl
theorem g_an {q : List Nat} : enG (.an q) = .tup [.str "and", .str (S q)] := rfl
theorem g_or {ws : List Nat} : enG (.wr true ws) = .tup [.str "or", tN ws] := rfl
theorem g_all {ws : List Nat} : enG (.wr false ws) = .tup [.str "all", tN ws] := rfl
@[simp] theorem net_gates {ns : List (List Nat)} {ks : List Str} {st : List Nat} {gs : List Gt} : atD ["Netlist"] "gates" (netD ns ks st gs) = some (.tup (gs.map enG)) := rfl
@[simp] theorem net_start {ns : List (List Nat)} {ks : List Str} {st : List Nat} {gs : List Gt} : atD ["Netlist"] "start" (netD ns ks st gs) = some (.str (S st)) := rfl
@[simp] theorem net_signals {ns : List (List Nat)} {ks : List Str} {st : List Nat} {gs : List Gt} : atD ["Netlist"] "signals" (netD ns ks st gs) = some (.tup ((ns.zip ks).map fun p => .tup [.str (S p.1), .str p.2])) := rfl
@[simp] theorem net_prK {f : FS} {ns : List (List Nat)} {ks : List Str} {st : List Nat} {gs : List Gt} {Q : O → Prop} : prK "Netlist" f Q (netD ns ks st gs) ↔ wp (f [.fz (netD ns ks st gs)]) fun r => Q r.1 := by
  unfold netD; simp
def ins : Gt → List Nat
  | .c a b => [a, b]
  | .wr _ ws => ws
  | _ => []
/-- one step towards the source -/
def stp (gs : List Gt) (w : Nat) : Nat := match gs[w]? with
  | some (.wr true [x]) => x
  | _ => w
def itr (gs : List Gt) : Nat → Nat → Nat
  | 0, w => w
  | k + 1, w => itr gs k (stp gs w)
def src (gs : List Gt) (w : Nat) : Nat := itr gs gs.length w
theorem itr_succ (gs : List Gt) : ∀ (k w : Nat), itr gs (k + 1) w = stp gs (itr gs k w)
  | 0, w => rfl
  | k + 1, w => by rw [itr, itr_succ gs k, itr]
theorem stp_ok {ks : List Str} {gs : List Gt} (v : VN ks gs) {w : Nat} (hw : ks.length ≤ w) : ks.length ≤ stp gs w ∧ stp gs w ≤ w := by
  unfold stp
  split
  · rename_i x e
    have h := v.ok w _ e
    have := h.2.2 x (by simp)
    omega
  · omega
theorem itr_ok {ks : List Str} {gs : List Gt} (v : VN ks gs) : ∀ (k w : Nat), ks.length ≤ w → ks.length ≤ itr gs k w ∧ itr gs k w ≤ w
  | 0, w, h => ⟨h, Nat.le_refl _⟩
  | k + 1, w, h => by
    have h1 := stp_ok v h
    have h2 := itr_ok v k (stp gs w) h1.1
    rw [itr]; omega
theorem itr_fix0 {gs : List Gt} {w : Nat} (h : stp gs w = w) : ∀ k, itr gs k w = w
  | 0 => rfl
  | k + 1 => by rw [itr, h]; exact itr_fix0 h k
theorem itr_fix {ks : List Str} {gs : List Gt} (v : VN ks gs) : ∀ (n w : Nat), ks.length ≤ w → w < n → stp gs (itr gs n w) = itr gs n w
  | 0, w, _, h => by omega
  | n + 1, w, hw, h => by
    have h1 := stp_ok v hw
    by_cases c : stp gs w = w
    · rw [itr_fix0 c]; exact c
    · rw [itr]
      exact itr_fix v n (stp gs w) h1.1 (by omega)
theorem src_fix {ks : List Str} {gs : List Gt} (v : VN ks gs) {w : Nat} (hw : ks.length ≤ w) (h : w < gs.length) : stp gs (src gs w) = src gs w := itr_fix v gs.length w hw h
theorem src_stp {ks : List Str} {gs : List Gt} (v : VN ks gs) {w : Nat} (hw : ks.length ≤ w) (h : w < gs.length) : src gs (stp gs w) = src gs w := by
  have h1 := src_fix v hw h
  unfold src at h1 ⊢
  rw [← itr_succ] at h1
  rw [itr] at h1
  exact h1
theorem src_ok {ks : List Str} {gs : List Gt} (v : VN ks gs) {w : Nat} (hw : ks.length ≤ w) : ks.length ≤ src gs w ∧ src gs w ≤ w := itr_ok v _ w hw
theorem src_at {gs : List Gt} {w : Nat} (h : stp gs w = w) : src gs w = w := itr_fix0 h _
/-- an inner wire has a gate of its kind -/
theorem inner_gate {ks : List Str} {gs : List Gt} (v : VN ks gs) {w : Nat} (hw : ks.length ≤ w) (h : w < gs.length) : ∃ g, gs[w]? = some g ∧ ((∃ q, g = .an q) ∨ ∃ o ws, g = .wr o ws) := by
  obtain ⟨g, eg⟩ : ∃ y, gs[w]? = some y := ⟨_, List.getElem?_eq_getElem h⟩
  have k := v.ok w g eg
  refine ⟨g, eg, ?_⟩
  cases g with
  | no => have := k.1; omega
  | c a b => have := k.1; omega
  | la q => have := k.1; omega
  | «at» q => have := k.1; omega
  | an q => exact .inl ⟨q, rfl⟩
  | wr o ws => exact .inr ⟨o, ws, rfl⟩
theorem stp_an {gs : List Gt} {w : Nat} {q : List Nat} (h : gs[w]? = some (.an q)) : stp gs w = w := by unfold stp; rw [h]
theorem stp_all {gs : List Gt} {w : Nat} {ws : List Nat} (h : gs[w]? = some (.wr false ws)) : stp gs w = w := by unfold stp; rw [h]
theorem stp_or {gs : List Gt} {w x : Nat} (h : gs[w]? = some (.wr true [x])) : stp gs w = x := by unfold stp; rw [h]
theorem stp_many {gs : List Gt} {w : Nat} {ws : List Nat} (h : gs[w]? = some (.wr true ws)) (hl : ws.length ≠ 1) : stp gs w = w := by
  unfold stp; rw [h]
  split
  · rename_i x e; cases e; simp at hl
  · rfl
theorem p_source {ns : List (List Nat)} {ks : List Str} {st : List Nat} {gs : List Gt} (v : VN ks gs) {w : Nat} (hw : ks.length ≤ w) (h : w < gs.length) :
    sem_source [.fz (netD ns ks st gs), .fz (.int w)] = some (.fz (.int (src gs w)), [.fz (netD ns ks st gs), .fz (.int w)]) := by
  refine of_wp ?_
  unfold sem_source
  rw [wp_fnF rfl]
  obtain ⟨g, eg, gk⟩ := inner_gate v hw h
  have gg : gs[w] = g := by rw [List.getElem?_eq_getElem h] at eg; exact Option.some.inj eg
  simp [eg]
  refine wp_while (fun m ρ => ∃ (u : Nat) (g : Gt), m = u ∧ (ks.length ≤ u ∧ u < gs.length) ∧ gs[u]? = some g ∧ src gs u = src gs w ∧ ρ = [some (.fz (netD ns ks st gs)), some (.fz (.int u)), some (.fz (enG g))]) (fun m ρ ⟨u, g, em, hu, eg, es, er⟩ => ?_) w _ ⟨w, g, rfl, ⟨hw, h⟩, eg, rfl, rfl⟩
  subst em er
  obtain ⟨g', eg', gk⟩ := inner_gate v hu.1 hu.2
  obtain rfl : g' = g := by rw [eg] at eg'; exact (Option.some.inj eg').symm
  have fin : stp gs m = m → src gs w = m := fun z => by rw [← es]; exact src_at z
  rcases gk with ⟨q, rfl⟩ | ⟨o, ws, rfl⟩
  · simp [g_an, fin (stp_an eg)]
  · cases o with
    | false => simp [g_an, g_or, g_all, fin (stp_all eg)]
    | true =>
      by_cases c : ws.length = 1
      · obtain ⟨x, rfl⟩ := List.length_eq_one_iff.mp c
        have hx := (v.ok m _ eg).2.2 x (by simp)
        have hxl : x < gs.length := by omega
        obtain ⟨g2, eg2, _⟩ := inner_gate v hx.1 hxl
        have hs := src_stp v hu.1 hu.2
        rw [stp_or eg] at hs
        simp [g_an, g_or, g_all, eg2]
        exact ⟨x, by omega, ⟨hx.1, hxl⟩, g2, eg2, by rw [hs, es], rfl, rfl⟩
      · have c' : ¬ (ws.length : Int) = 1 := by omega
        simp [g_an, g_or, g_all, c', fin (stp_many eg c)]
end W

namespace W
open PySem PySem.Spec PyProof.Rows L2 Q
theorem p_law_qsource {ks : List Str} {gs : List Gt} (v : VN ks gs) {w : Nat} (hw : ks.length ≤ w) (h : w < gs.length) :
    sem_law_qsource [.fz (.lst (gs.map enG)), .fz (.int w)] = some (.fz (.int (src gs w)), [.fz (.lst (gs.map enG)), .fz (.int w)]) := by
  refine of_wp ?_
  unfold sem_law_qsource
  rw [wp_fnF rfl]
  have hi := v.hi
  simp
  refine ⟨by omega, ?_⟩
  refine wp_for_range (fun k ρ => ∃ (a : Option O), ρ = [some (.fz (.lst (gs.map enG))), some (.fz (.int (itr gs k w))), a]) ⟨none, rfl⟩ (fun k ρ hk ⟨a, er⟩ => ?_) (fun ρ ⟨a, er⟩ => ?_)
  · subst er
    have hu := itr_ok v k w hw
    obtain ⟨g, eg, gk⟩ := inner_gate v hu.1 (by omega)
    have hs := itr_succ gs k w
    generalize itr gs k w = u at *
    rw [hs]
    rcases gk with ⟨q, rfl⟩ | ⟨o, ws, rfl⟩
    · simp [eg, g_an, stp_an eg]
    · cases o with
      | false => simp [eg, g_all, stp_all eg]
      | true =>
        by_cases c : ws.length = 1
        · obtain ⟨x, rfl⟩ := List.length_eq_one_iff.mp c
          simp [eg, g_or, stp_or eg]
        · have c' : ¬ (ws.length : Int) = 1 := by omega
          simp [eg, g_or, c', stp_many eg c]
  · subst er
    simp [src]
theorem p_inner_inputs (g : Gt) : sem_inner_inputs [.fz (enG g)] = some (.fz (tN (ins g)), [.fz (enG g)]) := by
  refine of_wp ?_
  unfold sem_inner_inputs
  rw [wp_fnF rfl]
  cases g with
  | no => simp [g_no, ins]
  | c a b => simp [g_c, ins]
  | la q => simp [g_la, ins]
  | «at» q => simp [g_at, ins]
  | an q => simp [g_an, ins]
  | wr o ws => cases o <;> simp [g_or, g_all, ins]
abbrev iN (l : List Nat) : List D := l.map fun x => .int (x : Nat)
theorem p_law_qreads (g : Gt) : sem_law_qreads [.fz (enG g)] = some (.ls (iN (ins g)), [.fz (enG g)]) := by
  refine of_wp ?_
  unfold sem_law_qreads
  rw [wp_fnF rfl]
  have i1 := fun x : Str => inS_tup x ["and", "atomic", "latch"]
  simp only [List.map_cons, List.map_nil] at i1
  cases g with
  | no => simp [g_no, ins]
  | c a b => simp [g_c, ins, i1]
  | la q => simp [g_la, ins, i1]
  | «at» q => simp [g_at, ins, i1]
  | an q => simp [g_an, ins, i1]
  | wr o ws => cases o <;> simp [g_or, g_all, ins, i1]
theorem inF_ints (x : Nat) (l : List Nat) : inF (.int (x : Nat)) (iN l) = some (decide (x ∈ l)) := by
  induction l with
  | nil => rfl
  | cons y l ih =>
    simp only [iN, List.map_cons] at ih ⊢
    have e : eqF (.int (y : Nat)) (.int (x : Nat)) = some (decide (y = x)) := by
      simp only [eqF]; by_cases h : y = x <;> simp [h]
      omega
    simp only [inF, ih, e, Option.bind_some, Option.map_some]
    by_cases h : y = x
    · subst h; simp
    · have h2 : ¬ x = y := fun z => h z.symm
      simp [h, h2]
theorem inS_nats (x : Nat) (l : List Nat) : inS (.int (x : Nat)) (lN l) = some (decide (x ∈ l)) := by
  simp only [inS, flatD, if_true, inO]
  exact inF_ints x l
/-- what the signals read, and downwards what that needs -/
def F0 (gs : List Gt) (n : Nat) : List Nat := (gs.take n).flatMap ins
def insAt (gs : List Gt) (i : Nat) : List Nat := (gs[i]?.map ins).getD []
def dn (gs : List Gt) (w : Nat) : Nat → List Nat → List Nat
  | 0, f => f
  | k + 1, f => let f1 := dn gs w k f
    if w ≤ gs.length - 1 - k ∧ gs.length - 1 - k ∈ f1 then f1 ++ insAt gs (gs.length - 1 - k) else f1
def found (gs : List Gt) (w : Nat) : List Nat := dn gs w gs.length (F0 gs w)
def need (gs : List Gt) (w : Nat) : List Nat := ((List.range (gs.length - w)).map (w + ·)).filter fun x => x ∈ found gs w
theorem F0_succ {gs : List Gt} {n : Nat} {g : Gt} (h : gs[n]? = some g) : F0 gs (n + 1) = F0 gs n ++ ins g := by
  unfold F0
  rw [List.take_add_one, h]
  simp
theorem ins_lt {ks : List Str} {gs : List Gt} (v : VN ks gs) {i : Nat} {g : Gt} (h : gs[i]? = some g) : ∀ x ∈ ins g, ks.length ≤ x ∧ x < gs.length := fun x hx => by
  have k := v.ok i g h
  have hi : i < gs.length := (List.getElem?_eq_some_iff.mp h).1
  cases g with
  | no => cases hx
  | c a b =>
    simp [ins] at hx
    obtain ⟨_, _, h1, h2, _⟩ := k
    rcases hx with rfl | rfl
    · exact h1
    · exact h2
  | la q => cases hx
  | «at» q => cases hx
  | an q => cases hx
  | wr o ws =>
    have := k.2.2 x hx
    omega
theorem ins_len {ks : List Str} {gs : List Gt} (v : VN ks gs) {i : Nat} {g : Gt} (h : gs[i]? = some g) : (ins g).length ≤ gs.length + 2 := by
  have k := v.ok i g h
  have hi : i < gs.length := (List.getElem?_eq_some_iff.mp h).1
  cases g with
  | no => simp [ins]
  | c a b => simp [ins]
  | la q => simp [ins]
  | «at» q => simp [ins]
  | an q => simp [ins]
  | wr o ws =>
    have := asc_len (a := 0) (m := i) k.2.1 fun x hx => ⟨Nat.zero_le _, (k.2.2 x hx).2⟩
    simp only [ins]; omega
theorem insAt_len {ks : List Str} {gs : List Gt} (v : VN ks gs) (i : Nat) : (insAt gs i).length ≤ gs.length + 2 := by
  unfold insAt
  cases h : gs[i]? with
  | none => simp
  | some g => simpa using ins_len v h
theorem F0_len {ks : List Str} {gs : List Gt} (v : VN ks gs) : ∀ n, (F0 gs n).length ≤ n * (gs.length + 2)
  | 0 => by simp [F0]
  | n + 1 => by
    have ih := F0_len v n
    cases h : gs[n]? with
    | none =>
      have : F0 gs (n + 1) = F0 gs n := by
        unfold F0; rw [List.take_add_one, h]; simp
      rw [this, Nat.add_mul]; omega
    | some g =>
      have := ins_len v h
      rw [F0_succ h, List.length_append, Nat.add_mul]; omega
theorem dn_len {ks : List Str} {gs : List Gt} (v : VN ks gs) (w : Nat) (f : List Nat) : ∀ k, (dn gs w k f).length ≤ f.length + k * (gs.length + 2)
  | 0 => by simp [dn]
  | k + 1 => by
    have ih := dn_len v w f k
    have := insAt_len v (gs.length - 1 - k)
    simp only [dn]
    rw [Nat.add_mul]
    split
    · rw [List.length_append]; omega
    · omega
end W

namespace W
open PySem PySem.Spec PyProof.Rows L2 Q
structure IsSeq (d : D) (l : List D) : Prop where
  it : ∀ Q, itK Q d ↔ Q l
  ix : ∀ i, ixU d (.int i) = atI l i
  len : lenO [d] = some (.fz (.int l.length))
theorem isSeq_tup (l : List D) : IsSeq (.tup l) l := ⟨fun _ => Iff.rfl, fun _ => rfl, rfl⟩
theorem isSeq_lst (l : List D) : IsSeq (.lst l) l := ⟨fun _ => Iff.rfl, fun _ => rfl, rfl⟩
def mkd (f : List Nat) (m : Nat) : List D := (List.range m).map fun x => D.bl (decide (x ∈ f))
theorem mkd_len (f : List Nat) (m : Nat) : (mkd f m).length = m := by simp [mkd]
theorem mkd_set {f : List Nat} {m x : Nat} (h : x < m) : (mkd f m).set x (.bl true) = mkd (f ++ [x]) m := by
  apply List.ext_getElem?
  intro i
  rw [List.getElem?_set]
  simp only [mkd_len]
  by_cases c : x = i
  · subst c
    simp [h, mkd]
  · rw [if_neg c]
    rcases Nat.lt_or_ge i m with q | q
    · have c' : ¬ i = x := fun z => c z.symm
      simp [mkd, q, c']
    · simp [mkd, q]
theorem mkd_at {f : List Nat} {m x : Nat} (h : x < m) : (mkd f m)[x]? = some (.bl (decide (x ∈ f))) := by simp [mkd, h]
theorem dn_stay (gs : List Gt) (w : Nat) (hw : 0 < w) (hl : w ≤ gs.length) (f : List Nat) : ∀ j, dn gs w (gs.length - w + j) f = dn gs w (gs.length - w) f
  | 0 => rfl
  | j + 1 => by
    have ih := dn_stay gs w hw hl f j
    rw [← Nat.add_assoc, dn]
    rw [if_neg (by omega), ih]
theorem found_eq (gs : List Gt) (w : Nat) (hw : 0 < w) (hl : w ≤ gs.length) : found gs w = dn gs w (gs.length - w) (F0 gs w) := by
  unfold found
  have := dn_stay gs w hw hl (F0 gs w) w
  rwa [show gs.length - w + w = gs.length by omega] at this
theorem need_filter (gs : List Gt) (w : Nat) : need gs w = ((List.range (gs.length - w)).filter fun j => decide (w + j ∈ found gs w)).map (w + ·) := by
  unfold need
  rw [List.filter_map]; rfl
theorem p_needed_wires {ks : List Str} {gs : List Gt} (v : VN ks gs) {d : D} (hs : IsSeq d (gs.map enG)) :
    sem_needed_wires [.fz d, .fz (.int ks.length)] = some (.ls (iN (need gs ks.length)), [.fz d, .fz (.int ks.length)]) := by
  refine of_wp ?_
  unfold sem_needed_wires
  rw [wp_fnF rfl]
  have hi := v.hi
  have lo := v.lo
  have pos := v.pos
  have hlen := hs.len
  simp only [List.length_map] at hlen
  simp [hs.it]
  refine ⟨sl8 (by omega), ?_⟩
  rw [wp_eq (lcGo_map (g := fun _ : Gt => D.bl false) fun q hq => by simp [wipeE])]
  have e0 : (gs.map fun _ => D.bl false) = mkd [] gs.length := by
    apply List.ext_getElem?
    intro i
    rcases Nat.lt_or_ge i gs.length with q | q
    · simp [mkd, q]
    · simp [mkd, q]
  rw [e0]
  have inner : ∀ (b : SF), (∀ (f : List Nat) (y : Nat) (a3 : Option O), y < gs.length → wp (b [some (.fz d), some (.fz (.int ks.length)), some (.ls (mkd f gs.length)), a3, some (.fz (.int y)), none]) fun r => r = (.nx, [some (.fz d), some (.fz (.int ks.length)), some (.ls (mkd (f ++ [y]) gs.length)), a3, some (.fz (.int y)), none])) →
      ∀ (g : Gt) (i : Nat) (f : List Nat) (a3 a4 : Option O), gs[i]? = some g → wp (forGo (setT 4) b (iN (ins g)) [some (.fz d), some (.fz (.int ks.length)), some (.ls (mkd f gs.length)), a3, a4, none]) fun r => ∃ a4, r = (.nx, [some (.fz d), some (.fz (.int ks.length)), some (.ls (mkd (f ++ ins g) gs.length)), a3, a4, none]) := by
    intro b hb g i f a3 a4 eg
    refine wp_for_list (enc := fun x : Nat => D.int (x : Nat)) (xs := ins g) (fun done ρ => ∃ a4, ρ = [some (.fz d), some (.fz (.int ks.length)), some (.ls (mkd (f ++ done) gs.length)), a3, a4, none]) ⟨a4, by simp⟩ (fun done x rest ρ e ⟨a4, er⟩ => ?_) (fun ρ ⟨a4, er⟩ => ?_)
    · subst er
      have hx := ins_lt v eg x (by rw [e]; simp)
      simp only [wp_setT, List.set]
      refine wp_mono (hb (f ++ done) x a3 hx.2) fun r er => ?_
      subst er
      simp
    · exact ⟨a4, by rw [er]⟩
  have i1 := inner b_needed_wires_1 fun f y a3 hy => by simp [b_needed_wires_1, mkd_len, ixN_nat hy, mkd_set hy]
  have i3 := inner b_needed_wires_3 fun f y a3 hy => by simp [b_needed_wires_3, mkd_len, ixN_nat hy, mkd_set hy]
  refine ⟨by omega, ?_⟩
  refine wp_for_range (fun k ρ => ∃ (a3 a4 : Option O), ρ = [some (.fz d), some (.fz (.int ks.length)), some (.ls (mkd (F0 gs k) gs.length)), a3, a4, none]) ⟨none, none, by simp [F0]⟩ (fun k ρ hk ⟨a3, a4, er⟩ => ?_) (fun ρ ⟨a3, a4, er⟩ => ?_)
  · subst er
    obtain ⟨g, eg⟩ : ∃ y, gs[k]? = some y := ⟨_, List.getElem?_eq_getElem (by omega)⟩
    simp only [wp_setT, Int.zero_add]
    unfold b_needed_wires_2
    simp [hs.ix, eg, wp_eq (p_inner_inputs g)]
    refine wp_mono (i1 g k _ _ _ eg) fun r ⟨a4, er⟩ => ?_
    subst er
    simp [F0_succ eg]
  · subst er
    have en : stepN ((gs.length : Int) - 1) ((ks.length : Int) - 1) (-1) = some (gs.length - ks.length) := by
      unfold stepN
      rw [if_pos (by omega), if_pos rfl]
      congr 1; omega
    simp [hlen, en]
    refine wp_for_list (enc := fun k : Nat => D.int ((gs.length : Int) - 1 + -(k : Int))) (xs := List.range (gs.length - ks.length)) (fun done ρ => ∃ (a3 a4 : Option O), ρ = [some (.fz d), some (.fz (.int ks.length)), some (.ls (mkd (dn gs ks.length done.length (F0 gs ks.length)) gs.length)), a3, a4, none]) ⟨_, _, rfl⟩ (fun done x rest ρ e ⟨a3, a4, er⟩ => ?_) (fun ρ ⟨a3, a4, er⟩ => ?_)
    · subst er
      have hl : done.length < gs.length - ks.length := by have := congrArg List.length e; simp at this; omega
      have hx : x = done.length := by
        have : (List.range (gs.length - ks.length))[done.length]? = some x := by rw [e]; simp
        rw [List.getElem?_range hl] at this
        exact (Option.some.inj this).symm
      subst hx
      have ei : (gs.length : Int) - 1 + -(done.length : Int) = ((gs.length - 1 - done.length : Nat) : Int) := by omega
      have hj : gs.length - 1 - done.length < gs.length := by omega
      obtain ⟨g, eg⟩ : ∃ y, gs[gs.length - 1 - done.length]? = some y := ⟨_, List.getElem?_eq_getElem hj⟩
      simp only [wp_setT, ei]
      unfold b_needed_wires_4
      have c1 : ks.length ≤ gs.length - 1 - done.length := by omega
      have ia : insAt gs (gs.length - 1 - done.length) = ins g := by simp [insAt, eg]
      have em := mkd_at (f := dn gs ks.length done.length (F0 gs ks.length)) hj
      have ed : dn gs ks.length (done.length + 1) (F0 gs ks.length) = if ks.length ≤ gs.length - 1 - done.length ∧ gs.length - 1 - done.length ∈ dn gs ks.length done.length (F0 gs ks.length) then dn gs ks.length done.length (F0 gs ks.length) ++ ins g else dn gs ks.length done.length (F0 gs ks.length) := by rw [dn]; simp only [ia]
      rw [List.length_append, List.length_singleton, ed]
      generalize gs.length - 1 - done.length = j at *
      generalize dn gs ks.length done.length (F0 gs ks.length) = f at *
      by_cases c2 : j ∈ f
      · rw [if_pos ⟨c1, c2⟩]
        simp [em, c2, hs.ix, eg, wp_eq (p_inner_inputs g)]
        refine wp_mono (i3 g j f _ _ eg) fun r ⟨a4, er⟩ => ?_
        subst er
        simp
      · rw [if_neg fun z => c2 z.2]
        simp [em, c2]
    · subst er
      simp only [List.length_range, ← found_eq gs ks.length pos lo]
      simp [hlen]
      rw [rng_map]
      refine ⟨by omega, sl8 (by simp; omega), ?_⟩
      rw [wp_eq (lcGo_filter (p := fun j : Nat => decide (ks.length + j ∈ found gs ks.length)) (g := fun j : Nat => D.int ((ks.length + j : Nat) : Int)) fun j hj => ?_)]
      · rw [need_filter]
        simp [iN]
      · have hj : ks.length + j < gs.length := by have := List.mem_range.mp hj; omega
        have ej : (ks.length : Int) + (j : Int) = ((ks.length + j : Nat) : Int) := by omega
        rw [ej]
        simp only [wipeE, wp_setT]
        have em := mkd_at (f := found gs ks.length) hj
        simp only [wp_tru, wp_ixF, wp_varW]
        simp [wp_some]
        rw [← Int.natCast_add, atI_cast, em]
        simp
end W

namespace W
open PySem PySem.Spec PyProof.Rows L2 Q
theorem p_needed {many : Nat} {ns : List (List Nat)} {ks : List Str} {st : List Nat} {gs : List Gt} (h : Sigs many ns ks st) (v : VN ks gs) : sem_needed [.fz (netD ns ks st gs)] = some (.ls (iN (need gs many)), [.fz (netD ns ks st gs)]) := by
  refine of_wp ?_
  unfold sem_needed
  rw [wp_fnF rfl]
  have hz : (ns.zip ks).length = many := by simp [h.names.1, h.kinds.1]
  have c1 : wp (sem_Netlist_signal_count [.fz (netD ns ks st gs)]) fun r => r = (.fz (.int many), [.fz (netD ns ks st gs)]) := by
    unfold sem_Netlist_signal_count
    rw [wp_fnF rfl]
    have : min ns.length ks.length = many := by simpa using hz
    simp [this]
  have nw := p_needed_wires v (isSeq_tup (gs.map enG))
  rw [h.kinds.1] at nw
  simp [wp_eq (of_wp c1), wp_eq nw]
theorem p_law_qneeded {ks : List Str} {gs : List Gt} (v : VN ks gs) :
    sem_law_qneeded [.fz (.lst (gs.map enG)), .fz (.int ks.length)] = some (.ls (iN (need gs ks.length)), [.fz (.lst (gs.map enG)), .fz (.int ks.length)]) := by
  refine of_wp ?_
  unfold sem_law_qneeded
  rw [wp_fnF rfl]
  have hi := v.hi
  have lo := v.lo
  have pos := v.pos
  have app : ∀ (a b : List Nat), iN a ++ iN b = iN (a ++ b) := fun a b => by simp [iN]
  have bound : ∀ n, n ≤ 1000 → n * (gs.length + 2) ≤ 1002000 := fun n hn => Nat.le_trans (Nat.mul_le_mul hn (show gs.length + 2 ≤ 1002 by omega)) (by decide)
  simp
  refine ⟨by omega, ?_⟩
  refine wp_for_range (fun k ρ => ∃ (a3 a4 : Option O), ρ = [some (.fz (.lst (gs.map enG))), some (.fz (.int ks.length)), some (.fz (lN (F0 gs k))), a3, a4]) ⟨none, none, by simp [F0]⟩ (fun k ρ hk ⟨a3, a4, er⟩ => ?_) (fun ρ ⟨a3, a4, er⟩ => ?_)
  · subst er
    obtain ⟨g, eg⟩ : ∃ y, gs[k]? = some y := ⟨_, List.getElem?_eq_getElem (by omega)⟩
    have h1 := F0_len v k
    have h2 := bound k (by omega)
    have h3 := ins_len v eg
    simp [b_law_qneeded_1, eg, wp_eq (p_law_qreads g), F0_succ eg]
    exact sl8 (by omega)
  · subst er
    simp
    refine ⟨by omega, ?_⟩
    refine wp_for_range (fun k ρ => ∃ (a3 a4 : Option O), ρ = [some (.fz (.lst (gs.map enG))), some (.fz (.int ks.length)), some (.fz (lN (dn gs ks.length k (F0 gs ks.length)))), a3, a4]) ⟨a3, a4, rfl⟩ (fun k ρ hk ⟨a3, a4, er⟩ => ?_) (fun ρ ⟨a3, a4, er⟩ => ?_)
    · subst er
      have hj : gs.length - 1 - k < gs.length := by omega
      obtain ⟨g, eg⟩ : ∃ y, gs[gs.length - 1 - k]? = some y := ⟨_, List.getElem?_eq_getElem hj⟩
      have ei : (gs.length : Int) - 1 - (k : Int) = ((gs.length - 1 - k : Nat) : Int) := by omega
      have ia : insAt gs (gs.length - 1 - k) = ins g := by simp [insAt, eg]
      have h1 := F0_len v ks.length
      have h2 := bound ks.length (by omega)
      have h3 := ins_len v eg
      have h4 := dn_len v ks.length (F0 gs ks.length) k
      have h5 := bound k (by omega)
      have ed : dn gs ks.length (k + 1) (F0 gs ks.length) = if ks.length ≤ gs.length - 1 - k ∧ gs.length - 1 - k ∈ dn gs ks.length k (F0 gs ks.length) then dn gs ks.length k (F0 gs ks.length) ++ ins g else dn gs ks.length k (F0 gs ks.length) := by rw [dn]; simp only [ia]
      rw [ed]
      simp only [wp_setT, Int.zero_add]
      unfold b_law_qneeded_2
      simp only [wp_seqS, wp_setS, wp_pureE, wp_frN, wp_bin, wp_calN, wp_evs_cons, wp_evs_nil, wp_cst, wp_varW]
      simp [ei]
      generalize gs.length - 1 - k = j at *
      generalize dn gs ks.length k (F0 gs ks.length) = f at *
      by_cases c1 : ks.length ≤ j
      · by_cases c2 : j ∈ f
        · have i1 := inS_nats j f
          simp only [c2, decide_true] at i1
          simp [c1, c2, wp_eq i1, eg, wp_eq (p_law_qreads g)]
          exact sl8 (by omega)
        · have i1 := inS_nats j f
          simp only [c2, decide_false] at i1
          simp [c1, c2, wp_eq i1]
      · simp [c1]
    · subst er
      show wp (seqS (retS (freshE _)) skipS _) _
      simp
      rw [rng_map]
      refine ⟨by omega, sl8 (by simp; omega), ?_⟩
      have hf : dn gs ks.length gs.length (F0 gs ks.length) = found gs ks.length := rfl
      rw [hf, wp_eq (lcGo_filter (p := fun j : Nat => decide (ks.length + j ∈ found gs ks.length)) (g := fun j : Nat => D.int ((ks.length + j : Nat) : Int)) fun j hj => ?_)]
      · rw [need_filter]
        simp [iN]
      · have ej : (ks.length : Int) + (j : Int) = ((ks.length + j : Nat) : Int) := by omega
        have i1 := inS_nats (ks.length + j) (found gs ks.length)
        rw [ej]
        simp only [wipeE, wp_setT, wp_cmp, wp_varW]
        simp only [List.set, List.getElem?_cons_succ, List.getElem?_cons_zero, Option.join_some, wp_some, view_fz]
        rw [wp_eq i1]
        simp
end W

namespace W
open PySem PySem.Spec PyProof.Rows L2 Q
def srt (l : List Nat) : List Nat := l.mergeSort (fun a b => decide (a ≤ b))
theorem srt_perm (l : List Nat) : (srt l).Perm l := List.mergeSort_perm l _
theorem srt_le (l : List Nat) : (srt l).Pairwise (· ≤ ·) := by
  have := List.pairwise_mergeSort (le := fun a b : Nat => decide (a ≤ b)) (fun a b c h1 h2 => by simp at *; omega) (fun a b => by simp; omega) l
  exact this.imp (fun h => by simpa using h)
theorem srt_lt {l : List Nat} (h : l.Nodup) : (srt l).Pairwise (· < ·) := by
  have n : (srt l).Nodup := (srt_perm l).nodup_iff.mpr h
  exact ((srt_le l).and n).imp fun h => by omega
theorem sortC_nats (l : List Nat) : sortC [lN l] = some (.ls (iN (srt l))) := by
  have e : (l.map fun x => D.int (x : Nat)) = (l.map fun x : Nat => (x : Int)).map D.int := by simp
  have e2 : sortI (l.map fun x : Nat => (x : Int)) = (srt l).map fun x : Nat => (x : Int) := by
    refine (sortI_eq ((srt_perm l).map _) ?_).symm
    rw [List.pairwise_map]
    exact (srt_le l).imp fun h => by omega
  simp only [sortC, e, dInts_map, Option.map_some, e2]
  simp [iN]
def dds (s : Nat → Nat) (ws : List Nat) : List Nat := ws.foldl (fun acc x => if s x ∈ acc then acc else acc ++ [s x]) []
theorem dds_add (s : Nat → Nat) (ws : List Nat) (x : Nat) : dds s (ws ++ [x]) = if s x ∈ dds s ws then dds s ws else dds s ws ++ [s x] := by
  unfold dds; rw [List.foldl_append]; rfl
theorem snoc_rec {α : Type} {P : List α → Prop} (h0 : P []) (h1 : ∀ l x, P l → P (l ++ [x])) (l : List α) : P l := by
  have : ∀ m : List α, P m.reverse := fun m => by
    induction m with
    | nil => exact h0
    | cons x m ih => rw [List.reverse_cons]; exact h1 _ _ ih
  simpa using this l.reverse
theorem dds_mem {s : Nat → Nat} {ws : List Nat} : (∀ y ∈ dds s ws, ∃ x ∈ ws, y = s x) ∧ (dds s ws).Nodup ∧ (dds s ws).length ≤ ws.length := by
  induction ws using snoc_rec with
  | h0 => simp [dds]
  | h1 l x ih =>
    rw [dds_add]
    split
    · refine ⟨fun y hy => ?_, ih.2.1, by simp; omega⟩
      obtain ⟨z, hz, e⟩ := ih.1 y hy
      exact ⟨z, by simp [hz], e⟩
    · rename_i hn
      refine ⟨fun y hy => ?_, ?_, by simp; omega⟩
      · rcases List.mem_append.mp hy with q | q
        · obtain ⟨z, hz, e⟩ := ih.1 y q
          exact ⟨z, by simp [hz], e⟩
        · simp at q; exact ⟨x, by simp, q⟩
      · rw [List.nodup_append]
        exact ⟨ih.2.1, by simp, fun a ha b hb => by simp at hb; subst hb; rintro rfl; exact hn ha⟩
def byp (gs : List Gt) : Gt → Gt
  | .wr o ws => if o = false ∨ 1 < ws.length then .wr o (srt (dds (src gs) ws)) else .wr o ws
  | .c a b => if src gs a = src gs b then .c a b else .c (src gs a) (src gs b)
  | g => g
theorem byp_c (gs : List Gt) (a b : Nat) : byp gs (.c a b) = if src gs a = src gs b then .c a b else .c (src gs a) (src gs b) := rfl
theorem byp_wr (gs : List Gt) (o : Bool) (ws : List Nat) : byp gs (.wr o ws) = if o = false ∨ 1 < ws.length then .wr o (srt (dds (src gs) ws)) else .wr o ws := rfl
theorem byp_ok {ks : List Str} {gs : List Gt} (v : VN ks gs) {i : Nat} {inp : Bool} {g : Gt} (h : GOK ks.length gs.length i inp g) : GOK ks.length gs.length i inp (byp gs g) := by
  cases g with
  | no => exact h
  | c a b =>
    obtain ⟨h1, h2, h3, h4, h5⟩ := h
    rw [byp_c]
    by_cases hne : src gs a = src gs b
    · rw [if_pos hne]
      exact ⟨h1, h2, h3, h4, h5⟩
    · rw [if_neg hne]
      have s1 := src_ok v h3.1
      have s2 := src_ok v h4.1
      exact ⟨h1, h2, ⟨s1.1, by omega⟩, ⟨s2.1, by omega⟩, hne⟩
  | la q => exact h
  | «at» q => exact h
  | an q => exact h
  | wr o ws =>
    rw [byp_wr]
    by_cases hc : o = false ∨ 1 < ws.length
    · rw [if_pos hc]
      refine ⟨h.1, srt_lt dds_mem.2.1, fun x hx => ?_⟩
      obtain ⟨y, hy, rfl⟩ := dds_mem.1 x ((srt_perm _).mem_iff.mp hx)
      have h2 := h.2.2 y hy
      have := src_ok v h2.1
      omega
    · rw [if_neg hc]; exact h
theorem VN.byp {ks : List Str} {gs : List Gt} (v : VN ks gs) : VN ks (gs.map (byp gs)) := by
  refine ⟨v.pos, by simpa using v.lo, by simpa using v.hi, fun i g hg => ?_⟩
  rw [List.getElem?_map] at hg
  obtain ⟨g0, e0, rfl⟩ := Option.map_eq_some_iff.mp hg
  rw [List.length_map]
  exact byp_ok v (v.ok i g0 e0)
theorem ninS_nats (x : Nat) (l : List Nat) : ninS (.int (x : Nat)) (lN l) = some (!decide (x ∈ l)) := by rw [ninS_eq, inS_nats]; rfl
theorem p_bypassed {ns : List (List Nat)} {ks : List Str} {st : List Nat} {gs : List Gt} (v : VN ks gs) {i : Nat} {g : Gt} (eg : gs[i]? = some g) : sem_bypassed [.fz (netD ns ks st gs), .fz (enG g)] = some (.fz (enG (byp gs g)), [.fz (netD ns ks st gs), .fz (enG g)]) := by
  refine of_wp ?_
  unfold sem_bypassed
  rw [wp_fnF rfl]
  have k := v.ok i g eg
  have il := ins_lt v eg
  have hi := v.hi
  have hil := ins_len v eg
  have loop : ∀ (ws : List Nat), (∀ x ∈ ws, ks.length ≤ x ∧ x < gs.length) → ws.length ≤ 1002 → wp (forGo (setT 3) b_bypassed_1 (iN ws) [some (.fz (netD ns ks st gs)), some (.fz (enG g)), some (.ls []), none, none, none, none]) fun r => ∃ a3 a4, r = (.nx, [some (.fz (netD ns ks st gs)), some (.fz (enG g)), some (.ls (iN (dds (src gs) ws))), a3, a4, none, none]) := by
    intro ws hws hl
    refine wp_for_list (enc := fun x : Nat => D.int (x : Nat)) (xs := ws) (fun done ρ => ∃ a3 a4, ρ = [some (.fz (netD ns ks st gs)), some (.fz (enG g)), some (.ls (iN (dds (src gs) done))), a3, a4, none, none]) ⟨none, none, rfl⟩ (fun done x rest ρ e ⟨a3, a4, er⟩ => ?_) (fun ρ ⟨a3, a4, er⟩ => ?_)
    · subst er
      have hx := hws x (by rw [e]; simp)
      have hdl : done.length ≤ ws.length := by rw [e]; simp
      have dm := (dds_mem (s := src gs) (ws := done)).2.2
      have i1 := ninS_nats (src gs x) (dds (src gs) done)
      simp only [wp_setT]
      unfold b_bypassed_1
      rw [dds_add]
      by_cases c : src gs x ∈ dds (src gs) done
      · simp only [c, decide_true] at i1
        simp [wp_eq (p_source v hx.1 hx.2), wp_eq i1, c]
      · simp only [c, decide_false] at i1
        simp [wp_eq (p_source v hx.1 hx.2), wp_eq i1, c]
        exact sl8' (by omega)
    · exact ⟨a3, a4, by rw [er]⟩
  cases g with
  | no => simp [g_no, byp]
  | c a b =>
    obtain ⟨_, _, h3, h4, _⟩ := k
    have s1 := p_source (ns := ns) (st := st) v h3.1 h3.2
    have s2 := p_source (ns := ns) (st := st) v h4.1 h4.2
    by_cases c : src gs a = src gs b
    · simp [g_c, byp, wp_eq s1, wp_eq s2, c, t_bypassed_1]
    · have c' : ¬ ((src gs a : Nat) : Int) = (src gs b : Nat) := by omega
      simp [g_c, byp, wp_eq s1, wp_eq s2, c', c]
  | la q => simp [g_la, byp, wt_bypassed_1]
  | «at» q => simp [g_at, byp, wt_bypassed_1]
  | an q => simp [g_an, byp, wt_bypassed_1]
  | wr o ws =>
    have lw := loop ws il (by simp only [ins] at hil; omega)
    cases o with
    | false =>
      simp [g_all, byp] at lw ⊢
      refine wp_mono lw fun r ⟨a3, a4, er⟩ => ?_
      subst er
      simp [sortC_nats]
    | true =>
      by_cases c : 1 < ws.length
      · have c' : (1 : Int) < ws.length := by omega
        simp [g_or, byp, c', c] at lw ⊢
        refine wp_mono lw fun r ⟨a3, a4, er⟩ => ?_
        subst er
        simp [sortC_nats]
      · have c' : ¬ (1 : Int) < ws.length := by omega
        simp [g_or, byp, c', c, wt_bypassed_1]
end W

namespace W
open PySem PySem.Spec PyProof.Rows L2 Q
def kept (gs : List Gt) (w : Nat) : List Nat := List.range w ++ need gs w
theorem need_mem {gs : List Gt} {w x : Nat} (h : x ∈ need gs w) : w ≤ x ∧ x < gs.length ∧ x ∈ found gs w := by
  obtain ⟨h1, h2⟩ := List.mem_filter.mp h
  obtain ⟨j, hj, rfl⟩ := List.mem_map.mp h1
  have := List.mem_range.mp hj
  exact ⟨by omega, by omega, by simpa using h2⟩
theorem need_of {gs : List Gt} {w x : Nat} (h1 : w ≤ x) (h2 : x < gs.length) (h3 : x ∈ found gs w) : x ∈ need gs w := by
  refine List.mem_filter.mpr ⟨List.mem_map.mpr ⟨x - w, by simp; omega, by omega⟩, by simpa using h3⟩
theorem need_lt (gs : List Gt) (w : Nat) : (need gs w).Pairwise (· < ·) := by
  refine List.Pairwise.filter _ ?_
  rw [List.pairwise_map]
  exact List.pairwise_lt_range.imp fun h => by omega
theorem kept_lt (gs : List Gt) (w : Nat) : (kept gs w).Pairwise (· < ·) := by
  unfold kept
  rw [List.pairwise_append]
  exact ⟨List.pairwise_lt_range, need_lt gs w, fun a ha b hb => by
    have := List.mem_range.mp ha
    have := (need_mem hb).1
    omega⟩
theorem kept_mem {gs : List Gt} {w x : Nat} (hl : w ≤ gs.length) (h : x ∈ kept gs w) : x < gs.length := by
  rcases List.mem_append.mp h with q | q
  · have := List.mem_range.mp q; omega
  · exact (need_mem q).2.1
theorem kept_len {gs : List Gt} {w : Nat} (hl : w ≤ gs.length) : (kept gs w).length ≤ gs.length := by
  have := asc_len (a := 0) (m := gs.length) (kept_lt gs w) fun x hx => ⟨Nat.zero_le _, kept_mem hl hx⟩
  omega
/-- what is found stays found, and what is found below a wire is not of that wire or under -/
theorem dn_sub (gs : List Gt) (w : Nat) (f : List Nat) : ∀ k, ∀ x ∈ f, x ∈ dn gs w k f
  | 0, x, h => h
  | k + 1, x, h => by
    have ih := dn_sub gs w f k x h
    simp only [dn]
    split
    · exact List.mem_append_left _ ih
    · exact ih
theorem dn_mono (gs : List Gt) (w : Nat) (f : List Nat) (k : Nat) : ∀ j, ∀ x ∈ dn gs w k f, x ∈ dn gs w (k + j) f
  | 0, x, h => h
  | j + 1, x, h => by
    have ih := dn_mono gs w f k j x h
    rw [← Nat.add_assoc]
    simp only [dn]
    split
    · exact List.mem_append_left _ ih
    · exact ih
theorem ins_inner {ks : List Str} {gs : List Gt} (v : VN ks gs) {i : Nat} (hi : ks.length ≤ i) : ∀ x ∈ insAt gs i, x < i := fun x hx => by
  unfold insAt at hx
  cases e : gs[i]? with
  | none => rw [e] at hx; simp at hx
  | some g =>
    rw [e] at hx
    simp at hx
    have k := v.ok i g e
    cases g with
    | no => cases hx
    | c a b => have := k.1; omega
    | la q => cases hx
    | «at» q => cases hx
    | an q => cases hx
    | wr o ws => exact (k.2.2 x hx).2
/-- a wire that is found was found ahead of its turn -/
theorem dn_back {ks : List Str} {gs : List Gt} (v : VN ks gs) (f : List Nat) (k : Nat) (hk : k < gs.length) : ∀ j, gs.length - 1 - k ∈ dn gs ks.length (k + j) f → gs.length - 1 - k ∈ dn gs ks.length k f
  | 0, h => h
  | j + 1, h => by
    rw [← Nat.add_assoc] at h
    simp only [dn] at h
    split at h
    · rename_i hc
      rcases List.mem_append.mp h with q | q
      · exact dn_back v f k hk j q
      · have := ins_inner v hc.1 _ q
        omega
    · exact dn_back v f k hk j h
theorem found_closed {ks : List Str} {gs : List Gt} (v : VN ks gs) {x y : Nat} (h : x ∈ kept gs ks.length) (hy : y ∈ insAt gs x) : y ∈ kept gs ks.length := by
  have hyr : ks.length ≤ y ∧ y < gs.length := by
    unfold insAt at hy
    cases e : gs[x]? with
    | none => rw [e] at hy; simp at hy
    | some g => rw [e] at hy; exact ins_lt v e y (by simpa using hy)
  refine List.mem_append_right _ (need_of hyr.1 hyr.2 ?_)
  rcases List.mem_append.mp h with q | q
  · have hx := List.mem_range.mp q
    refine dn_sub _ _ _ _ _ ?_
    have lo := v.lo
    obtain ⟨g, eg⟩ : ∃ y, gs[x]? = some y := ⟨_, List.getElem?_eq_getElem (by omega)⟩
    unfold F0
    refine List.mem_flatMap.mpr ⟨g, List.mem_of_getElem? (i := x) (by rw [List.getElem?_take, if_pos hx, eg]), ?_⟩
    simpa [insAt, eg] using hy
  · obtain ⟨h1, h2, h3⟩ := need_mem q
    have hk : gs.length - 1 - x < gs.length := by omega
    have ex : gs.length - 1 - (gs.length - 1 - x) = x := by omega
    have b := dn_back v (F0 gs ks.length) (gs.length - 1 - x) hk (x + 1)
    rw [ex, show gs.length - 1 - x + (x + 1) = gs.length by omega] at b
    have b := b h3
    have m := dn_mono gs ks.length (F0 gs ks.length) (gs.length - 1 - x + 1) x
    rw [show gs.length - 1 - x + 1 + x = gs.length by omega] at m
    refine m y ?_
    simp only [dn, ex]
    rw [if_pos ⟨h1, b⟩]
    exact List.mem_append_right _ hy
/-! ### places in an ascending list -/
theorem idx_at {l : List Nat} {x : Nat} (h : x ∈ l) : l[l.idxOf x]? = some x := by
  have := List.idxOf_lt_length_iff.mpr h
  rw [List.getElem?_eq_getElem this, List.getElem_idxOf]
theorem idx_of {l : List Nat} (hl : l.Nodup) {i x : Nat} (h : l[i]? = some x) : l.idxOf x = i := by
  have hi : i < l.length := (List.getElem?_eq_some_iff.mp h).1
  have hx := List.mem_of_getElem? h
  have h2 := idx_at hx
  have h3 := List.idxOf_lt_length_iff.mpr hx
  exact (List.getElem?_inj h3 hl).mp (by rw [h2, h])
theorem asc_at {l : List Nat} (hl : l.Pairwise (· < ·)) {i j x y : Nat} (hi : l[i]? = some x) (hj : l[j]? = some y) : x < y ↔ i < j := by
  have h1 : i < l.length := (List.getElem?_eq_some_iff.mp hi).1
  have h2 : j < l.length := (List.getElem?_eq_some_iff.mp hj).1
  rw [List.getElem?_eq_getElem h1] at hi
  rw [List.getElem?_eq_getElem h2] at hj
  have g := List.pairwise_iff_getElem.mp hl
  constructor
  · intro h
    rcases Nat.lt_trichotomy i j with q | q | q
    · exact q
    · subst q; rw [hi] at hj; cases hj; omega
    · have := g j i h2 h1 q
      cases hi; cases hj; omega
  · intro h
    have := g i j h1 h2 h
    cases hi; cases hj; exact this
theorem idx_lt {l : List Nat} (hl : l.Pairwise (· < ·)) {x y : Nat} (hx : x ∈ l) (hy : y ∈ l) : l.idxOf x < l.idxOf y ↔ x < y := (asc_at hl (idx_at hx) (idx_at hy)).symm
theorem asc_nodup {l : List Nat} (hl : l.Pairwise (· < ·)) : l.Nodup := hl.imp fun h => by omega
/-- the place of a wire among the kept -/
theorem kept_sig {gs : List Gt} {w i : Nat} (h : i < w) : (kept gs w)[i]? = some i := by
  unfold kept; rw [List.getElem?_append_left (by simpa using h)]; simp [h]
theorem kept_idx {gs : List Gt} {w x : Nat} (hx : x ∈ kept gs w) : w ≤ (kept gs w).idxOf x ↔ w ≤ x := by
  have h1 := idx_at hx
  constructor
  · intro h
    apply Nat.le_of_not_lt
    intro z
    have := idx_of (asc_nodup (kept_lt gs w)) (kept_sig z)
    omega
  · intro h
    apply Nat.le_of_not_lt
    intro z
    have := kept_sig (gs := gs) z
    rw [h1] at this
    have := Option.some.inj this
    omega
def ren (kp : List Nat) : Gt → Gt
  | .wr o ws => .wr o (ws.map kp.idxOf)
  | .c a b => .c (kp.idxOf a) (kp.idxOf b)
  | g => g
theorem ren_ok {ks : List Str} {gs : List Gt} (v : VN ks gs) {i x : Nat} {g : Gt} (hi : (kept gs ks.length)[i]? = some x) (eg : gs[x]? = some g) : GOK ks.length (kept gs ks.length).length i (ks[i]? == some "input") (ren (kept gs ks.length) g) := by
  have k := v.ok x g eg
  have hx := List.mem_of_getElem? hi
  have asc := kept_lt gs ks.length
  have nd := asc_nodup asc
  have ei := idx_of nd hi
  have cl : ∀ y ∈ ins g, y ∈ kept gs ks.length := fun y hy => found_closed v hx (by simpa [insAt, eg] using hy)
  have ir := ins_lt v eg
  have sg : x < ks.length → i = x := fun h => by
    have := idx_of nd (kept_sig (gs := gs) h)
    omega
  have sg2 : x < ks.length ↔ i < ks.length := by
    have := kept_idx hx
    rw [ei] at this; omega
  have ln : ∀ y ∈ kept gs ks.length, (kept gs ks.length).idxOf y < (kept gs ks.length).length := fun y hy => List.idxOf_lt_length_iff.mpr hy
  cases g with
  | no => have := sg k.1; subst this; exact k
  | c a b =>
    obtain ⟨h1, h2, h3, h4, h5⟩ := k
    have e := sg h1; subst e
    have ma := cl a (by simp [ins])
    have mb := cl b (by simp [ins])
    refine ⟨h1, h2, ⟨(kept_idx ma).mpr h3.1, ln a ma⟩, ⟨(kept_idx mb).mpr h4.1, ln b mb⟩, fun z => h5 ?_⟩
    have := idx_at ma
    rw [z, idx_at mb] at this
    exact (Option.some.inj this).symm
  | la q => have := sg k.1; subst this; exact k
  | «at» q => have := sg k.1; subst this; exact k
  | an q => exact ⟨by have := k.1; omega, k.2⟩
  | wr o ws =>
    obtain ⟨h1, h2, h3⟩ := k
    refine ⟨by omega, ?_, fun y hy => ?_⟩
    · rw [List.pairwise_map]
      exact h2.imp_of_mem fun ha hb h => (idx_lt asc (cl _ ha) (cl _ hb)).mpr h
    · obtain ⟨z, hz, rfl⟩ := List.mem_map.mp hy
      have := h3 z hz
      refine ⟨(kept_idx (cl z hz)).mpr this.1, ?_⟩
      rw [← ei]
      exact (idx_lt asc (cl z hz) hx).mpr this.2
def tidy (gs : List Gt) (w : Nat) : List Gt := (kept (gs.map (byp gs)) w).map fun x => ren (kept (gs.map (byp gs)) w) ((gs.map (byp gs)).getD x .no)
theorem tidy_ok {ks : List Str} {gs : List Gt} (v : VN ks gs) : VN ks (tidy gs ks.length) := by
  have v2 := v.byp
  generalize hB : gs.map (byp gs) = B at v2
  have lo := v2.lo
  have hi := v2.hi
  have kl := kept_len (gs := B) lo
  unfold tidy
  rw [hB]
  refine ⟨v.pos, ?_, by simp; omega, fun i g hg => ?_⟩
  · rw [List.length_map]; unfold kept; simp
  · rw [List.getElem?_map] at hg
    obtain ⟨x, ex, rfl⟩ := Option.map_eq_some_iff.mp hg
    have hx := kept_mem lo (List.mem_of_getElem? ex)
    rw [List.length_map]
    refine ren_ok v2 ex ?_
    rw [List.getD_eq_getElem?_getD, List.getElem?_eq_getElem hx]; rfl
end W

namespace W
open PySem PySem.Spec PyProof.Rows L2 Q
def numD : List Nat → Nat → List (D × D)
  | [], _ => []
  | x :: l, k => (.int (x : Nat), .int (k : Nat)) :: numD l (k + 1)
theorem dget_int {y x : Nat} {d : D} {r : List (D × D)} : dget (.inl (x : Int)) ((.int (y : Nat), d) :: r) = if y = x then some d else dget (.inl (x : Int)) r := by
  show (if kD (D.int (y : Nat)) = some (.inl (x : Int)) then some d else dget (.inl (x : Int)) r) = _
  by_cases c : y = x
  · subst c; rw [if_pos (kD_int), if_pos rfl]
  · rw [if_neg c, if_neg fun z => c ?_]
    rw [kD_int] at z
    have := Sum.inl.inj (Option.some.inj z)
    omega
theorem numD_get : ∀ {l : List Nat} {k x : Nat}, x ∈ l → dget (.inl (x : Int)) (numD l k) = some (.int ((k + l.idxOf x : Nat) : Int))
  | y :: l, k, x, h => by
    rw [numD, dget_int]
    by_cases c : y = x
    · subst c; simp
    · have h2 : x ∈ l := (List.mem_cons.mp h).resolve_left fun z => c z.symm
      rw [if_neg c, numD_get h2, List.idxOf_cons]
      have c2 : (y == x) = false := by simpa using c
      rw [c2]
      simp only [cond_false]
      have e : k + 1 + List.idxOf x l = k + (List.idxOf x l + 1) := by omega
      rw [e]
theorem numD_none : ∀ {l : List Nat} {k x : Nat}, x ∉ l → dget (.inl (x : Int)) (numD l k) = none
  | [], _, _, _ => rfl
  | y :: l, k, x, h => by
    rw [numD, dget_int]
    have c : ¬ y = x := fun z => h (by simp [z])
    rw [if_neg c]
    exact numD_none fun z => h (by simp [z])
theorem numD_snoc : ∀ {l : List Nat} {k x : Nat}, numD (l ++ [x]) k = numD l k ++ [(.int (x : Nat), .int ((k + l.length : Nat) : Int))]
  | [], k, x => rfl
  | y :: l, k, x => by
    simp only [List.cons_append, numD, numD_snoc, List.length_cons]
    have e : k + 1 + l.length = k + (l.length + 1) := by omega
    rw [e]
theorem numD_len : ∀ {l : List Nat} {k : Nat}, (numD l k).length = l.length
  | [], k => rfl
  | y :: l, k => by simp [numD, numD_len]
theorem numD_put {l : List Nat} {x : Nat} (h : x ∉ l) : dput (.inl (x : Int)) (.int (l.length : Nat)) (numD l 0) = numD (l ++ [x]) 0 := by
  unfold dput
  rw [numD_none h, numD_snoc]
  simp [keyD]
theorem p_renumbered {kp : List Nat} {g : Gt} (h : ∀ y ∈ ins g, y ∈ kp) (hl : (ins g).length ≤ 2000) : sem_renumbered [.fz (enG g), .fz (.dic (numD kp 0))] = some (.fz (enG (ren kp g)), [.fz (enG g), .fz (.dic (numD kp 0))]) := by
  refine of_wp ?_
  unfold sem_renumbered
  rw [wp_fnF rfl]
  have gt : ∀ y ∈ ins g, dget (.inl (y : Int)) (numD kp 0) = some (.int (kp.idxOf y : Nat)) := fun y hy => by
    rw [numD_get (h y hy), Nat.zero_add]
  cases g with
  | no => simp [g_no, ren]
  | c a b =>
    have g1 := gt a (by simp [ins])
    have g2 := gt b (by simp [ins])
    simp [g_c, ren, g1, g2]
  | la q => simp [g_la, ren]
  | «at» q => simp [g_at, ren]
  | an q => simp [g_an, ren]
  | wr o ws =>
    simp only [ins] at hl
    cases o with
    | false =>
      simp [g_all, ren]
      refine ⟨sl8 (by omega), ?_⟩
      rw [wp_eq (lcGo_map (g := fun x : Nat => D.int (kp.idxOf x : Nat)) fun x hx => by simp [wipeE, gt x (by simpa [ins] using hx)])]
      rfl
    | true =>
      simp [g_or, ren]
      refine ⟨sl8 (by omega), ?_⟩
      rw [wp_eq (lcGo_map (g := fun x : Nat => D.int (kp.idxOf x : Nat)) fun x hx => by simp [wipeE, gt x (by simpa [ins] using hx)])]
      rfl
theorem p_signal_count {many : Nat} {ns : List (List Nat)} {ks : List Str} {st : List Nat} {gs : List Gt} (h : Sigs many ns ks st) : sem_Netlist_signal_count [.fz (netD ns ks st gs)] = some (.fz (.int many), [.fz (netD ns ks st gs)]) := by
  refine of_wp ?_
  have hz : (ns.zip ks).length = many := by simp [h.names.1, h.kinds.1]
  have : min ns.length ks.length = many := by simpa using hz
  unfold sem_Netlist_signal_count
  rw [wp_fnF rfl]
  simp [this]
theorem rng_iN (n : Nat) : rngD 0 n = iN (List.range n) := by simp [rngD, iN]
theorem p_tidied {many : Nat} {ns : List (List Nat)} {ks : List Str} {st : List Nat} {gs : List Gt} (h : Sigs many ns ks st) (v : VN ks gs) : sem_tidied [.fz (netD ns ks st gs)] = some (netO ns ks st (tidy gs many), [.fz (netD ns ks st gs)]) := by
  refine of_wp ?_
  unfold sem_tidied
  rw [wp_fnF rfl]
  have v2 := v.byp
  have hi := v.hi
  have kl := h.kinds.1
  have hm := h.le
  have ti := tidy_ok v
  rw [kl] at ti
  have pi := p_Netlist_init h ti
  have hs : sigD ns ks = .lst ((ns.zip ks).map fun p => .tup [.str (S p.1), .str p.2]) := rfl
  have nw := p_needed_wires v2 (isSeq_lst ((gs.map (byp gs)).map enG))
  rw [kl] at nw
  have knd := kept_len (gs := gs.map (byp gs)) v2.lo
  rw [List.length_map, kl] at knd
  have asc := kept_lt (gs.map (byp gs)) many
  have kle : (List.range many).length + (need (gs.map (byp gs)) many).length ≤ 1000 := by
    rw [← List.length_append]; exact Nat.le_trans knd hi
  simp only [List.length_range] at kle
  have cl : ∀ {x y : Nat}, x ∈ kept (gs.map (byp gs)) many → y ∈ insAt (gs.map (byp gs)) x → y ∈ kept (gs.map (byp gs)) many := fun hx hy => by
    have := found_closed v2 (by rw [kl]; exact hx) hy
    rwa [kl] at this
  have kmem : ∀ {x : Nat}, x ∈ kept (gs.map (byp gs)) many → x < gs.length := fun hx => by
    have := kept_mem (by rw [List.length_map]; have := v.lo; omega) hx
    rwa [List.length_map] at this
  simp [wp_eq (p_signal_count h)]
  refine ⟨sl8 (by omega), ?_⟩
  rw [wp_eq (lcGo_map (g := fun g : Gt => enG (byp gs g)) fun g hg => ?_)]
  · rw [rng_iN]
    have eB : (gs.map fun g => enG (byp gs g)) = (gs.map (byp gs)).map enG := by simp
    rw [eB]
    refine ⟨by unfold rngOk; omega, ?_⟩
    rw [wp_eq nw]
    simp only [fr_ls, addO_lst, wp_ite_none, wp_some]
    have eK : iN (List.range many) ++ iN (need (gs.map (byp gs)) many) = iN (kept (gs.map (byp gs)) many) := by simp [iN, kept]
    simp only [eK]
    generalize hB : gs.map (byp gs) = B at *
    generalize hK : kept B many = kp at *
    simp
    refine ⟨sl8 (by omega), by omega, ?_⟩
    refine wp_for_range (fun k ρ => ∃ a5, ρ = [some (.fz (netD ns ks st gs)), some (.fz (.int many)), some (.fz (.lst (B.map enG))), some (.fz (lN kp)), some (.dc (numD (kp.take k) 0)), a5, none, none, none]) ⟨none, rfl⟩ (fun k ρ hk ⟨a5, er⟩ => ?_) (fun ρ ⟨a5, er⟩ => ?_)
    · subst er
      obtain ⟨x, ex⟩ : ∃ y, kp[k]? = some y := ⟨_, List.getElem?_eq_getElem hk⟩
      have hn : x ∉ kp.take k := fun z => by
        obtain ⟨i, hi, ei⟩ := List.mem_take_iff_getElem.mp z
        have e2 : kp[i]? = some x := by rw [List.getElem?_eq_getElem (by omega), ei]
        have := (asc_at asc e2 ex).mpr (by omega)
        omega
      have hp := numD_put hn
      rw [List.length_take, Nat.min_eq_left (by omega)] at hp
      have et : kp.take (k + 1) = kp.take k ++ [x] := by rw [List.take_add_one, ex]; rfl
      simp [b_tidied_1, ex, numD_len, hp, et]
      exact sl8' (by omega)
    · subst er
      rw [List.take_of_length_le (Nat.le_refl _)]
      simp
      refine ⟨sl8 (by omega), ?_⟩
      rw [wp_eq (lcGo_map (g := fun x : Nat => enG (ren kp (B.getD x .no))) fun x hx => ?_)]
      · have eT : (kp.map fun x => enG (ren kp (B.getD x .no))) = (tidy gs many).map enG := by
          unfold tidy; rw [hB, hK]; simp
        rw [eT]
        simp [← hs, wp_eq pi]
      · have hxl := kmem hx
        have hxb : x < B.length := by rw [← hB, List.length_map]; exact hxl
        obtain ⟨g, eg⟩ : ∃ y, B[x]? = some y := ⟨_, List.getElem?_eq_getElem hxb⟩
        have c1 : ∀ y ∈ ins g, y ∈ kp := fun y hy => cl hx (by simpa [insAt, eg] using hy)
        have hil := ins_len v2 eg
        have hbl : B.length = gs.length := by rw [← hB, List.length_map]
        simp [wipeE, eg, wp_eq (p_renumbered c1 (by omega)), List.getD_eq_getElem?_getD]
  · obtain ⟨i, hi, e⟩ := List.mem_iff_getElem.mp hg
    have eg : gs[i]? = some g := by rw [List.getElem?_eq_getElem hi, e]
    simp [wipeE, wp_eq (p_bypassed v eg)]
end W

namespace W
open PySem PySem.Spec PyProof.Rows L2 Q
/-! ### equality of data with itself -/
mutual
def okD : D → Bool
  | .non => true | .bl _ => true | .int _ => true
  | .str x => PyData.strOk x
  | .tup ds => okDs ds
  | .lst ds => okDs ds
  | _ => false
def okDs : List D → Bool
  | [] => true
  | d :: ds => okD d && okDs ds
end
mutual
def dpD : D → Nat
  | .tup ds => dpDs ds + 1
  | .lst ds => dpDs ds + 1
  | _ => 0
def dpDs : List D → Nat
  | [] => 0
  | d :: ds => max (dpD d) (dpDs ds)
end
mutual
theorem toPy_ok : ∀ d : D, okD d = true → ∃ p, toPy d = some p ∧ p.canLay0 = true ∧ p.depth = dpD d
  | .non, _ => ⟨_, rfl, by simp [PyData.canLay0], by simp [PyData.depth, dpD]⟩
  | .bl b, _ => ⟨_, rfl, by simp [PyData.canLay0], by simp [PyData.depth, dpD]⟩
  | .int b, _ => ⟨_, rfl, by simp [PyData.canLay0], by simp [PyData.depth, dpD]⟩
  | .str x, h => ⟨_, rfl, by simpa [PyData.canLay0, okD] using h, by simp [PyData.depth, dpD]⟩
  | .tup ds, h => by
    obtain ⟨ps, e, h1, h2⟩ := toPys_ok ds (by simpa [okD] using h)
    exact ⟨.tuple ps, by simp [toPy, e], by simpa [PyData.canLay0] using h1, by simp [PyData.depth, dpD, h2]⟩
  | .lst ds, h => by
    obtain ⟨ps, e, h1, h2⟩ := toPys_ok ds (by simpa [okD] using h)
    exact ⟨.list ps, by simp [toPy, e], by simpa [PyData.canLay0] using h1, by simp [PyData.depth, dpD, h2]⟩
  | .scr _, h => by simp [okD] at h
  | .dic _, h => by simp [okD] at h
  | .obj _ _, h => by simp [okD] at h
theorem toPys_ok : ∀ ds : List D, okDs ds = true → ∃ ps, toPys ds = some ps ∧ PyData.canLayAll0 ps = true ∧ PyData.depthAll ps = dpDs ds
  | [], _ => ⟨[], rfl, by simp [PyData.canLayAll0], by simp [PyData.depthAll, dpDs]⟩
  | d :: ds, h => by
    simp only [okDs, Bool.and_eq_true] at h
    obtain ⟨p, e, h1, h2⟩ := toPy_ok d h.1
    obtain ⟨ps, e', h3, h4⟩ := toPys_ok ds h.2
    exact ⟨p :: ps, by simp [toPys, e, e'], by simp [PyData.canLayAll0, h1, h3], by simp [PyData.depthAll, dpDs, h2, h4]⟩
end
theorem eqB_refl {d : D} (h : okD d = true) (hd : dpD d ≤ 64) : eqB d d = some true := by
  obtain ⟨p, e, h1, h2⟩ := toPy_ok d h
  unfold eqB
  split
  · rename_i b hb
    cases d <;> simp [scalD] at hb ⊢ <;> exact hb
  · have hs : SeqAt.shaped p = true := by simp [SeqAt.shaped, h1, h2, hd]
    simp [e, hs]
    exact SeqAt.eqv_refl p h1
theorem okDs_map {α : Type} {f : α → D} {l : List α} (h : ∀ x ∈ l, okD (f x) = true) : okDs (l.map f) = true := by
  induction l with
  | nil => rfl
  | cons x l ih => simp only [List.map_cons, okDs, h x (by simp), ih fun y hy => h y (by simp [hy]), Bool.and_self]
theorem dpDs_map {α : Type} {f : α → D} {l : List α} {n : Nat} (h : ∀ x ∈ l, dpD (f x) ≤ n) : dpDs (l.map f) ≤ n := by
  induction l with
  | nil => simp [dpDs]
  | cons x l ih =>
    simp only [List.map_cons, dpDs]
    have := h x (by simp)
    have := ih fun y hy => h y (by simp [hy])
    omega
theorem strOk_S {l : List Nat} (h : ∀ c ∈ l, c < 1114112) : PyData.strOk (S l) = true := by
  unfold PyData.strOk
  simp
  intro i hi
  exact h i hi
end W

namespace W
open PySem PySem.Spec PyProof.Rows L2 Q
theorem idxF_nats (x : Nat) : ∀ l : List Nat, idxF (.int (x : Nat)) (iN l) = l.idxOf x
  | [] => rfl
  | y :: l => by
    have ih := idxF_nats x l
    unfold idxF at ih ⊢
    simp only [iN, List.map_cons, List.findIdx_cons, List.idxOf_cons] at ih ⊢
    have e : (eqF (.int (y : Nat)) (.int (x : Nat)) == some true) = (y == x) := by
      simp only [eqF]
      by_cases h : y = x
      · subst h; simp
      · have h2 : ¬ ((y : Nat) : Int) = (x : Nat) := by omega
        have b1 : (y == x) = false := by simpa using h
        have b2 : (((y : Nat) : Int) == (x : Nat)) = false := by simpa using h2
        rw [b1, b2]; rfl
    rw [e, ih]
theorem indexD_nats {x : Nat} {l : List Nat} (h : x ∈ l) : indexD (lN l) (.int (x : Nat)) = some (.int (l.idxOf x : Nat)) := by
  simp only [indexD]
  have i1 := inF_ints x l
  rw [if_pos ⟨rfl, by rw [i1]; simp [h]⟩, idxF_nats]
theorem p_law_qtidied {ks : List Str} {gs : List Gt} (v : VN ks gs) : sem_law_qtidied [.fz (.lst (gs.map enG)), .fz (.int ks.length)] = some (.ls ((tidy gs ks.length).map enG), [.fz (.lst (gs.map enG)), .fz (.int ks.length)]) := by
  refine of_wp ?_
  unfold sem_law_qtidied
  rw [wp_fnF rfl]
  have v2 := v.byp
  have hi := v.hi
  have lo := v.lo
  have pos := v.pos
  have nw := p_law_qneeded v2
  have knd := kept_len (gs := gs.map (byp gs)) v2.lo
  rw [List.length_map] at knd
  have kle : (List.range ks.length).length + (need (gs.map (byp gs)) ks.length).length ≤ 1000 := by
    rw [← List.length_append]; exact Nat.le_trans knd hi
  simp only [List.length_range] at kle
  have kmem : ∀ {x : Nat}, x ∈ kept (gs.map (byp gs)) ks.length → x < gs.length := fun hx => by
    have := kept_mem (by rw [List.length_map]; have := v.lo; omega) hx
    rwa [List.length_map] at this
  simp
  refine wp_for_list (enc := enG) (xs := gs) (fun done ρ => ∃ a3 a4 a5 a6, ρ = [some (.fz (.lst (gs.map enG))), some (.fz (.int ks.length)), some (.ls ((done.map (byp gs)).map enG)), a3, a4, a5, a6, none, none, none]) ⟨_, _, _, _, rfl⟩ (fun done g rest ρ e ⟨a3, a4, a5, a6, er⟩ => ?_) (fun ρ ⟨a3, a4, a5, a6, er⟩ => ?_)
  · subst er
    have eg : gs[done.length]? = some g := by rw [e]; simp
    have k := v.ok _ g eg
    have il := ins_lt v eg
    have hil := ins_len v eg
    have hdl : done.length ≤ gs.length := by rw [e]; simp
    have hz : done.length < sizeLine := sl8' (by omega)
    have loop : ∀ (ws : List Nat) (a5 a6 : Option O) (d3 : D), (∀ x ∈ ws, ks.length ≤ x ∧ x < gs.length) → ws.length ≤ 1002 → wp (forGo (setT 5) b_law_qtidied_1 (iN ws) [some (.fz (.lst (gs.map enG))), some (.fz (.int ks.length)), some (.ls ((done.map (byp gs)).map enG)), some (.fz d3), some (.ls []), a5, a6, none, none, none]) fun r => ∃ a5, r = (.nx, [some (.fz (.lst (gs.map enG))), some (.fz (.int ks.length)), some (.ls ((done.map (byp gs)).map enG)), some (.fz d3), some (.ls (iN (dds (src gs) ws))), a5, a6, none, none, none]) := by
      intro ws a5 a6 d3 hws hl
      refine wp_for_list (enc := fun x : Nat => D.int (x : Nat)) (xs := ws) (fun dn ρ => ∃ a5, ρ = [some (.fz (.lst (gs.map enG))), some (.fz (.int ks.length)), some (.ls ((done.map (byp gs)).map enG)), some (.fz d3), some (.ls (iN (dds (src gs) dn))), a5, a6, none, none, none]) ⟨_, rfl⟩ (fun dn x rest ρ e ⟨a5, er⟩ => ?_) (fun ρ ⟨a5, er⟩ => ?_)
      · subst er
        have hx := hws x (by rw [e]; simp)
        have hdl : dn.length ≤ ws.length := by rw [e]; simp
        have dm := (dds_mem (s := src gs) (ws := dn)).2.2
        have i1 := ninS_nats (src gs x) (dds (src gs) dn)
        have q1 := p_law_qsource v hx.1 hx.2
        simp only [wp_setT]
        unfold b_law_qtidied_1
        rw [dds_add]
        by_cases c : src gs x ∈ dds (src gs) dn
        · simp only [c, decide_true] at i1
          simp [wp_eq q1, wp_eq i1, c]
        · simp only [c, decide_false] at i1
          simp [wp_eq q1, wp_eq i1, c]
          exact sl8' (by omega)
      · exact ⟨a5, by rw [er]⟩
    simp only [wp_setT]
    unfold b_law_qtidied_2
    cases g with
    | no => simp [g_no, byp, wt_law_qtidied_1, hz]
    | c a b =>
      obtain ⟨_, _, h3, h4, _⟩ := k
      have s1 := p_law_qsource v h3.1 h3.2
      have s2 := p_law_qsource v h4.1 h4.2
      by_cases c : src gs a = src gs b
      · simp [g_c, byp, wp_eq s1, wp_eq s2, c, wt_law_qtidied_1, hz]
      · have c' : ¬ ((src gs a : Nat) : Int) = (src gs b : Nat) := by omega
        simp [g_c, byp, wp_eq s1, wp_eq s2, c', c, wt_law_qtidied_1, hz]
    | la q => simp [g_la, byp, wt_law_qtidied_1, hz]
    | «at» q => simp [g_at, byp, wt_law_qtidied_1, hz]
    | an q => simp [g_an, byp, wt_law_qtidied_1, hz]
    | wr o ws =>
      have lw := fun a5 a6 d3 => loop ws a5 a6 d3 il (by simp only [ins] at hil; omega)
      cases o with
      | false =>
        simp [g_all, byp] at lw ⊢
        refine wp_mono (lw _ _ _) fun r ⟨a5, er⟩ => ?_
        subst er
        simp [sortC_nats, wt_law_qtidied_1, hz]
      | true =>
        by_cases c : 1 < ws.length
        · have c' : (1 : Int) < ws.length := by omega
          simp [g_or, byp, c', c] at lw ⊢
          refine wp_mono (lw _ _ _) fun r ⟨a5, er⟩ => ?_
          subst er
          simp [sortC_nats, wt_law_qtidied_1, hz]
        · have c' : ¬ (1 : Int) < ws.length := by omega
          simp [g_or, byp, c', c, wt_law_qtidied_1, hz]
  · subst er
    have eK : iN (List.range ks.length) ++ iN (need (gs.map (byp gs)) ks.length) = iN (kept (gs.map (byp gs)) ks.length) := by simp [iN, kept]
    have cl : ∀ {x y : Nat}, x ∈ kept (gs.map (byp gs)) ks.length → y ∈ insAt (gs.map (byp gs)) x → y ∈ kept (gs.map (byp gs)) ks.length := fun hx hy => found_closed v2 hx hy
    have hT : tidy gs ks.length = (kept (gs.map (byp gs)) ks.length).map fun x => ren (kept (gs.map (byp gs)) ks.length) ((gs.map (byp gs)).getD x .no) := rfl
    rw [hT]
    have hBl : (gs.map (byp gs)).length = gs.length := by simp
    generalize hB : gs.map (byp gs) = B at *
    simp
    rw [rng_iN]
    refine ⟨by unfold rngOk; omega, ?_⟩
    rw [wp_eq nw]
    simp only [fr_ls, addO_lst, wp_ite_none, wp_some]
    simp only [eK]
    refine ⟨sl8 (by simp; omega), ?_⟩
    generalize hK : kept B ks.length = kp at *
    simp
    refine wp_for_list (enc := fun x : Nat => D.int (x : Nat)) (xs := kp) (fun done ρ => ∃ a3 a5 , ρ = [some (.fz (.lst (gs.map enG))), some (.fz (.int ks.length)), some (.fz (.lst (B.map enG))), a3, a4, a5, a6, some (.fz (lN kp)), some (.ls ((done.map fun x => ren kp (B.getD x .no)).map enG)), none]) ⟨_, _, rfl⟩ (fun done x rest ρ e ⟨a3, a5, er⟩ => ?_) (fun ρ ⟨a3, a5, er⟩ => ?_)
    · subst er
      have hx : x ∈ kp := by rw [e]; simp
      have hxl := kmem hx
      obtain ⟨g, eg⟩ : ∃ y, B[x]? = some y := ⟨_, List.getElem?_eq_getElem (by omega)⟩
      have c1 : ∀ y ∈ ins g, y ∈ kp := fun y hy => cl hx (by simpa [insAt, eg] using hy)
      have hil := ins_len v2 eg
      have hdl : done.length ≤ kp.length := by rw [e]; simp
      have hz : done.length < sizeLine := sl8' (by omega)
      have ed : B.getD x .no = g := by rw [List.getD_eq_getElem?_getD, eg]; rfl
      simp only [wp_setT, List.map_append, List.map_cons, List.map_nil, ed]
      unfold b_law_qtidied_3
      cases g with
      | no => simp [eg, g_no, ren, wt_law_qtidied_2, hz]
      | c a b =>
        have i1 := indexD_nats (c1 a (by simp [ins]))
        have i2 := indexD_nats (c1 b (by simp [ins]))
        simp [eg, g_c, ren, wt_law_qtidied_2, hz, i1, i2]
      | la q => simp [eg, g_la, ren, wt_law_qtidied_2, hz]
      | «at» q => simp [eg, g_at, ren, wt_law_qtidied_2, hz]
      | an q => simp [eg, g_an, ren, wt_law_qtidied_2, hz]
      | wr o ws =>
        simp only [ins] at hil
        have ix := fun y hy => indexD_nats (c1 y (by simpa [ins] using hy))
        cases o with
        | false =>
          simp [eg, g_all, ren]
          refine ⟨sl8 (by omega), ?_⟩
          rw [wp_eq (lcGo_map (g := fun x : Nat => D.int (kp.idxOf x : Nat)) fun x hx => by simp [wipeE, ix x (by simpa [ins] using hx)])]
          simp [wt_law_qtidied_2, hz]
        | true =>
          simp [eg, g_or, ren]
          refine ⟨sl8 (by omega), ?_⟩
          rw [wp_eq (lcGo_map (g := fun x : Nat => D.int (kp.idxOf x : Nat)) fun x hx => by simp [wipeE, ix x (by simpa [ins] using hx)])]
          simp [wt_law_qtidied_2, hz]
    · subst er
      simp
end W

namespace W
open PySem PySem.Spec PyProof.Rows L2 Q
theorem p_law_is_int (i : Int) : sem_law_is_int [.fz (.int i)] = some (.fz (.bl true), [.fz (.int i)]) := by
  refine of_wp ?_
  unfold sem_law_is_int
  rw [wp_fnF rfl]
  simp
theorem p_law_is_text (s : Str) : sem_law_is_text [.fz (.str s), .fz (.str s)] = some (.fz (.bl true), [.fz (.str s), .fz (.str s)]) := by
  refine of_wp ?_
  unfold sem_law_is_text
  rw [wp_fnF rfl]
  simp
theorem p_law_is_number (i : Int) : sem_law_is_number [.fz (.int i), .fz (.int i)] = some (.fz (.bl true), [.fz (.int i), .fz (.int i)]) := by
  refine of_wp ?_
  unfold sem_law_is_number
  rw [wp_fnF rfl]
  simp [wp_eq (p_law_is_int i)]
theorem p_law_is_list (l : List Nat) (hl : l.length ≤ 100000) : sem_law_is_list [.fz (lN l), .fz (lN l)] = some (.fz (.bl true), [.fz (lN l), .fz (lN l)]) := by
  refine of_wp ?_
  unfold sem_law_is_list
  rw [wp_fnF rfl]
  have h : wp (sem_law_ints [.fz (lN l), .fz (.str "list")]) fun r => r = (.fz (.bl true), [.fz (lN l), .fz (.str "list")]) := by
    unfold sem_law_ints
    rw [wp_fnF rfl]
    simp [wt_law_ints_1]
    refine ⟨by omega, ?_⟩
    refine wp_for_range (fun k ρ => ∃ a : Option O, ρ = [some (.fz (lN l)), some (.fz (.str "list")), a]) ⟨none, rfl⟩ (fun k ρ hk ⟨a, er⟩ => ?_) (fun ρ ⟨a, er⟩ => ?_)
    · subst er
      simp [b_law_ints_1, hk, wp_eq (p_law_is_int _)]
    · subst er
      simp
  have e : eqB (lN l) (lN l) = some true := eqB_refl (by simp only [okD]; exact okDs_map fun _ _ => rfl) (by
    have := dpDs_map (f := fun x : Nat => D.int (x : Nat)) (l := l) (n := 0) fun _ _ => Nat.le_refl _
    simp only [dpD]; omega)
  simp [wp_eq (of_wp h), wp_eq e]
theorem p_law_same_signals {many : Nat} {ns : List (List Nat)} {ks : List Str} {st : List Nat} (h : Sigs many ns ks st) :
    sem_law_same_signals [.fz (.tup ((ns.zip ks).map fun p => .tup [.str (S p.1), .str p.2])), .fz (sigD ns ks)] = some (.fz (.bl true), [.fz (.tup ((ns.zip ks).map fun p => .tup [.str (S p.1), .str p.2])), .fz (sigD ns ks)]) := by
  refine of_wp ?_
  unfold sem_law_same_signals
  rw [wp_fnF rfl]
  have hz : (ns.zip ks).length = many := by simp [h.names.1, h.kinds.1]
  have hz2 : min ns.length ks.length = many := by simpa using hz
  have hm := h.le
  have hs : sigD ns ks = .lst ((ns.zip ks).map fun p => .tup [.str (S p.1), .str p.2]) := rfl
  rw [hs]
  simp [hz2]
  refine ⟨by omega, ?_⟩
  refine wp_for_range (fun k ρ => ∃ a b : Option O, ρ = [some (.fz (.tup ((ns.zip ks).map fun p => .tup [.str (S p.1), .str p.2]))), some (.fz (.lst ((ns.zip ks).map fun p => .tup [.str (S p.1), .str p.2]))), a, b]) ⟨_, _, rfl⟩ (fun k ρ hk ⟨a, b, er⟩ => ?_) (fun ρ ⟨a, b, er⟩ => ?_)
  · subst er
    obtain ⟨n, kd, k1, k2⟩ := kind_at h hk
    simp only [wp_setT, Int.zero_add]
    unfold b_law_same_signals_1
    simp only [wp_seqS, wp_setS, wp_pureE, wp_ixF, wp_varW]
    simp [-List.map_zip_eq_zipWith, -List.getElem?_map]
    simp only [k2]
    simp [wp_eq (p_law_is_text _)]
  · subst er
    simp
theorem gate_ok {w m i : Nat} {inp : Bool} {g : Gt} (h : GOK w m i inp g) : okD (enG g) = true ∧ dpD (enG g) ≤ 64 := by
  have l0 : ∀ q, Cube w q → PyData.strOk (S q) = true := fun q hq => strOk_S fun c hc => by
    have := hq.2 c hc; omega
  cases g with
  | no => exact ⟨rfl, by decide⟩
  | c a b =>
    refine ⟨?_, by simp [g_c, dpD, dpDs]⟩
    simp only [g_c, okD, okDs, Bool.and_true]
    decide +kernel
  | la q =>
    have := l0 q h.2.2
    refine ⟨?_, by simp [g_la, dpD, dpDs]⟩
    simp only [g_la, okD, okDs, this, Bool.and_true]
    decide +kernel
  | «at» q =>
    have := l0 q h.2.2
    refine ⟨?_, by simp [g_at, dpD, dpDs]⟩
    simp only [g_at, okD, okDs, this, Bool.and_true]
    decide +kernel
  | an q =>
    have := l0 q h.2
    refine ⟨?_, by simp [g_an, dpD, dpDs]⟩
    simp only [g_an, okD, okDs, this, Bool.and_true]
    decide +kernel
  | wr o ws =>
    have k1 : okDs (ws.map fun x => D.int (x : Nat)) = true := okDs_map fun _ _ => rfl
    have k2 := dpDs_map (f := fun x : Nat => D.int (x : Nat)) (l := ws) (n := 0) fun _ _ => Nat.le_refl _
    cases o with
    | false =>
      refine ⟨?_, by simp only [g_all, dpD, dpDs, tN]; omega⟩
      simp only [g_all, tN, okD, okDs, k1, Bool.and_true]
      decide +kernel
    | true =>
      refine ⟨?_, by simp only [g_or, dpD, dpDs, tN]; omega⟩
      simp only [g_or, tN, okD, okDs, k1, Bool.and_true]
      decide +kernel
theorem tyN_gate {g : Gt} (h : g ≠ .no) : tyN (enG g) = some "tuple" := by
  cases g with
  | no => exact absurd rfl h
  | c a b => rfl
  | la q => rfl
  | «at» q => rfl
  | an q => rfl
  | wr o ws => rfl
theorem p_law_qsame_gates {ks : List Str} {gs : List Gt} (v : VN ks gs) : sem_law_qsame_gates [.fz (.tup (gs.map enG)), .fz (.lst (gs.map enG))] = some (.fz (.bl true), [.fz (.tup (gs.map enG)), .fz (.lst (gs.map enG))]) := by
  refine of_wp ?_
  unfold sem_law_qsame_gates
  rw [wp_fnF rfl]
  have hi := v.hi
  simp
  refine ⟨by omega, ?_⟩
  refine wp_for_range (fun k ρ => ∃ a : Option O, ρ = [some (.fz (.tup (gs.map enG))), some (.fz (.lst (gs.map enG))), a]) ⟨_, rfl⟩ (fun k ρ hk ⟨a, er⟩ => ?_) (fun ρ ⟨a, er⟩ => ?_)
  · subst er
    obtain ⟨g, eg⟩ : ∃ y, gs[k]? = some y := ⟨_, List.getElem?_eq_getElem hk⟩
    have gg : gs[k] = g := by rw [List.getElem?_eq_getElem hk] at eg; exact Option.some.inj eg
    obtain ⟨g1, g2⟩ := gate_ok (v.ok k g eg)
    by_cases hg : g = .no
    · subst hg
      simp [b_law_qsame_gates_1, eg, gg, g_no]
    · have hn : Q.isNon (enG g) = false := by
        cases hq : Q.isNon (enG g) with
        | false => rfl
        | true => exact absurd ((enG_non g).mp hq) hg
      simp [b_law_qsame_gates_1, eg, gg, hn, tyN_gate hg, wp_eq (eqB_refl g1 g2)]
  · subst er
    simp
theorem p_law_qsame_netlist {many : Nat} {ns : List (List Nat)} {ks : List Str} {st : List Nat} {gs : List Gt} (h : Sigs many ns ks st) (v : VN ks gs) :
    sem_law_qsame_netlist [.fz (netD ns ks st gs), .fz (sigD ns ks), .fz (.str (S st)), .fz (.lst (gs.map enG))] = some (.fz (.bl true), [.fz (netD ns ks st gs), .fz (sigD ns ks), .fz (.str (S st)), .fz (.lst (gs.map enG))]) := by
  refine of_wp ?_
  unfold sem_law_qsame_netlist
  rw [wp_fnF rfl]
  have s1 := p_law_same_signals h
  simp only [wp_seqS, wp_ifS, wp_orB, wp_notB, wp_tru, wp_frN, wp_callN, wp_evs_cons, wp_evs_nil, wp_atF, wp_varW, wp_varD]
  simp
  rw [wp_eq s1]
  simp [wp_eq (p_law_is_text _), wp_eq (p_law_qsame_gates v)]
theorem p_law_netlist {many : Nat} {ns : List (List Nat)} {ks : List Str} {st : List Nat} {gs : List Gt} (h : Sigs many ns ks st) (v : VN ks gs) (d0 d1 d2 d4 : D) :
    sem_law_netlist [.fz (.tup [d0, d1, d2, sigD ns ks, d4, .str (S st)]), .fz (.lst (gs.map enG))] = some (netO ns ks st gs, [.fz (.tup [d0, d1, d2, sigD ns ks, d4, .str (S st)]), .fz (.lst (gs.map enG))]) := by
  refine of_wp ?_
  unfold sem_law_netlist
  rw [wp_fnF rfl]
  have hs : sigD ns ks = .lst ((ns.zip ks).map fun p => .tup [.str (S p.1), .str p.2]) := rfl
  have hl : listC [sigD ns ks] = some (.ls ((ns.zip ks).map fun p => .tup [.str (S p.1), .str p.2])) := by rw [hs]; rfl
  have pi := p_Netlist_init h v
  simp [wp_eq hl, ← hs, wp_eq pi]
theorem netO_fr {ns : List (List Nat)} {ks : List Str} {st : List Nat} {gs : List Gt} : (netO ns ks st gs).fr = netD ns ks st gs := by
  simp [netO, netD, netFs, O.fr, O.frs, O.frf]
end W

namespace W
open PySem PySem.Spec PyProof.Rows L2 Q
theorem one_turn (ns : List Int) (turn : Nat) (ρ : Ev) (hρ : ∃ a2 a3 a4 a5 a6 a7 a8, ρ = [some (.fz (.scr ns)), some (.fz (.int turn)), a2, a3, a4, a5, a6, a7, a8]) : wp (b_law_3 ρ) fun r => ∃ a1 a2 a3 a4 a5 a6 a7 a8, r = (.nx, [some (.fz (.scr ns)), a1, a2, a3, a4, a5, a6, a7, a8]) := by
  obtain ⟨a2, a3, a4, a5, a6, a7, a8, rfl⟩ := hρ
  obtain ⟨c1, h1⟩ := p_law_cell ns (2 * turn)
  obtain ⟨c2, h2⟩ := p_law_cell ns (2 * turn + 1)
  unfold b_law_3
  have q1 : (2 : Int) * (turn : Int) = ((2 * turn : Nat) : Int) := by omega
  have q2 : ((2 * turn : Nat) : Int) + 1 = ((2 * turn + 1 : Nat) : Int) := by omega
  simp only [wp_seqS, wp_setS, wp_pureE, wp_frN, wp_callN, wp_evs_cons, wp_evs_nil, wp_bin, wp_cst, wp_varW, wp_varD]
  simp only [List.set, List.getElem?_cons_succ, List.getElem?_cons_zero, Option.join_some, wp_some, view_fz, fzK_fz, mulO, intO_int, addO_int]
  simp only [wp_map, mulI_wp, fr_fz, q1]
  refine ⟨by omega, ?_⟩
  simp only [List.map_cons, List.map_nil]
  rw [wp_eq h1]
  simp only [fr_fz]
  refine wp_mono (p_law_world c1) fun r ⟨d, ⟨many, ns1, ks, st, d0, d1, d2, d4, hS, ed⟩, er⟩ => ?_
  subst er ed
  simp
  rw [q1, q2, wp_eq h2]
  simp only [fr_fz]
  refine wp_mono (p_law_qwired hS d0 d1 d2 d4 c2) fun r ⟨gs, v, gl, er⟩ => ?_
  subst er
  have kl := hS.kinds.1
  have hz : (ns1.zip ks).length = many := by simp [hS.names.1, hS.kinds.1]
  have hs : sigD ns1 ks = .lst ((ns1.zip ks).map fun p => .tup [.str (S p.1), .str p.2]) := rfl
  have hsl : lenO [sigD ns1 ks] = some (.fz (.int many)) := by rw [hs]; simp [lenO_lst, ← hz]
  have hm := hS.le
  have pn := p_law_netlist hS v d0 d1 d2 d4
  have pt := p_tidied (st := st) hS v
  have vt := tidy_ok v
  have pq := p_law_qtidied v
  rw [kl] at vt pq
  have c1' := p_law_qsame_netlist hS v
  have c2' := p_law_qsame_netlist hS vt
  have nd := p_needed hS v
  have qn := p_law_qneeded v
  rw [kl] at qn
  have nl : (need gs many).length ≤ 1000 := by
    have := kept_len (gs := gs) (w := many) (by have := v.lo; omega)
    have h2 := v.hi
    unfold kept at this
    rw [List.length_append] at this; omega
  rw [wp_eq hsl]
  simp only [fr_ls]
  rw [wp_eq pn]
  simp only [netO_fr]
  simp
  refine ⟨by omega, ?_⟩
  refine wp_for_range (a := (many : Int)) (fun k ρ => ∃ a6 : Option O, ρ = [some (.fz (.scr ns)), some (.fz (.int turn)), some (.fz (.tup [d0, d1, d2, sigD ns1 ks, d4, .str (S st)])), some (.fz (.lst (gs.map enG))), some (.fz (.int many)), some (.fz (netD ns1 ks st gs)), a6, a7, a8]) ⟨_, rfl⟩ (fun k ρ hk ⟨a6, er⟩ => ?_) (fun ρ ⟨a6, er⟩ => ?_)
  · subst er
    have hk' : k + many < gs.length := by omega
    have e : (many : Int) + (k : Int) = ((many + k : Nat) : Int) := by omega
    have p1 := p_source (ns := ns1) (st := st) v (w := many + k) (by omega) (by omega)
    have p2 := p_law_qsource v (w := many + k) (by omega) (by omega)
    rw [e]
    simp only [wp_setT]
    unfold b_law_1
    simp only [wp_seqS, wp_ifS, wp_notB, wp_tru, wp_frN, wp_callN, wp_evs_cons, wp_evs_nil, wp_varD]
    simp only [List.set, List.getElem?_cons_succ, List.getElem?_cons_zero, Option.join_some, wp_some, fzK_fz, List.map_cons, List.map_nil]
    rw [wp_eq p1]
    simp only [fr_fz]
    rw [wp_eq p2]
    simp only [fr_fz]
    rw [wp_eq (p_law_is_number _)]
    simp
  · subst er
    simp
    refine wp_for_range (a := 0) (n := 2) (fun k ρ => ∃ a6 a7 a8 : Option O, ρ = [some (.fz (.scr ns)), some (.fz (.int turn)), some (.fz (.tup [d0, d1, d2, sigD ns1 ks, d4, .str (S st)])), some (.fz (.lst (gs.map enG))), some (.fz (.int many)), some (.fz (netD ns1 ks st gs)), a6, a7, a8]) ⟨_, _, _, rfl⟩ (fun k ρ hk ⟨a6, a7, a8, er⟩ => ?_) (fun ρ ⟨a6, a7, a8, er⟩ => ?_)
    · subst er
      have hz : (need gs many).length < sizeLine := sl8' (by omega)
      simp [b_law_2, wp_eq nd, wp_eq qn, wp_eq (p_law_is_list _ (show (need gs many).length ≤ 100000 by omega)), hz]
    · subst er
      simp [wp_eq pt, wp_eq pq, wp_eq c1', wp_eq c2', netO_fr]
theorem law_true (ns : List Int) (_ : ns.length ≤ 63) : ∃ os, sem_law [.fz (.scr ns)] = some (.fz (.bl true), os) := by
  have h : wp (sem_law [.fz (.scr ns)]) fun r => r.1 = .fz (.bl true) := by
    unfold sem_law
    rw [wp_fnF rfl]
    simp
    refine wp_for_range (a := 0) (n := 2) (fun k ρ => ∃ a1 a2 a3 a4 a5 a6 a7 a8 : Option O, ρ = [some (.fz (.scr ns)), a1, a2, a3, a4, a5, a6, a7, a8]) ⟨_, _, _, _, _, _, _, _, rfl⟩ (fun k ρ hk ⟨a1, a2, a3, a4, a5, a6, a7, a8, er⟩ => ?_) (fun ρ ⟨a1, a2, a3, a4, a5, a6, a7, a8, er⟩ => ?_)
    · subst er
      simp only [wp_setT, Int.zero_add]
      refine wp_mono (one_turn ns k _ ⟨_, _, _, _, _, _, _, rfl⟩) fun r ⟨a1, a2, a3, a4, a5, a6, a7, a8, er⟩ => ?_
      subst er
      exact ⟨a1, a2, a3, a4, a5, a6, a7, a8, rfl⟩
    · subst er
      simp
  obtain ⟨⟨o, os⟩, e, h⟩ := h
  cases h
  exact ⟨os, e⟩
end W

namespace W
open PySem PySem.Spec PyProof.Rows L2 Q
/-! ### the head -/
def d_is_name : He.DefD := ⟨("is_name", none), "is_name", "is_name", defArgs s_is_name, defBody s_is_name, defScope s_is_name, [], []⟩
def d_is_code : He.DefD := ⟨("is_code", none), "is_code", "is_code", defArgs s_is_code, defBody s_is_code, defScope s_is_code, [], []⟩
def d_are_signals : He.DefD := ⟨("are_signals", none), "are_signals", "are_signals", defArgs s_are_signals, defBody s_are_signals, defScope s_are_signals, [], []⟩
def d_is_cube : He.DefD := ⟨("is_cube", none), "is_cube", "is_cube", defArgs s_is_cube, defBody s_is_cube, defScope s_is_cube, [], []⟩
def d_are_cubes : He.DefD := ⟨("are_cubes", none), "are_cubes", "are_cubes", defArgs s_are_cubes, defBody s_are_cubes, defScope s_are_cubes, [], []⟩
def d_are_wires : He.DefD := ⟨("are_wires", none), "are_wires", "are_wires", defArgs s_are_wires, defBody s_are_wires, defScope s_are_wires, [], []⟩
def d_fits_inner : He.DefD := ⟨("fits_inner", none), "fits_inner", "fits_inner", defArgs s_fits_inner, defBody s_fits_inner, defScope s_fits_inner, [], []⟩
def d_fits_signal : He.DefD := ⟨("fits_signal", none), "fits_signal", "fits_signal", defArgs s_fits_signal, defBody s_fits_signal, defScope s_fits_signal, [], []⟩
def d_Netlist_init : He.DefD := ⟨("Netlist", some "__init__"), "__init__", "Netlist.__init__", defArgs s_Netlist_init, defBody s_Netlist_init, defScope s_Netlist_init, [], []⟩
def d_source : He.DefD := ⟨("source", none), "source", "source", defArgs s_source, defBody s_source, defScope s_source, [], []⟩
def d_inner_inputs : He.DefD := ⟨("inner_inputs", none), "inner_inputs", "inner_inputs", defArgs s_inner_inputs, defBody s_inner_inputs, defScope s_inner_inputs, [], []⟩
def d_needed_wires : He.DefD := ⟨("needed_wires", none), "needed_wires", "needed_wires", defArgs s_needed_wires, defBody s_needed_wires, defScope s_needed_wires, [], []⟩
def d_needed : He.DefD := ⟨("needed", none), "needed", "needed", defArgs s_needed, defBody s_needed, defScope s_needed, [], []⟩
def d_bypassed : He.DefD := ⟨("bypassed", none), "bypassed", "bypassed", defArgs s_bypassed, defBody s_bypassed, defScope s_bypassed, [], []⟩
def d_renumbered : He.DefD := ⟨("renumbered", none), "renumbered", "renumbered", defArgs s_renumbered, defBody s_renumbered, defScope s_renumbered, [], []⟩
def d_tidied : He.DefD := ⟨("tidied", none), "tidied", "tidied", defArgs s_tidied, defBody s_tidied, defScope s_tidied, [], []⟩
def d_law_cell : He.DefD := ⟨("_law_cell", none), "_law_cell", "_law_cell", defArgs s_law_cell, defBody s_law_cell, defScope s_law_cell, [], []⟩
def d_law_draws : He.DefD := ⟨("_law_draws", none), "_law_draws", "_law_draws", defArgs s_law_draws, defBody s_law_draws, defScope s_law_draws, [], []⟩
def d_law_is_int : He.DefD := ⟨("_law_is_int", none), "_law_is_int", "_law_is_int", defArgs s_law_is_int, defBody s_law_is_int, defScope s_law_is_int, [], []⟩
def d_law_ints : He.DefD := ⟨("_law_ints", none), "_law_ints", "_law_ints", defArgs s_law_ints, defBody s_law_ints, defScope s_law_ints, [], []⟩
def d_law_is_list : He.DefD := ⟨("_law_is_list", none), "_law_is_list", "_law_is_list", defArgs s_law_is_list, defBody s_law_is_list, defScope s_law_is_list, [], []⟩
def d_law_is_text : He.DefD := ⟨("_law_is_text", none), "_law_is_text", "_law_is_text", defArgs s_law_is_text, defBody s_law_is_text, defScope s_law_is_text, [], []⟩
def d_law_is_number : He.DefD := ⟨("_law_is_number", none), "_law_is_number", "_law_is_number", defArgs s_law_is_number, defBody s_law_is_number, defScope s_law_is_number, [], []⟩
def d_law_bits : He.DefD := ⟨("_law_bits", none), "_law_bits", "_law_bits", defArgs s_law_bits, defBody s_law_bits, defScope s_law_bits, [], []⟩
def d_law_name : He.DefD := ⟨("_law_name", none), "_law_name", "_law_name", defArgs s_law_name, defBody s_law_name, defScope s_law_name, [], []⟩
def d_law_names : He.DefD := ⟨("_law_names", none), "_law_names", "_law_names", defArgs s_law_names, defBody s_law_names, defScope s_law_names, [], []⟩
def d_law_sequence : He.DefD := ⟨("_law_sequence", none), "_law_sequence", "_law_sequence", defArgs s_law_sequence, defBody s_law_sequence, defScope s_law_sequence, [], []⟩
def d_law_groups : He.DefD := ⟨("_law_groups", none), "_law_groups", "_law_groups", defArgs s_law_groups, defBody s_law_groups, defScope s_law_groups, [], []⟩
def d_law_add_groups : He.DefD := ⟨("_law_add_groups", none), "_law_add_groups", "_law_add_groups", defArgs s_law_add_groups, defBody s_law_add_groups, defScope s_law_add_groups, [], []⟩
def d_law_free_net : He.DefD := ⟨("_law_free_net", none), "_law_free_net", "_law_free_net", defArgs s_law_free_net, defBody s_law_free_net, defScope s_law_free_net, [], []⟩
def d_law_world : He.DefD := ⟨("_law_world", none), "_law_world", "_law_world", defArgs s_law_world, defBody s_law_world, defScope s_law_world, [], []⟩
def d_law_same_signals : He.DefD := ⟨("_law_same_signals", none), "_law_same_signals", "_law_same_signals", defArgs s_law_same_signals, defBody s_law_same_signals, defScope s_law_same_signals, [], []⟩
def d_law_cube : He.DefD := ⟨("_law_cube", none), "_law_cube", "_law_cube", defArgs s_law_cube, defBody s_law_cube, defScope s_law_cube, [], []⟩
def d_law_netlist : He.DefD := ⟨("_law_netlist", none), "_law_netlist", "_law_netlist", defArgs s_law_netlist, defBody s_law_netlist, defScope s_law_netlist, [], []⟩
def d_law_qsame_gates : He.DefD := ⟨("_law_qsame_gates", none), "_law_qsame_gates", "_law_qsame_gates", defArgs s_law_qsame_gates, defBody s_law_qsame_gates, defScope s_law_qsame_gates, [], []⟩
def d_law_qsame_netlist : He.DefD := ⟨("_law_qsame_netlist", none), "_law_qsame_netlist", "_law_qsame_netlist", defArgs s_law_qsame_netlist, defBody s_law_qsame_netlist, defScope s_law_qsame_netlist, [], []⟩
def d_law_qwired : He.DefD := ⟨("_law_qwired", none), "_law_qwired", "_law_qwired", defArgs s_law_qwired, defBody s_law_qwired, defScope s_law_qwired, [], []⟩
def d_law_qsource : He.DefD := ⟨("_law_qsource", none), "_law_qsource", "_law_qsource", defArgs s_law_qsource, defBody s_law_qsource, defScope s_law_qsource, [], []⟩
def d_law_qreads : He.DefD := ⟨("_law_qreads", none), "_law_qreads", "_law_qreads", defArgs s_law_qreads, defBody s_law_qreads, defScope s_law_qreads, [], []⟩
def d_law_qneeded : He.DefD := ⟨("_law_qneeded", none), "_law_qneeded", "_law_qneeded", defArgs s_law_qneeded, defBody s_law_qneeded, defScope s_law_qneeded, [], []⟩
def d_law_qtidied : He.DefD := ⟨("_law_qtidied", none), "_law_qtidied", "_law_qtidied", defArgs s_law_qtidied, defBody s_law_qtidied, defScope s_law_qtidied, [], []⟩
def d_law : He.DefD := ⟨("law", none), "law", "law", defArgs s_law, defBody s_law, defScope s_law, [], []⟩
def d_Netlist_signal_count : GetD := ⟨"Netlist", "signal_count", "signal_count", "Netlist.signal_count", defArgs s_Netlist_signal_count, defBody s_Netlist_signal_count, defScope s_Netlist_signal_count⟩
def fnL : List He.DefD := [d_is_name, d_is_code, d_are_signals, d_is_cube, d_are_cubes, d_are_wires, d_fits_inner, d_fits_signal, d_Netlist_init, d_source, d_inner_inputs, d_needed_wires, d_needed, d_bypassed, d_renumbered, d_tidied, d_law_cell, d_law_draws, d_law_is_int, d_law_ints, d_law_is_list, d_law_is_text, d_law_is_number, d_law_bits, d_law_name, d_law_names, d_law_sequence, d_law_groups, d_law_add_groups, d_law_free_net, d_law_world, d_law_same_signals, d_law_cube, d_law_netlist, d_law_qsame_gates, d_law_qsame_netlist, d_law_qwired, d_law_qsource, d_law_qreads, d_law_qneeded, d_law_qtidied, d_law]
def gtL : List GetD := [d_Netlist_signal_count]
def faL : List He.Fa := [.glo "is_name", .glo "is_code", .glo "are_signals", .glo "is_cube", .glo "are_cubes", .glo "are_wires", .glo "fits_inner", .glo "fits_signal", .glo "Netlist", .mkr "Netlist", .cls "Netlist", .glo "source", .glo "inner_inputs", .glo "needed_wires", .glo "needed", .glo "bypassed", .glo "renumbered", .glo "tidied", .glo "_law_cell", .glo "_law_draws", .glo "_law_is_int", .glo "_law_ints", .glo "_law_is_list", .glo "_law_is_text", .glo "_law_is_number", .glo "_law_bits", .glo "_law_name", .glo "_law_names", .glo "_law_sequence", .glo "_law_groups", .glo "_law_add_groups", .glo "_law_free_net", .glo "_law_world", .glo "_law_same_signals", .glo "_law_cube", .glo "_law_netlist", .glo "_law_qsame_gates", .glo "_law_qsame_netlist", .glo "_law_qwired", .glo "_law_qsource", .glo "_law_qreads", .glo "_law_qneeded", .glo "_law_qtidied", .glo "law", .free "all", .free "bool", .free "int", .free "isinstance", .free "len", .free "list", .free "max", .free "range", .free "sorted", .free "str", .free "tuple", .str "DIGITS" "0123456789", .glo "KINDS", .str "LETTERS" "abcdefghijklmnopqrstuvwxyz", .int "LONGEST_NAME" 12, .int "MOST_SIGNALS" 8, .int "MOST_WIRES" 4000, .noat "Netlist" "gates", .noat "Netlist" "signals", .noat "Netlist" "start"]
def exL : List (PySem.W.Frag → Bool) := [fun K => He.tupB K "KINDS" [.str "input", .str "output", .str "inner"]]
abbrev Rw : PySem.W.OpenRow := PySem.W.OpenLaw.row PySem.Challenge.rw_clockless_k86_tidied_netlists
abbrev exF (K : PySem.W.Frag) : Bool := exL.all fun e => e K
abbrev hkL : PySem.W.Hook := hookY 7 faL fnL tabDefs exF gtL
def obL (s : PySem.W.SharedT) : AlY := obsY 7 faL fnL tabDefs exF gtL (HandSHeadRun.getT s)
theorem obL_eq (s : PySem.W.SharedT) : obL s = hkL.obs s.abs := obsY_eq (HandSHeadRun.getT_eq s)
def looseL : List Str := (["_wall", "ClocklessError", "InvalidNetlist", "is_name", "is_code", "are_signals", "is_cube", "are_cubes", "are_wires", "fits_inner", "fits_signal", "Netlist", "source", "inner_inputs", "needed_wires", "needed", "bypassed", "renumbered", "tidied", "_law_cell", "_law_draws", "_law_is_int", "_law_ints", "_law_is_list", "_law_is_text", "_law_is_number", "_law_bits", "_law_name", "_law_names", "_law_sequence"] : List Str) ++ (["_law_groups", "_law_add_groups", "_law_free_net", "_law_world", "_law_same_signals", "_law_cube", "_law_netlist", "_law_qsame_gates", "_law_qsame_netlist", "_law_qwired", "_law_qsource", "_law_qreads", "_law_qneeded", "_law_qtidied", "KINDS", "MOST_SIGNALS", "LONGEST_NAME", "LETTERS", "DIGITS", "MOST_WIRES"] : List Str)
theorem runL (w : World) : HandSHeadRun.RunEq Rw (PySem.W.view Rw.prog [55]) hkL obL 5540 looseL w := by
  intro os
  kernel_rfl
theorem exs_at {K : PySem.W.Frag} (i : Nat) (h : exF K = true) {e : PySem.W.Frag → Bool} (he : exL[i]? = some e) : e K = true := List.all_eq_true.mp h e (List.mem_of_getElem? he)
theorem facts {K : PySem.W.Frag} {h : Heap} {mg : Str → Option Value} {w : World} {base : Heap} (X : K.In h) (G : h.Ns mainGlobals mg) (c : SaysY faL fnL tabDefs exF gtL w h K) (tb : ∀ p ∈ tabDefs, GxR.TabB base mg (He.cT K p).1 (He.cT K p).2) : Facts K mg base := by
  obtain ⟨fd0, F0⟩ := c.x.t.d.def_ 0 (d := d_is_name) rfl
  obtain ⟨fd1, F1⟩ := c.x.t.d.def_ 1 (d := d_is_code) rfl
  obtain ⟨fd2, F2⟩ := c.x.t.d.def_ 2 (d := d_are_signals) rfl
  obtain ⟨fd3, F3⟩ := c.x.t.d.def_ 3 (d := d_is_cube) rfl
  obtain ⟨fd4, F4⟩ := c.x.t.d.def_ 4 (d := d_are_cubes) rfl
  obtain ⟨fd5, F5⟩ := c.x.t.d.def_ 5 (d := d_are_wires) rfl
  obtain ⟨fd6, F6⟩ := c.x.t.d.def_ 6 (d := d_fits_inner) rfl
  obtain ⟨fd7, F7⟩ := c.x.t.d.def_ 7 (d := d_fits_signal) rfl
  obtain ⟨fd8, F8⟩ := c.x.t.d.def_ 8 (d := d_Netlist_init) rfl
  obtain ⟨fd9, F9⟩ := c.x.t.d.def_ 9 (d := d_source) rfl
  obtain ⟨fd10, F10⟩ := c.x.t.d.def_ 10 (d := d_inner_inputs) rfl
  obtain ⟨fd11, F11⟩ := c.x.t.d.def_ 11 (d := d_needed_wires) rfl
  obtain ⟨fd12, F12⟩ := c.x.t.d.def_ 12 (d := d_needed) rfl
  obtain ⟨fd13, F13⟩ := c.x.t.d.def_ 13 (d := d_bypassed) rfl
  obtain ⟨fd14, F14⟩ := c.x.t.d.def_ 14 (d := d_renumbered) rfl
  obtain ⟨fd15, F15⟩ := c.x.t.d.def_ 15 (d := d_tidied) rfl
  obtain ⟨fd16, F16⟩ := c.x.t.d.def_ 16 (d := d_law_cell) rfl
  obtain ⟨fd17, F17⟩ := c.x.t.d.def_ 17 (d := d_law_draws) rfl
  obtain ⟨fd18, F18⟩ := c.x.t.d.def_ 18 (d := d_law_is_int) rfl
  obtain ⟨fd19, F19⟩ := c.x.t.d.def_ 19 (d := d_law_ints) rfl
  obtain ⟨fd20, F20⟩ := c.x.t.d.def_ 20 (d := d_law_is_list) rfl
  obtain ⟨fd21, F21⟩ := c.x.t.d.def_ 21 (d := d_law_is_text) rfl
  obtain ⟨fd22, F22⟩ := c.x.t.d.def_ 22 (d := d_law_is_number) rfl
  obtain ⟨fd23, F23⟩ := c.x.t.d.def_ 23 (d := d_law_bits) rfl
  obtain ⟨fd24, F24⟩ := c.x.t.d.def_ 24 (d := d_law_name) rfl
  obtain ⟨fd25, F25⟩ := c.x.t.d.def_ 25 (d := d_law_names) rfl
  obtain ⟨fd26, F26⟩ := c.x.t.d.def_ 26 (d := d_law_sequence) rfl
  obtain ⟨fd27, F27⟩ := c.x.t.d.def_ 27 (d := d_law_groups) rfl
  obtain ⟨fd28, F28⟩ := c.x.t.d.def_ 28 (d := d_law_add_groups) rfl
  obtain ⟨fd29, F29⟩ := c.x.t.d.def_ 29 (d := d_law_free_net) rfl
  obtain ⟨fd30, F30⟩ := c.x.t.d.def_ 30 (d := d_law_world) rfl
  obtain ⟨fd31, F31⟩ := c.x.t.d.def_ 31 (d := d_law_same_signals) rfl
  obtain ⟨fd32, F32⟩ := c.x.t.d.def_ 32 (d := d_law_cube) rfl
  obtain ⟨fd33, F33⟩ := c.x.t.d.def_ 33 (d := d_law_netlist) rfl
  obtain ⟨fd34, F34⟩ := c.x.t.d.def_ 34 (d := d_law_qsame_gates) rfl
  obtain ⟨fd35, F35⟩ := c.x.t.d.def_ 35 (d := d_law_qsame_netlist) rfl
  obtain ⟨fd36, F36⟩ := c.x.t.d.def_ 36 (d := d_law_qwired) rfl
  obtain ⟨fd37, F37⟩ := c.x.t.d.def_ 37 (d := d_law_qsource) rfl
  obtain ⟨fd38, F38⟩ := c.x.t.d.def_ 38 (d := d_law_qreads) rfl
  obtain ⟨fd39, F39⟩ := c.x.t.d.def_ 39 (d := d_law_qneeded) rfl
  obtain ⟨fd40, F40⟩ := c.x.t.d.def_ 40 (d := d_law_qtidied) rfl
  obtain ⟨fd41, F41⟩ := c.x.t.d.def_ 41 (d := d_law) rfl
  obtain ⟨P0, gd0, G0⟩ := c.getter 0 (d := d_Netlist_signal_count) rfl
  exact ⟨⟨_, fd0, He.glo_ok X G (c.x.t.d.fact 0 (f := .glo "is_name") rfl), F0, FunD.bindsN (ps := ["name"]) F0 fun _ _ _ _ _ _ us hl => match us, hl with | [_], _ => rfl⟩,
    He.glo_ok X G (c.x.t.d.fact 0 (f := .glo "is_name") rfl),
    ⟨_, fd1, He.glo_ok X G (c.x.t.d.fact 1 (f := .glo "is_code") rfl), F1, FunD.bindsN (ps := ["text", "width"]) F1 fun _ _ _ _ _ _ us hl => match us, hl with | [_, _], _ => rfl⟩,
    He.glo_ok X G (c.x.t.d.fact 1 (f := .glo "is_code") rfl),
    ⟨_, fd2, He.glo_ok X G (c.x.t.d.fact 2 (f := .glo "are_signals") rfl), F2, FunD.bindsN (ps := ["signals"]) F2 fun _ _ _ _ _ _ us hl => match us, hl with | [_], _ => rfl⟩,
    ⟨_, fd3, He.glo_ok X G (c.x.t.d.fact 3 (f := .glo "is_cube") rfl), F3, FunD.bindsN (ps := ["cube", "width"]) F3 fun _ _ _ _ _ _ us hl => match us, hl with | [_, _], _ => rfl⟩,
    He.glo_ok X G (c.x.t.d.fact 3 (f := .glo "is_cube") rfl),
    ⟨_, fd4, He.glo_ok X G (c.x.t.d.fact 4 (f := .glo "are_cubes") rfl), F4, FunD.bindsN (ps := ["cubes", "width"]) F4 fun _ _ _ _ _ _ us hl => match us, hl with | [_, _], _ => rfl⟩,
    He.glo_ok X G (c.x.t.d.fact 4 (f := .glo "are_cubes") rfl),
    ⟨_, fd5, He.glo_ok X G (c.x.t.d.fact 5 (f := .glo "are_wires") rfl), F5, FunD.bindsN (ps := ["wires", "low", "high"]) F5 fun _ _ _ _ _ _ us hl => match us, hl with | [_, _, _], _ => rfl⟩,
    ⟨_, fd6, He.glo_ok X G (c.x.t.d.fact 6 (f := .glo "fits_inner") rfl), F6, FunD.bindsN (ps := ["gate", "wire", "width"]) F6 fun _ _ _ _ _ _ us hl => match us, hl with | [_, _, _], _ => rfl⟩,
    ⟨_, fd7, He.glo_ok X G (c.x.t.d.fact 7 (f := .glo "fits_signal") rfl), F7, FunD.bindsN (ps := ["gate", "width", "count"]) F7 fun _ _ _ _ _ _ us hl => match us, hl with | [_, _, _], _ => rfl⟩,
    ⟨_, _, fd8, He.glo_ok X G (c.x.t.d.fact 8 (f := .glo "Netlist") rfl), He.mkr_ok (c.x.t.d.fact 9 (f := .mkr "Netlist") rfl), F8, FunD.bindsN (ps := ["self", "signals", "start", "gates"]) F8 fun _ _ _ _ _ _ us hl => match us, hl with | [_, _, _, _], _ => rfl⟩,
    ⟨_, _, _, gd0, He.glo_ok X G (c.x.t.d.fact 8 (f := .glo "Netlist") rfl), He.cls_ok (c.x.t.d.fact 10 (f := .cls "Netlist") rfl), P0, G0, FunD.bindsN (ps := ["self"]) G0 fun _ _ _ _ _ _ us hl => match us, hl with | [_], _ => rfl⟩,
    ⟨_, fd9, He.glo_ok X G (c.x.t.d.fact 11 (f := .glo "source") rfl), F9, FunD.bindsN (ps := ["netlist", "wire"]) F9 fun _ _ _ _ _ _ us hl => match us, hl with | [_, _], _ => rfl⟩,
    ⟨_, fd10, He.glo_ok X G (c.x.t.d.fact 12 (f := .glo "inner_inputs") rfl), F10, FunD.bindsN (ps := ["gate"]) F10 fun _ _ _ _ _ _ us hl => match us, hl with | [_], _ => rfl⟩,
    ⟨_, fd11, He.glo_ok X G (c.x.t.d.fact 13 (f := .glo "needed_wires") rfl), F11, FunD.bindsN (ps := ["gates", "width"]) F11 fun _ _ _ _ _ _ us hl => match us, hl with | [_, _], _ => rfl⟩,
    ⟨_, fd12, He.glo_ok X G (c.x.t.d.fact 14 (f := .glo "needed") rfl), F12, FunD.bindsN (ps := ["netlist"]) F12 fun _ _ _ _ _ _ us hl => match us, hl with | [_], _ => rfl⟩,
    ⟨_, fd13, He.glo_ok X G (c.x.t.d.fact 15 (f := .glo "bypassed") rfl), F13, FunD.bindsN (ps := ["netlist", "gate"]) F13 fun _ _ _ _ _ _ us hl => match us, hl with | [_, _], _ => rfl⟩,
    ⟨_, fd14, He.glo_ok X G (c.x.t.d.fact 16 (f := .glo "renumbered") rfl), F14, FunD.bindsN (ps := ["gate", "numbers"]) F14 fun _ _ _ _ _ _ us hl => match us, hl with | [_, _], _ => rfl⟩,
    ⟨_, fd15, He.glo_ok X G (c.x.t.d.fact 17 (f := .glo "tidied") rfl), F15, FunD.bindsN (ps := ["netlist"]) F15 fun _ _ _ _ _ _ us hl => match us, hl with | [_], _ => rfl⟩,
    ⟨_, fd16, He.glo_ok X G (c.x.t.d.fact 18 (f := .glo "_law_cell") rfl), F16, FunD.bindsN (ps := ["_law_script", "_law_k"]) F16 fun _ _ _ _ _ _ us hl => match us, hl with | [_, _], _ => rfl⟩,
    ⟨_, fd17, He.glo_ok X G (c.x.t.d.fact 19 (f := .glo "_law_draws") rfl), F17, FunD.bindsN (ps := ["_law_cell_here", "_law_count"]) F17 fun _ _ _ _ _ _ us hl => match us, hl with | [_, _], _ => rfl⟩,
    ⟨_, fd18, He.glo_ok X G (c.x.t.d.fact 20 (f := .glo "_law_is_int") rfl), F18, FunD.bindsN (ps := ["_law_x"]) F18 fun _ _ _ _ _ _ us hl => match us, hl with | [_], _ => rfl⟩,
    ⟨_, fd19, He.glo_ok X G (c.x.t.d.fact 21 (f := .glo "_law_ints") rfl), F19, FunD.bindsN (ps := ["_law_x", "_law_kind"]) F19 fun _ _ _ _ _ _ us hl => match us, hl with | [_, _], _ => rfl⟩,
    ⟨_, fd20, He.glo_ok X G (c.x.t.d.fact 22 (f := .glo "_law_is_list") rfl), F20, FunD.bindsN (ps := ["_law_x", "_law_due"]) F20 fun _ _ _ _ _ _ us hl => match us, hl with | [_, _], _ => rfl⟩,
    ⟨_, fd21, He.glo_ok X G (c.x.t.d.fact 23 (f := .glo "_law_is_text") rfl), F21, FunD.bindsN (ps := ["_law_x", "_law_due"]) F21 fun _ _ _ _ _ _ us hl => match us, hl with | [_, _], _ => rfl⟩,
    ⟨_, fd22, He.glo_ok X G (c.x.t.d.fact 24 (f := .glo "_law_is_number") rfl), F22, FunD.bindsN (ps := ["_law_x", "_law_due"]) F22 fun _ _ _ _ _ _ us hl => match us, hl with | [_, _], _ => rfl⟩,
    ⟨_, fd23, He.glo_ok X G (c.x.t.d.fact 25 (f := .glo "_law_bits") rfl), F23, FunD.bindsN (ps := ["_law_number", "_law_count"]) F23 fun _ _ _ _ _ _ us hl => match us, hl with | [_, _], _ => rfl⟩,
    ⟨_, fd24, He.glo_ok X G (c.x.t.d.fact 26 (f := .glo "_law_name") rfl), F24, FunD.bindsN (ps := ["_law_draw", "_law_k"]) F24 fun _ _ _ _ _ _ us hl => match us, hl with | [_, _], _ => rfl⟩,
    ⟨_, fd25, He.glo_ok X G (c.x.t.d.fact 27 (f := .glo "_law_names") rfl), F25, FunD.bindsN (ps := ["_law_draws_here", "_law_at", "_law_many"]) F25 fun _ _ _ _ _ _ us hl => match us, hl with | [_, _, _], _ => rfl⟩,
    ⟨_, fd26, He.glo_ok X G (c.x.t.d.fact 28 (f := .glo "_law_sequence") rfl), F26, FunD.bindsN (ps := ["_law_draws_here", "_law_at", "_law_own", "_law_start"]) F26 fun _ _ _ _ _ _ us hl => match us, hl with | [_, _, _, _], _ => rfl⟩,
    ⟨_, fd27, He.glo_ok X G (c.x.t.d.fact 29 (f := .glo "_law_groups") rfl), F27, FunD.bindsN (ps := ["_law_edges", "_law_draws_here", "_law_at"]) F27 fun _ _ _ _ _ _ us hl => match us, hl with | [_, _, _], _ => rfl⟩,
    ⟨_, fd28, He.glo_ok X G (c.x.t.d.fact 30 (f := .glo "_law_add_groups") rfl), F28, FunD.bindsN (ps := ["_law_net", "_law_groups_here", "_law_entry"]) F28 fun _ _ _ _ _ _ us hl => match us, hl with | [_, _, _], _ => rfl⟩,
    ⟨_, fd29, He.glo_ok X G (c.x.t.d.fact 31 (f := .glo "_law_free_net") rfl), F29, FunD.bindsN (ps := ["_law_draws_here", "_law_many"]) F29 fun _ _ _ _ _ _ us hl => match us, hl with | [_, _], _ => rfl⟩,
    ⟨_, fd30, He.glo_ok X G (c.x.t.d.fact 32 (f := .glo "_law_world") rfl), F30, FunD.bindsN (ps := ["_law_cell_here"]) F30 fun _ _ _ _ _ _ us hl => match us, hl with | [_], _ => rfl⟩,
    ⟨_, fd31, He.glo_ok X G (c.x.t.d.fact 33 (f := .glo "_law_same_signals") rfl), F31, FunD.bindsN (ps := ["_law_actual", "_law_signals"]) F31 fun _ _ _ _ _ _ us hl => match us, hl with | [_, _], _ => rfl⟩,
    ⟨_, fd32, He.glo_ok X G (c.x.t.d.fact 34 (f := .glo "_law_cube") rfl), F32, FunD.bindsN (ps := ["_law_draw", "_law_width"]) F32 fun _ _ _ _ _ _ us hl => match us, hl with | [_, _], _ => rfl⟩,
    ⟨_, fd33, He.glo_ok X G (c.x.t.d.fact 35 (f := .glo "_law_netlist") rfl), F33, FunD.bindsN (ps := ["_law_world_here", "_law_gates"]) F33 fun _ _ _ _ _ _ us hl => match us, hl with | [_, _], _ => rfl⟩,
    ⟨_, fd34, He.glo_ok X G (c.x.t.d.fact 36 (f := .glo "_law_qsame_gates") rfl), F34, FunD.bindsN (ps := ["_law_actual", "_law_gates"]) F34 fun _ _ _ _ _ _ us hl => match us, hl with | [_, _], _ => rfl⟩,
    ⟨_, fd35, He.glo_ok X G (c.x.t.d.fact 37 (f := .glo "_law_qsame_netlist") rfl), F35, FunD.bindsN (ps := ["_law_netlist_here", "_law_signals", "_law_start", "_law_gates"]) F35 fun _ _ _ _ _ _ us hl => match us, hl with | [_, _, _, _], _ => rfl⟩,
    ⟨_, fd36, He.glo_ok X G (c.x.t.d.fact 38 (f := .glo "_law_qwired") rfl), F36, FunD.bindsN (ps := ["_law_world_here", "_law_cell_here"]) F36 fun _ _ _ _ _ _ us hl => match us, hl with | [_, _], _ => rfl⟩,
    ⟨_, fd37, He.glo_ok X G (c.x.t.d.fact 39 (f := .glo "_law_qsource") rfl), F37, FunD.bindsN (ps := ["_law_gates", "_law_wire"]) F37 fun _ _ _ _ _ _ us hl => match us, hl with | [_, _], _ => rfl⟩,
    ⟨_, fd38, He.glo_ok X G (c.x.t.d.fact 40 (f := .glo "_law_qreads") rfl), F38, FunD.bindsN (ps := ["_law_gate"]) F38 fun _ _ _ _ _ _ us hl => match us, hl with | [_], _ => rfl⟩,
    ⟨_, fd39, He.glo_ok X G (c.x.t.d.fact 41 (f := .glo "_law_qneeded") rfl), F39, FunD.bindsN (ps := ["_law_gates", "_law_width"]) F39 fun _ _ _ _ _ _ us hl => match us, hl with | [_, _], _ => rfl⟩,
    ⟨_, fd40, He.glo_ok X G (c.x.t.d.fact 42 (f := .glo "_law_qtidied") rfl), F40, FunD.bindsN (ps := ["_law_gates", "_law_width"]) F40 fun _ _ _ _ _ _ us hl => match us, hl with | [_, _], _ => rfl⟩,
    ⟨_, fd41, He.glo_ok X G (c.x.t.d.fact 43 (f := .glo "law") rfl), F41, FunD.bindsN (ps := ["_law_script"]) F41 fun _ _ _ _ _ _ us hl => match us, hl with | [_], _ => rfl⟩,
    He.free_ok X G (c.x.t.d.fact 44 (f := .free "all") rfl),
    He.free_ok X G (c.x.t.d.fact 45 (f := .free "bool") rfl),
    He.free_ok X G (c.x.t.d.fact 46 (f := .free "int") rfl),
    He.free_ok X G (c.x.t.d.fact 47 (f := .free "isinstance") rfl),
    He.free_ok X G (c.x.t.d.fact 48 (f := .free "len") rfl),
    He.free_ok X G (c.x.t.d.fact 49 (f := .free "list") rfl),
    He.free_ok X G (c.x.t.d.fact 50 (f := .free "max") rfl),
    He.free_ok X G (c.x.t.d.fact 51 (f := .free "range") rfl),
    He.free_ok X G (c.x.t.d.fact 52 (f := .free "sorted") rfl),
    He.free_ok X G (c.x.t.d.fact 53 (f := .free "str") rfl),
    He.free_ok X G (c.x.t.d.fact 54 (f := .free "tuple") rfl),
    He.str_ok X G (c.x.t.d.fact 55 (f := .str "DIGITS" "0123456789") rfl),
    ⟨_, He.glo_ok X G (c.x.t.d.fact 56 (f := .glo "KINDS") rfl), fun H => He.tupB_ok (x := "KINDS") (vs := [.str "input", .str "output", .str "inner"]) (exs_at 0 c.x.more rfl) H⟩,
    He.str_ok X G (c.x.t.d.fact 57 (f := .str "LETTERS" "abcdefghijklmnopqrstuvwxyz") rfl),
    He.int_ok X G (c.x.t.d.fact 58 (f := .int "LONGEST_NAME" 12) rfl),
    He.int_ok X G (c.x.t.d.fact 59 (f := .int "MOST_SIGNALS" 8) rfl),
    He.int_ok X G (c.x.t.d.fact 60 (f := .int "MOST_WIRES" 4000) rfl),
    ⟨_, He.glo_ok X G (c.x.t.d.fact 8 (f := .glo "Netlist") rfl), He.cls_ok (c.x.t.d.fact 10 (f := .cls "Netlist") rfl), He.noat_ok (c.x.t.d.fact 61 (f := .noat "Netlist" "gates") rfl)⟩,
    ⟨_, He.glo_ok X G (c.x.t.d.fact 8 (f := .glo "Netlist") rfl), He.cls_ok (c.x.t.d.fact 10 (f := .cls "Netlist") rfl), He.noat_ok (c.x.t.d.fact 62 (f := .noat "Netlist" "signals") rfl)⟩,
    ⟨_, He.glo_ok X G (c.x.t.d.fact 8 (f := .glo "Netlist") rfl), He.cls_ok (c.x.t.d.fact 10 (f := .cls "Netlist") rfl), He.noat_ok (c.x.t.d.fact 63 (f := .noat "Netlist" "start") rfl)⟩,
    tb⟩
end W
open PySem PySem.W PySem.Calls PyProof.Rows
theorem PySem.Challenge.cw_clockless_k86_tidied_netlists_holds : PySem.Challenge.rw_clockless_k86_tidied_netlists.Holds := by
  w_on; o_law
  refine HandSHeadRun.head_any (r := OpenLaw.row PySem.Challenge.rw_clockless_k86_tidied_netlists) (q := view (OpenLaw.row PySem.Challenge.rw_clockless_k86_tidied_netlists).prog [55]) (H := W.hkL) (ob := W.obL) (M := 5540) (loose := W.looseL) (d := HandSHeadRun.topDef (OpenLaw.row PySem.Challenge.rw_clockless_k86_tidied_netlists).prog 55) (kwd := []) W.obL_eq
    (by kernel_rfl) (fun s => by kernel_rfl) W.runL (by kernel_rfl) (by kernel_rfl) (by kernel_rfl) (by rfl) (by first | assumption | decide +kernel) (by decide +kernel) ⟨rfl, rfl, rfl, rfl, rfl, by decide +kernel⟩ ?hw ?hc
  case hw => w_witness2
  case hc =>
    refine Q.walkY (l := PySem.Challenge.rw_clockless_k86_tidied_netlists) (n := 63) (k := 9) (x := "_law_script") rfl (by decide) (by kernel_rfl) ⟨rfl, by decide, by decide⟩ ?F
    intro w mg fa h K KX c G hmg0
    have hmg : mg ("law" : PySem.Str) = some (.ref fa) := by
      have e : (HandSHeadRun.topDef (OpenLaw.row PySem.Challenge.rw_clockless_k86_tidied_netlists).prog 55).name = ("law" : PySem.Str) := by kernel_rfl
      rw [← e]
      exact hmg0
    obtain ⟨fd, F⟩ := c.x.t.d.def_ 41 (d := W.d_law) rfl
    have e := hmg.symm.trans (He.glo_ok KX G (c.x.t.d.fact 43 (f := .glo "law") rfl))
    cases e
    have b := L2.FunD.bindsA (ps := ["_law_script"]) F fun _ _ _ _ _ _ us hl => match us, hl with | [_], _ => rfl
    exact ⟨fd, fun s v => b s [v] rfl, fun base _ _ tb => Q.law_imp (W.ok_law (W.facts KX G c tb) F) W.law_true⟩

