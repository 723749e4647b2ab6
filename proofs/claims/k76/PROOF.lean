import PyProof.Rows.All
import Wide.All
import OpenK.AllK
import Wide.FinOn
import KE.KStateDown
import Lean
import HandS.Base
import HandS.Call
import HandS.List
import HandS.Comp
import HandS.Conv
import HandS.Zip
import HandS.IsInst
import HandS.WideBits
import HandS.Iter
import HandS.TupAny
import HandS.Ends
import HandS.Exc
import HandS.Words
import HandS.WordsExc
import HandS.Defaults
import HandS.Text
import HandS.Style
import HandS.Codes
import HandS.Head2
import HandS.HeadEnd
import HandS.HeadHook2
import PyProof.ReprBulk
import PyProof.FitsInt
import PyProof.NoPylong
import KE.IntBitsLaws
import HandS.More
import HandS.Head0
import HandS.Head1
import HandS.HeadHook1
import PySem.Challenge.RW_gridturns_k76_whole_fractions_and_diviso
set_option Elab.async false
set_option linter.all false
set_option maxRecDepth 100000
/-! text Dy1 -/
set_option maxHeartbeats 1000000
namespace Dy
open PySem PySem.Spec PyProof.Rows L2

/-! ### data -/
/-- the built-in classes that are named -/
inductive Tn where
  | int | bool | str | tuple | list | dict
def Tn.name : Tn → String
  | .int => "int" | .bool => "bool" | .str => "str" | .tuple => "tuple" | .list => "list" | .dict => "dict"
inductive D where
  | non | bl (b : Bool) | int (i : Int) | str (x : Str) | ty (n : Tn)
  | ref (n : Nat)
  | tup (ds : List D) | lst (ds : List D)
  /-- a list that is known to the object (the script), or one of the written part -/
  | fz (ds : List D)
/-- a cell: a list that may change; nums: a list of so many ints, whichever -/
inductive Cell where
  | lst (ds : List D) | nums (n : Nat)
abbrev GP := List Cell
abbrev RHO := List (Option D)
abbrev KD := D → GP → Prop
abbrev WE := RHO → GP → KD → Prop
abbrev WT := RHO → GP → (Bool → GP → Prop) → Prop
abbrev WA := RHO → GP → (List D → GP → Prop) → Prop

/-! ### what stands for data -/
/-- a list of the written part -/
def KLs (K : PySem.W.Frag) (a : Addr) (xs : List V) : Prop :=
  ∃ (o : Obj) (its : Array Value) (n : Nat), K.lookup a = some o ∧ o.cls = .type "list" ∧ o.dict = none ∧ o.data = .seq its n ∧ its.size ≤ sizeLine ∧ Vals xs its.toList
def FzL (K : PySem.W.Frag) (H : Hp) (a : Addr) (xs : List V) : Prop := (∃ o, H a = some (.frz o (.lst xs))) ∨ KLs K a xs
theorem FzL.sq {K : PySem.W.Frag} {H : Hp} {a : Addr} {xs : List V} (h : FzL K H a xs) : SqL K H a xs := by
  rcases h with ⟨o, h⟩ | h
  · exact .inl (.inr ⟨o, h⟩)
  · exact .inr h
/-- the addresses of the cells, and those that are held back (a list that is being made) -/
structure Ps where
  cs : List Addr
  hs : List Addr
mutual
def RD (K : PySem.W.Frag) (ps : Ps) (H : Hp) : D → V → Prop
  | .non, v => v = .non
  | .bl b, v => v = .bl b
  | .int i, v => v = .int i
  | .str x, v => v = .str x
  | .ty n, v => v = .ty n.name
  | .ref n, v => ∃ a, ps.cs[n]? = some a ∧ v = .ref a
  | .tup ds, v => ∃ a xs, v = .ref a ∧ (SqT K H a xs ∧ xs.length ≤ sizeLine) ∧ RDs K ps H ds xs
  | .lst ds, v => ∃ a xs, v = .ref a ∧ (H a = some (.lst xs) ∧ a ∉ ps.cs ∧ a ∉ ps.hs ∧ xs.length ≤ sizeLine) ∧ RDs K ps H ds xs
  | .fz ds, v => ∃ a xs, v = .ref a ∧ (FzL K H a xs ∧ xs.length ≤ sizeLine) ∧ RDs K ps H ds xs
def RDs (K : PySem.W.Frag) (ps : Ps) (H : Hp) : List D → List V → Prop
  | [], vs => vs = []
  | d :: ds, vs => ∃ v r, vs = v :: r ∧ RD K ps H d v ∧ RDs K ps H ds r
end
theorem RDs.length {K : PySem.W.Frag} {ps : Ps} {H : Hp} : ∀ {ds : List D} {vs : List V}, RDs K ps H ds vs → ds.length = vs.length
  | [], vs, h => by rw [show vs = [] from h]; rfl
  | d :: ds, _, h => by
    obtain ⟨v, r, rfl, _, h⟩ := h
    rw [List.length_cons, List.length_cons, RDs.length h]
theorem RDs.get {K : PySem.W.Frag} {ps : Ps} {H : Hp} : ∀ {ds : List D} {vs : List V} {i : Nat} {d : D}, RDs K ps H ds vs → ds[i]? = some d → ∃ v, vs[i]? = some v ∧ RD K ps H d v
  | [], _, _, _, _, e => by simp at e
  | d :: ds, _, 0, _, h, e => by
    obtain ⟨v, r, rfl, h1, h⟩ := h
    simp at e
    subst e
    exact ⟨v, rfl, h1⟩
  | d :: ds, _, i + 1, _, h, e => by
    obtain ⟨v, r, rfl, h1, h⟩ := h
    exact RDs.get (i := i) h (by simpa using e)
theorem RDs.at {K : PySem.W.Frag} {ps : Ps} {H : Hp} : ∀ {ds : List D} {vs : List V} {i : Nat} {v : V}, RDs K ps H ds vs → vs[i]? = some v → ∃ d, ds[i]? = some d ∧ RD K ps H d v
  | [], vs, _, _, h, e => by rw [show vs = [] from h] at e; simp at e
  | d :: ds, _, 0, _, h, e => by
    obtain ⟨v, r, rfl, h1, h⟩ := h
    simp at e
    subst e
    exact ⟨d, rfl, h1⟩
  | d :: ds, _, i + 1, _, h, e => by
    obtain ⟨v, r, rfl, h1, h⟩ := h
    exact RDs.at (i := i) h (by simpa using e)
theorem RDs.append {K : PySem.W.Frag} {ps : Ps} {H : Hp} : ∀ {ds es : List D} {vs ws : List V}, RDs K ps H ds vs → RDs K ps H es ws → RDs K ps H (ds ++ es) (vs ++ ws)
  | [], _, vs, _, h, k => by rw [show vs = [] from h]; exact k
  | d :: ds, _, _, _, h, k => by
    obtain ⟨v, r, rfl, h1, h⟩ := h
    exact ⟨v, _, rfl, h1, RDs.append h k⟩

/-! ### steps of the heap -/
def Fixd : HO → Prop
  | .tup _ => True
  | .frz _ _ => True
  | _ => False
structure Step (ps : Ps) (H : Hp) (ps' : Ps) (H' : Hp) : Prop where
  ext : ∃ new, ps' = ⟨ps.cs ++ new, ps.hs⟩ ∧ ∀ a ∈ new, H a = none
  keep : ∀ a o, H a = some o → a ∉ ps.cs ∨ Fixd o → H' a = some o
  there : ∀ a ∈ ps.cs, H a ≠ none → H' a ≠ none
theorem Step.refl (ps : Ps) (H : Hp) : Step ps H ps H := ⟨⟨[], by rw [List.append_nil], by simp⟩, fun _ _ e _ => e, fun _ _ h => h⟩
theorem Step.trans {ps ps1 ps2 : Ps} {H H1 H2 : Hp} (a : Step ps H ps1 H1) (b : Step ps1 H1 ps2 H2) : Step ps H ps2 H2 := by
  obtain ⟨n1, rfl, f1⟩ := a.ext
  obtain ⟨n2, rfl, f2⟩ := b.ext
  refine ⟨⟨n1 ++ n2, by simp only [List.append_assoc], fun c hc => ?_⟩, fun c o e h => ?_, fun c hc h => b.there c (List.mem_append_left _ hc) (a.there c hc h)⟩
  · rcases List.mem_append.mp hc with hc | hc
    · exact f1 c hc
    · have z := f2 c hc
      cases q : H c with
      | none => rfl
      | some o =>
        by_cases hp : c ∈ ps.cs
        · exact absurd z (a.there c hp (by rw [q]; simp))
        · rw [a.keep c o q (.inl hp)] at z
          cases z
  · refine b.keep c o (a.keep c o e h) ?_
    rcases h with h | h
    · refine .inl fun hm => ?_
      rcases List.mem_append.mp hm with hm | hm
      · exact h hm
      · rw [f1 c hm] at e
        cases e
    · exact .inr h
/-- a new object, no cell -/
theorem Step.new {ps : Ps} {H : Hp} {p : Addr} {o : HO} (h : H p = none) : Step ps H ps (upd H p o) := by
  refine ⟨⟨[], by rw [List.append_nil], by simp⟩, fun a u e _ => by rw [upd_ne (ne_of_none e h)]; exact e, fun a _ ha => ?_⟩
  by_cases z : a = p
  · rw [z, upd_same]; simp
  · rw [upd_ne z]; exact ha
/-- a new cell -/
theorem Step.cell {ps : Ps} {H : Hp} {p : Addr} {o : HO} (h : H p = none) : Step ps H ⟨ps.cs ++ [p], ps.hs⟩ (upd H p o) :=
  ⟨⟨[p], rfl, fun a ha => by rw [List.mem_singleton.mp ha]; exact h⟩, (Step.new (ps := ps) h).keep, (Step.new (ps := ps) h).there⟩
/-- a cell's list changes -/
theorem Step.write {ps : Ps} {H : Hp} {p : Addr} {xs ys : List V} (hp : p ∈ ps.cs) (h : H p = some (.lst xs)) : Step ps H ps (upd H p (.lst ys)) := by
  refine ⟨⟨[], by rw [List.append_nil], by simp⟩, fun a u e k => ?_, fun a _ ha => ?_⟩
  · by_cases z : a = p
    · subst z
      rw [h] at e
      cases e
      rcases k with k | k
      · exact absurd hp k
      · exact absurd k (by simp [Fixd])
    · rw [upd_ne z]; exact e
  · by_cases z : a = p
    · rw [z, upd_same]; simp
    · rw [upd_ne z]; exact ha

theorem sqT_step {K : PySem.W.Frag} {ps ps' : Ps} {H H' : Hp} {a : Addr} {xs : List V} (s : Step ps H ps' H') (h : SqT K H a xs) : SqT K H' a xs := by
  rcases h with (h | ⟨o, h⟩) | h
  · exact .inl (.inl (s.keep _ _ h (.inr True.intro)))
  · exact .inl (.inr ⟨o, s.keep _ _ h (.inr True.intro)⟩)
  · exact .inr h
theorem fzL_step {K : PySem.W.Frag} {ps ps' : Ps} {H H' : Hp} {a : Addr} {xs : List V} (s : Step ps H ps' H') (h : FzL K H a xs) : FzL K H' a xs := by
  rcases h with ⟨o, h⟩ | h
  · exact .inl ⟨o, s.keep _ _ h (.inr True.intro)⟩
  · exact .inr h
theorem lst_step {ps ps' : Ps} {H H' : Hp} {a : Addr} {xs : List V} (s : Step ps H ps' H') (h : H a = some (.lst xs) ∧ a ∉ ps.cs ∧ a ∉ ps.hs ∧ xs.length ≤ sizeLine) : H' a = some (.lst xs) ∧ a ∉ ps'.cs ∧ a ∉ ps'.hs ∧ xs.length ≤ sizeLine := by
  obtain ⟨new, rfl, hn⟩ := s.ext
  refine ⟨s.keep _ _ h.1 (.inl h.2.1), fun m => ?_, h.2.2⟩
  rcases List.mem_append.mp m with m | m
  · exact h.2.1 m
  · rw [hn a m] at h
    cases h.1
mutual
theorem RD.step {K : PySem.W.Frag} {ps ps' : Ps} {H H' : Hp} (s : Step ps H ps' H') : ∀ (d : D) {v : V}, RD K ps H d v → RD K ps' H' d v
  | .non, _, h => h
  | .bl _, _, h => h
  | .int _, _, h => h
  | .str _, _, h => h
  | .ty _, _, h => h
  | .ref n, _, h => by
    obtain ⟨a, e, rfl⟩ := h
    obtain ⟨new, rfl, _⟩ := s.ext
    refine ⟨a, ?_, rfl⟩
    have := (List.getElem?_eq_some_iff.mp e).1
    rw [List.getElem?_append_left this]
    exact e
  | .tup ds, _, h => by
    obtain ⟨a, xs, rfl, h1, h2⟩ := h
    exact ⟨a, xs, rfl, ⟨sqT_step s h1.1, h1.2⟩, RDs.step s ds h2⟩
  | .lst ds, _, h => by
    obtain ⟨a, xs, rfl, h1, h2⟩ := h
    exact ⟨a, xs, rfl, lst_step s h1, RDs.step s ds h2⟩
  | .fz ds, _, h => by
    obtain ⟨a, xs, rfl, h1, h2⟩ := h
    exact ⟨a, xs, rfl, ⟨fzL_step s h1.1, h1.2⟩, RDs.step s ds h2⟩
theorem RDs.step {K : PySem.W.Frag} {ps ps' : Ps} {H H' : Hp} (s : Step ps H ps' H') : ∀ (ds : List D) {vs : List V}, RDs K ps H ds vs → RDs K ps' H' ds vs
  | [], _, h => h
  | d :: ds, _, h => by
    obtain ⟨v, r, rfl, h1, h2⟩ := h
    exact ⟨v, r, rfl, RD.step s d h1, RDs.step s ds h2⟩
end

/-! ### the state -/
def RC (K : PySem.W.Frag) (ps : Ps) (H : Hp) : Cell → Addr → Prop
  | .lst ds, a => ∃ xs, H a = some (.lst xs) ∧ xs.length ≤ sizeLine ∧ RDs K ps H ds xs
  | .nums n, a => ∃ ns : List Int, ns.length = n ∧ H a = some (.lst (ns.map .int))
structure Mod (K : PySem.W.Frag) (ps : Ps) (H : Hp) (G : GP) : Prop where
  len : G.length = ps.cs.length
  nd : ps.cs.Nodup
  hid : ∀ a ∈ ps.hs, a ∉ ps.cs ∧ ∃ xs, H a = some (.lst xs)
  at_ : ∀ (n : Nat) (c : Cell) (a : Addr), G[n]? = some c → ps.cs[n]? = some a → RC K ps H c a
theorem RC.is {K : PySem.W.Frag} {ps : Ps} {H : Hp} {c : Cell} {a : Addr} (h : RC K ps H c a) : ∃ xs, H a = some (.lst xs) := by
  cases c with
  | lst ds => obtain ⟨xs, e, _⟩ := h; exact ⟨xs, e⟩
  | nums n => obtain ⟨ns, _, e⟩ := h; exact ⟨_, e⟩
theorem RC.step {K : PySem.W.Frag} {ps ps' : Ps} {H H' : Hp} (s : Step ps H ps' H') {c : Cell} {a : Addr} (e : H' a = H a) (h : RC K ps H c a) : RC K ps' H' c a := by
  cases c with
  | lst ds => obtain ⟨xs, q, z, r⟩ := h; exact ⟨xs, e.trans q, z, RDs.step s ds r⟩
  | nums n => obtain ⟨ns, l, q⟩ := h; exact ⟨ns, l, e.trans q⟩
theorem Mod.there {K : PySem.W.Frag} {ps : Ps} {H : Hp} {G : GP} (m : Mod K ps H G) {a : Addr} (ha : a ∈ ps.cs) : ∃ xs, H a = some (.lst xs) := by
  obtain ⟨n, hn, e⟩ := List.mem_iff_getElem.mp ha
  have h1 : ps.cs[n]? = some a := by rw [List.getElem?_eq_getElem hn, e]
  have h2 : n < G.length := by rw [m.len]; exact hn
  exact (m.at_ n G[n] a (List.getElem?_eq_getElem h2) h1).is
/-- no cell changed -/
theorem Mod.keep {K : PySem.W.Frag} {ps : Ps} {H H' : Hp} {G : GP} (m : Mod K ps H G) (s : Step ps H ps H') (e : ∀ a ∈ ps.cs, H' a = H a) : Mod K ps H' G :=
  ⟨m.len, m.nd, fun a ha => let ⟨h1, xs, h2⟩ := m.hid a ha; ⟨h1, xs, s.keep a _ h2 (.inl h1)⟩, fun n c a h1 h2 => (m.at_ n c a h1 h2).step s (e a (List.mem_of_getElem? h2))⟩
theorem Mod.new {K : PySem.W.Frag} {ps : Ps} {H : Hp} {G : GP} {p : Addr} {o : HO} (m : Mod K ps H G) (h : H p = none) : Mod K ps (upd H p o) G :=
  m.keep (Step.new h) fun a ha => by
    obtain ⟨xs, e⟩ := m.there ha
    exact upd_ne (ne_of_none e h)
theorem Mod.cell {K : PySem.W.Frag} {ps : Ps} {H : Hp} {G : GP} {p : Addr} {ds : List D} {xs : List V} (m : Mod K ps H G) (h : H p = none) (hz : xs.length ≤ sizeLine) (r : RDs K ps H ds xs) : Mod K ⟨ps.cs ++ [p], ps.hs⟩ (upd H p (.lst xs)) (G ++ [.lst ds]) := by
  have s : Step ps H ⟨ps.cs ++ [p], ps.hs⟩ (upd H p (.lst xs)) := Step.cell h
  refine ⟨by rw [List.length_append, List.length_append, m.len]; rfl, ?_, fun a ha => ?_, fun n c a h1 h2 => ?_⟩
  · show (ps.cs ++ [p]).Nodup
    rw [List.nodup_append]
    refine ⟨m.nd, by simp, fun a ha b hb => ?_⟩
    obtain ⟨ys, e⟩ := m.there ha
    rw [List.mem_singleton.mp hb]
    exact ne_of_none e h
  · obtain ⟨h1, ys, h2⟩ := m.hid a ha
    refine ⟨fun z => ?_, ys, s.keep a _ h2 (.inl h1)⟩
    rcases List.mem_append.mp z with z | z
    · exact h1 z
    · rw [List.mem_singleton.mp z, h] at h2
      cases h2
  · have h2 : (ps.cs ++ [p])[n]? = some a := h2
    by_cases hn : n < ps.cs.length
    · rw [List.getElem?_append_left (by rw [m.len]; exact hn)] at h1
      rw [List.getElem?_append_left hn] at h2
      have q := m.at_ n c a h1 h2
      obtain ⟨ys, e⟩ := q.is
      exact q.step s (upd_ne (ne_of_none e h))
    · have hl : n < (ps.cs ++ [p]).length := (List.getElem?_eq_some_iff.mp h2).1
      rw [List.length_append, List.length_singleton] at hl
      have en : n = ps.cs.length := by omega
      subst en
      rw [List.getElem?_append_right (Nat.le_refl _)] at h2
      rw [← m.len, List.getElem?_append_right (Nat.le_refl _)] at h1
      simp at h1 h2
      subst h1 h2
      exact ⟨xs, upd_same, hz, RDs.step s ds r⟩
theorem Mod.write {K : PySem.W.Frag} {ps : Ps} {H : Hp} {G : GP} {n : Nat} {p : Addr} {ds : List D} {xs ys : List V} (m : Mod K ps H G) (hp : ps.cs[n]? = some p) (h : H p = some (.lst xs)) (hz : ys.length ≤ sizeLine) (r : RDs K ps H ds ys) : Mod K ps (upd H p (.lst ys)) (G.set n (.lst ds)) := by
  have hm : p ∈ ps.cs := List.mem_of_getElem? hp
  have s : Step ps H ps (upd H p (.lst ys)) := Step.write hm h
  refine ⟨by rw [List.length_set]; exact m.len, m.nd, fun a ha => let ⟨h1, xs, h2⟩ := m.hid a ha; ⟨h1, xs, s.keep a _ h2 (.inl h1)⟩, fun k c a h1 h2 => ?_⟩
  by_cases hk : n = k
  · subst hk
    rw [hp] at h2
    cases h2
    have hl : n < G.length := by rw [m.len]; exact (List.getElem?_eq_some_iff.mp hp).1
    rw [List.getElem?_set_self hl] at h1
    cases h1
    exact ⟨ys, upd_same, hz, RDs.step s ds r⟩
  · rw [List.getElem?_set_ne hk] at h1
    refine (m.at_ k c a h1 h2).step s (upd_ne fun e => hk ?_)
    subst e
    obtain ⟨l1, e1⟩ := List.getElem?_eq_some_iff.mp hp
    obtain ⟨l2, e2⟩ := List.getElem?_eq_some_iff.mp h2
    exact (List.getElem_inj m.nd).mp (e1.trans e2.symm)
/-- .. and is told less of -/
theorem Mod.dim {K : PySem.W.Frag} {ps : Ps} {H : Hp} {G : GP} {n k : Nat} {p : Addr} {ns : List Int} (m : Mod K ps H G) (hp : ps.cs[n]? = some p) (h : H p = some (.lst (ns.map .int))) (hl : ns.length = k) : Mod K ps H (G.set n (.nums k)) := by
  refine ⟨by rw [List.length_set]; exact m.len, m.nd, m.hid, fun j c a h1 h2 => ?_⟩
  by_cases hk : n = j
  · subst hk
    rw [hp] at h2
    cases h2
    have hl2 : n < G.length := by rw [m.len]; exact (List.getElem?_eq_some_iff.mp hp).1
    rw [List.getElem?_set_self hl2] at h1
    cases h1
    exact ⟨ns, hl, h⟩
  · rw [List.getElem?_set_ne hk] at h1
    exact m.at_ j c a h1 h2

structure Rel (K : PySem.W.Frag) (ps : Ps) (H : Hp) (ρ : RHO) (σ : L2.St) : Prop where
  len : ρ.length = σ.length
  at_ : ∀ (i : Nat) (d : D), ρ[i]? = some (some d) → ∃ v, σ[i]? = some (some v) ∧ RD K ps H d v
theorem Rel.step {K : PySem.W.Frag} {ps ps' : Ps} {H H' : Hp} {ρ : RHO} {σ : L2.St} (r : Rel K ps H ρ σ) (s : Step ps H ps' H') : Rel K ps' H' ρ σ :=
  ⟨r.len, fun i d e => let ⟨v, h1, h2⟩ := r.at_ i d e; ⟨v, h1, RD.step s d h2⟩⟩
theorem Rel.set {K : PySem.W.Frag} {ps : Ps} {H : Hp} {ρ : RHO} {σ : L2.St} {d : D} {v : V} (r : Rel K ps H ρ σ) (i : Nat) (h : RD K ps H d v) : Rel K ps H (ρ.set i (some d)) (σ.set i (some v)) := by
  refine ⟨by rw [List.length_set, List.length_set]; exact r.len, fun j e q => ?_⟩
  by_cases hj : i = j
  · subst hj
    by_cases hi : i < ρ.length
    · rw [List.getElem?_set_self hi] at q
      cases q
      exact ⟨v, List.getElem?_set_self (by rw [← r.len]; exact hi), h⟩
    · rw [List.getElem?_eq_none (by rw [List.length_set]; omega)] at q
      cases q
  · rw [List.getElem?_set_ne hj] at q ⊢
    exact r.at_ j e q
theorem Rel.unset {K : PySem.W.Frag} {ps : Ps} {H : Hp} {ρ : RHO} {σ : L2.St} (r : Rel K ps H ρ σ) (i : Nat) : Rel K ps H (ρ.set i none) (σ.set i none) := by
  refine ⟨by rw [List.length_set, List.length_set]; exact r.len, fun j e q => ?_⟩
  by_cases hj : i = j
  · subst hj
    by_cases hi : i < ρ.length
    · rw [List.getElem?_set_self hi] at q
      cases q
    · rw [List.getElem?_eq_none (by rw [List.length_set]; omega)] at q
      cases q
  · rw [List.getElem?_set_ne hj] at q ⊢
    exact r.at_ j e q
def wipeR (ρ : RHO) : List Nat → RHO
  | [] => ρ
  | v :: vs => (wipeR ρ vs).set v none
theorem Rel.wipe {K : PySem.W.Frag} {ps : Ps} {H : Hp} {ρ : RHO} {σ : L2.St} (r : Rel K ps H ρ σ) : ∀ vs : List Nat, Rel K ps H (wipeR ρ vs) (wipe σ vs)
  | [] => r
  | v :: vs => (Rel.wipe r vs).unset v
/-- the names at the entry -/
def startR (n : Nat) (ds : List D) : RHO := ds.map some ++ List.replicate (n - ds.length) none
theorem Rel.begin {K : PySem.W.Frag} {ps : Ps} {H : Hp} {N : List Str} {ds : List D} {vs : List V} (h : RDs K ps H ds vs) : Rel K ps H (startR N.length ds) (L2.start N vs) := by
  have hl := h.length
  refine ⟨by unfold startR L2.start; simp [hl], fun i d e => ?_⟩
  unfold startR at e
  unfold L2.start
  by_cases hi : i < ds.length
  · rw [List.getElem?_append_left (by simpa using hi), List.getElem?_map] at e
    rw [List.getElem?_append_left (by simpa [← hl] using hi), List.getElem?_map]
    cases q : ds[i]? with
    | none => rw [q] at e; cases e
    | some d' =>
      rw [q] at e
      simp at e
      subst e
      obtain ⟨v, h1, h2⟩ := h.get q
      exact ⟨v, by rw [h1]; rfl, h2⟩
  · rw [List.getElem?_append_right (by simpa using hi), List.getElem?_replicate] at e
    split at e <;> cases e
end Dy

/-! text Dy2 -/
set_option maxHeartbeats 1000000
namespace Dy
open PySem PySem.Spec PyProof.Rows L2
/-! ### readings lifted -/
def EndE (K : PySem.W.Frag) (ps : Ps) (H : Hp) (Qd : KD) (Q : VK) : Prop := ∀ v H' d ps' G', RD K ps' H' d v → Mod K ps' H' G' → Step ps H ps' H' → Qd d G' → Q v H'
def EndT (K : PySem.W.Frag) (ps : Ps) (H : Hp) (Qd : Bool → GP → Prop) (Q : Bool → Hp → Prop) : Prop := ∀ b H' ps' G', Mod K ps' H' G' → Step ps H ps' H' → Qd b G' → Q b H'
def EndA (K : PySem.W.Frag) (ps : Ps) (H : Hp) (Qd : List D → GP → Prop) (Q : List V → Hp → Prop) : Prop := ∀ vs H' ds ps' G', RDs K ps' H' ds vs → Mod K ps' H' G' → Step ps H ps' H' → Qd ds G' → Q vs H'
def lE (K : PySem.W.Frag) (w : WE) : TE := fun σ H Q => ∃ ps ρ G Qd, Rel K ps H ρ σ ∧ Mod K ps H G ∧ w ρ G Qd ∧ EndE K ps H Qd Q
def lT (K : PySem.W.Frag) (w : WT) : TT := fun σ H Q => ∃ ps ρ G Qd, Rel K ps H ρ σ ∧ Mod K ps H G ∧ w ρ G Qd ∧ EndT K ps H Qd Q
def lA (K : PySem.W.Frag) (w : WA) : TA := fun σ H Q => ∃ ps ρ G Qd, Rel K ps H ρ σ ∧ Mod K ps H G ∧ w ρ G Qd ∧ EndA K ps H Qd Q
def l1 (K : PySem.W.Frag) (b : D → GP → KD → Prop) : V → Hp → VK → Prop := fun x H Q => ∃ ps G dx Qd, RD K ps H dx x ∧ Mod K ps H G ∧ b dx G Qd ∧ EndE K ps H Qd Q
def l2 (K : PySem.W.Frag) (b : D → D → GP → KD → Prop) : R2 := fun x y H Q => ∃ ps G dx dy Qd, RD K ps H dx x ∧ RD K ps H dy y ∧ Mod K ps H G ∧ b dx dy G Qd ∧ EndE K ps H Qd Q
def lC (K : PySem.W.Frag) (c : List D → GP → KD → Prop) : List V → Hp → VK → Prop := fun vs H Q => ∃ ps G ds Qd, RDs K ps H ds vs ∧ Mod K ps H G ∧ c ds G Qd ∧ EndE K ps H Qd Q

theorem PE.imp {X : Cx} {e : Expr} {t t' : TE} (h : PE X e t) (k : ∀ σ H Q, t' σ H Q → t σ H Q) : PE X e t' := ⟨fun pins s σ H Q I q => h.run pins s σ H Q I (k σ H Q q)⟩
theorem PT.imp {X : Cx} {e : Expr} {t t' : TT} (h : PT X e t) (k : ∀ σ H Q, t' σ H Q → t σ H Q) : PT X e t' := ⟨fun pins s σ H Q I q => h.run pins s σ H Q I (k σ H Q q)⟩
theorem PW.imp {X : Cx} {e : Expr} {t t' : TT} (h : PW X e t) (k : ∀ σ H Q, t' σ H Q → t σ H Q) : PW X e t' := ⟨fun wh pins s σ H Q I q => h.run wh pins s σ H Q I (k σ H Q q)⟩
theorem PA.imp {X : Cx} {e : List Expr} {t t' : TA} (h : PA X e t) (k : ∀ σ H Q, t' σ H Q → t σ H Q) : PA X e t' := ⟨fun pos pins s σ H Q I q => h.run pos pins s σ H Q I (k σ H Q q)⟩

section
variable {K : PySem.W.Frag} {ps : Ps} {H : Hp} {ρ : RHO} {σ : L2.St} {G : GP}
theorem lE_go {w : WE} {Qd : KD} {Q : VK} (r : Rel K ps H ρ σ) (m : Mod K ps H G) (h : w ρ G Qd)
    (k : ∀ v H' d ps' G', RD K ps' H' d v → Mod K ps' H' G' → Step ps H ps' H' → Rel K ps' H' ρ σ → Qd d G' → Q v H') : lE K w σ H Q :=
  ⟨ps, ρ, G, Qd, r, m, h, fun v H' d ps' G' a b c q => k v H' d ps' G' a b c (r.step c) q⟩
theorem lT_go {w : WT} {Qd : Bool → GP → Prop} {Q : Bool → Hp → Prop} (r : Rel K ps H ρ σ) (m : Mod K ps H G) (h : w ρ G Qd)
    (k : ∀ b H' ps' G', Mod K ps' H' G' → Step ps H ps' H' → Rel K ps' H' ρ σ → Qd b G' → Q b H') : lT K w σ H Q :=
  ⟨ps, ρ, G, Qd, r, m, h, fun b H' ps' G' a c q => k b H' ps' G' a c (r.step c) q⟩
theorem lA_go {w : WA} {Qd : List D → GP → Prop} {Q : List V → Hp → Prop} (r : Rel K ps H ρ σ) (m : Mod K ps H G) (h : w ρ G Qd)
    (k : ∀ vs H' ds ps' G', RDs K ps' H' ds vs → Mod K ps' H' G' → Step ps H ps' H' → Rel K ps' H' ρ σ → Qd ds G' → Q vs H') : lA K w σ H Q :=
  ⟨ps, ρ, G, Qd, r, m, h, fun v H' d ps' G' a b c q => k v H' d ps' G' a b c (r.step c) q⟩
theorem EndE.at {Qd : KD} {Q : VK} {ps1 : Ps} {H1 : Hp} (f : EndE K ps H Qd Q) (s : Step ps H ps1 H1) : EndE K ps1 H1 Qd Q := fun v H' d ps' G' a b c q => f v H' d ps' G' a b (s.trans c) q
theorem EndT.at {Qd : Bool → GP → Prop} {Q : Bool → Hp → Prop} {ps1 : Ps} {H1 : Hp} (f : EndT K ps H Qd Q) (s : Step ps H ps1 H1) : EndT K ps1 H1 Qd Q := fun v H' ps' G' b c q => f v H' ps' G' b (s.trans c) q
theorem EndA.at {Qd : List D → GP → Prop} {Q : List V → Hp → Prop} {ps1 : Ps} {H1 : Hp} (f : EndA K ps H Qd Q) (s : Step ps H ps1 H1) : EndA K ps1 H1 Qd Q := fun v H' d ps' G' a b c q => f v H' d ps' G' a b (s.trans c) q
/-- the end where nothing changed -/
theorem EndE.same {Qd : KD} {Q : VK} {d : D} {v : V} (f : EndE K ps H Qd Q) (m : Mod K ps H G) (h : RD K ps H d v) (q : Qd d G) : Q v H := f v H d ps G h m (Step.refl ps H) q
theorem EndT.same {Qd : Bool → GP → Prop} {Q : Bool → Hp → Prop} {b : Bool} (f : EndT K ps H Qd Q) (m : Mod K ps H G) (q : Qd b G) : Q b H := f b H ps G m (Step.refl ps H) q
/-- a new tuple, a new list -/
theorem EndE.tup {Qd : KD} {Q : VK} {ds : List D} {xs : List V} {p : Addr} (f : EndE K ps H Qd Q) (m : Mod K ps H G) (hz : ds.length ≤ sizeLine) (h : RDs K ps H ds xs) (hp : H p = none) (q : Qd (.tup ds) G) : Q (.ref p) (upd H p (.tup xs)) :=
  f _ _ (.tup ds) ps G ⟨p, xs, rfl, ⟨.inl (.inl upd_same), by rw [← h.length]; exact hz⟩, RDs.step (Step.new hp) ds h⟩ (m.new hp) (Step.new hp) q
theorem not_in {p : Addr} (m : Mod K ps H G) (hp : H p = none) : p ∉ ps.cs ∧ p ∉ ps.hs := by
  refine ⟨fun h => ?_, fun h => ?_⟩
  · obtain ⟨xs, e⟩ := m.there h
    rw [hp] at e
    cases e
  · obtain ⟨_, xs, e⟩ := m.hid p h
    rw [hp] at e
    cases e
theorem EndE.lst {Qd : KD} {Q : VK} {ds : List D} {xs : List V} {p : Addr} (f : EndE K ps H Qd Q) (m : Mod K ps H G) (hz : ds.length ≤ sizeLine) (h : RDs K ps H ds xs) (hp : H p = none) (q : Qd (.lst ds) G) : Q (.ref p) (upd H p (.lst xs)) :=
  f _ _ (.lst ds) ps G ⟨p, xs, rfl, ⟨upd_same, (not_in m hp).1, (not_in m hp).2, by rw [← h.length]; exact hz⟩, RDs.step (Step.new hp) ds h⟩ (m.new hp) (Step.new hp) q
end

/-! ### composed readings -/
section
variable {X : Cx} {a b c : Expr} {wa wb wc : WE} {pos : Pos}
theorem e_op {op : Operator} {bd : D → D → GP → KD → Prop} (ho : OpR X (binaryOp op) (l2 X.K bd)) (ha : PE X a (lE X.K wa)) (hb : PE X b (lE X.K wb)) :
    PE X (.BinOp a op b pos) (lE X.K fun ρ G Q => wa ρ G fun x G1 => wb ρ G1 fun y G2 => bd x y G2 Q) :=
  PE.imp (pe_op ho ha hb) fun σ H Q ⟨ps, ρ, G, Qd, r, m, h, f⟩ =>
    lE_go r m h fun x H1 dx ps1 G1 rx m1 s1 r1 q1 => lE_go r1 m1 q1 fun y H2 dy ps2 G2 ry m2 s2 r2 q2 =>
      ⟨ps2, G2, dx, dy, Qd, RD.step s2 dx rx, ry, m2, q2, (f.at s1).at s2⟩
theorem e_un {op : UnaryOp} {bd : D → GP → KD → Prop} (ho : UnR X (unaryOp op) (l1 X.K bd)) (ha : PE X a (lE X.K wa)) :
    PE X (.UnaryOp op a pos) (lE X.K fun ρ G Q => wa ρ G fun x G1 => bd x G1 Q) :=
  PE.imp (pe_un ho ha) fun σ H Q ⟨ps, ρ, G, Qd, r, m, h, f⟩ =>
    lE_go r m h fun x H1 dx ps1 G1 rx m1 s1 r1 q1 => ⟨ps1, G1, dx, Qd, rx, m1, q1, f.at s1⟩
theorem e_cmp {op : CmpOp} {bd : D → D → GP → KD → Prop} (ho : OpR X (compareOp op) (l2 X.K bd)) (ha : PE X a (lE X.K wa)) (hb : PE X b (lE X.K wb)) (hm : behindInMarks op b = false) :
    PE X (.Compare a [op] [b] pos) (lE X.K fun ρ G Q => wa ρ G fun x G1 => wb ρ G1 fun y G2 => bd x y G2 Q) :=
  PE.imp (pe_cmpR ho ha hb hm) fun σ H Q ⟨ps, ρ, G, Qd, r, m, h, f⟩ =>
    lE_go r m h fun x H1 dx ps1 G1 rx m1 s1 r1 q1 => lE_go r1 m1 q1 fun y H2 dy ps2 G2 ry m2 s2 r2 q2 =>
      ⟨ps2, G2, dx, dy, Qd, RD.step s2 dx rx, ry, m2, q2, (f.at s1).at s2⟩
/-- only a bool goes on -/
def onB (k : Bool → GP → Prop) : KD := fun d G => match d with
  | .bl b => k b G
  | _ => False
theorem onB_of {k : Bool → GP → Prop} {K : PySem.W.Frag} {ps : Ps} {H : Hp} {d : D} {v : V} {G : GP} (h : RD K ps H d v) (q : onB k d G) : ∃ b, d = .bl b ∧ v = .bl b ∧ k b G := by
  cases d with
  | bl b => exact ⟨b, rfl, h, q⟩
  | _ => exact (show False from q).elim
theorem t_cmp {op : CmpOp} {bd : D → D → GP → KD → Prop} (ho : OpR X (compareOp op) (l2 X.K bd)) (ha : PE X a (lE X.K wa)) (hb : PE X b (lE X.K wb)) (hm : behindInMarks op b = false) :
    PT X (.Compare a [op] [b] pos) (lT X.K fun ρ G Q => wa ρ G fun x G1 => wb ρ G1 fun y G2 => bd x y G2 (onB Q)) :=
  PT.imp (pt_cmpR ho ha hb hm) fun σ H Q ⟨ps, ρ, G, Qd, r, m, h, f⟩ =>
    lE_go r m h fun x H1 dx ps1 G1 rx m1 s1 r1 q1 => lE_go r1 m1 q1 fun y H2 dy ps2 G2 ry m2 s2 r2 q2 =>
      ⟨ps2, G2, dx, dy, onB Qd, RD.step s2 dx rx, ry, m2, q2, fun v H' d ps' G' h1 h2 h3 q => by
        obtain ⟨b, rfl, rfl, q⟩ := onB_of h1 q
        exact ⟨b, rfl, f b H' ps' G' h2 ((s1.trans s2).trans h3) q⟩⟩
theorem e_chain {op op' : CmpOp} {bd bd' : D → D → GP → KD → Prop} (ho : OpR X (compareOp op) (l2 X.K bd)) (ho' : OpR X (compareOp op') (l2 X.K bd')) (ha : PE X a (lE X.K wa)) (hb : PE X b (lE X.K wb)) (hc : PE X c (lE X.K wc)) (hm : lastMarks [op, op'] [b, c] = false) :
    PE X (.Compare a [op, op'] [b, c] pos) (lE X.K fun ρ G Q => wa ρ G fun x G1 => wb ρ G1 fun y G2 => bd x y G2 (onB fun k G3 => if k = true then wc ρ G3 fun z G4 => bd' y z G4 Q else Q (.bl false) G3)) :=
  PE.imp (pe_chain ho ho' ha hb hc hm) fun σ H Q ⟨ps, ρ, G, Qd, r, m, h, f⟩ =>
    lE_go r m h fun x H1 dx ps1 G1 rx m1 s1 r1 q1 => lE_go r1 m1 q1 fun y H2 dy ps2 G2 ry m2 s2 r2 q2 =>
      ⟨ps2, G2, dx, dy, _, RD.step s2 dx rx, ry, m2, q2, fun v H3 d ps3 G3 h1 m3 s3 q => by
        obtain ⟨k, rfl, rfl, q⟩ := onB_of h1 q
        refine ⟨k, rfl, ?_⟩
        cases k with
        | true => exact lE_go (r2.step s3) m3 q fun z H4 dz ps4 G4 rz m4 s4 r4 q4 => ⟨ps4, G4, dy, dz, Qd, RD.step (s3.trans s4) dy ry, rz, m4, q4, (((f.at s1).at s2).at s3).at s4⟩
        | false => exact (((f.at s1).at s2).at s3).same m3 (by exact rfl) q⟩
theorem t_chain {op op' : CmpOp} {bd bd' : D → D → GP → KD → Prop} (ho : OpR X (compareOp op) (l2 X.K bd)) (ho' : OpR X (compareOp op') (l2 X.K bd')) (ha : PE X a (lE X.K wa)) (hb : PE X b (lE X.K wb)) (hc : PE X c (lE X.K wc)) (hm : lastMarks [op, op'] [b, c] = false) :
    PT X (.Compare a [op, op'] [b, c] pos) (lT X.K fun ρ G Q => wa ρ G fun x G1 => wb ρ G1 fun y G2 => bd x y G2 (onB fun k G3 => if k = true then wc ρ G3 fun z G4 => bd' y z G4 (onB Q) else Q false G3)) :=
  PT.imp (pt_chain ho ho' ha hb hc hm) fun σ H Q ⟨ps, ρ, G, Qd, r, m, h, f⟩ =>
    lE_go r m h fun x H1 dx ps1 G1 rx m1 s1 r1 q1 => lE_go r1 m1 q1 fun y H2 dy ps2 G2 ry m2 s2 r2 q2 =>
      ⟨ps2, G2, dx, dy, _, RD.step s2 dx rx, ry, m2, q2, fun v H3 d ps3 G3 h1 m3 s3 q => by
        obtain ⟨k, rfl, rfl, q⟩ := onB_of h1 q
        refine ⟨k, rfl, ?_⟩
        cases k with
        | true => exact lE_go (r2.step s3) m3 q fun z H4 dz ps4 G4 rz m4 s4 r4 q4 => ⟨ps4, G4, dy, dz, onB Qd, RD.step (s3.trans s4) dy ry, rz, m4, q4, fun v H5 d ps5 G5 h1 h2 h3 q => by
            obtain ⟨b, rfl, rfl, q⟩ := onB_of h1 q
            exact ⟨b, rfl, f b H5 ps5 G5 h2 ((((s1.trans s2).trans s3).trans s4).trans h3) q⟩⟩
        | false => exact ⟨false, rfl, f false H3 ps3 G3 m3 ((s1.trans s2).trans s3) q⟩⟩
/-- an expression as a test -/
theorem t_val (ha : PE X a (lE X.K wa)) (he : ∀ whole, isTrue a X.env whole = (do let v ← whole; standAt a.pos; holding [v] (truthy v))) :
    PT X a (lT X.K fun ρ G Q => wa ρ G (onB Q)) :=
  PT.imp (pt_val ha he) fun σ H Q ⟨ps, ρ, G, Qd, r, m, h, f⟩ =>
    lE_go r m h fun x H1 dx ps1 G1 rx m1 s1 r1 q1 => by
      obtain ⟨b, rfl, rfl, q⟩ := onB_of rx q1
      exact ⟨b, rfl, f b H1 ps1 G1 m1 s1 q⟩
theorem t_not {wt : WT} (ha : PT X a (lT X.K wt)) : PT X (.UnaryOp .Not a pos) (lT X.K fun ρ G Q => wt ρ G fun k G1 => Q (!k) G1) :=
  PT.imp (pt_not ha) fun σ H Q ⟨ps, ρ, G, Qd, r, m, h, f⟩ => lT_go r m h fun k H1 ps1 G1 m1 s1 r1 q1 => f (!k) H1 ps1 G1 m1 s1 q1
theorem t_and {wt wu : WT} {rest : List Expr} (ha : PT X a (lT X.K wt)) (hb : PW X (.BoolOp .And (b :: rest) pos) (lT X.K wu)) :
    PW X (.BoolOp .And (a :: b :: rest) pos) (lT X.K fun ρ G Q => wt ρ G fun k G1 => if k = true then wu ρ G1 Q else Q false G1) :=
  PW.imp (pw_and ha hb) fun σ H Q ⟨ps, ρ, G, Qd, r, m, h, f⟩ => lT_go r m h fun k H1 ps1 G1 m1 s1 r1 q1 => by
    cases k with
    | true => exact ⟨ps1, ρ, G1, Qd, r1, m1, q1, f.at s1⟩
    | false => exact f false H1 ps1 G1 m1 s1 q1
theorem t_or {wt wu : WT} {rest : List Expr} (ha : PT X a (lT X.K wt)) (hb : PW X (.BoolOp .Or (b :: rest) pos) (lT X.K wu)) :
    PW X (.BoolOp .Or (a :: b :: rest) pos) (lT X.K fun ρ G Q => wt ρ G fun k G1 => if k = true then Q true G1 else wu ρ G1 Q) :=
  PW.imp (pw_or ha hb) fun σ H Q ⟨ps, ρ, G, Qd, r, m, h, f⟩ => lT_go r m h fun k H1 ps1 G1 m1 s1 r1 q1 => by
    cases k with
    | true => exact f true H1 ps1 G1 m1 s1 q1
    | false => exact ⟨ps1, ρ, G1, Qd, r1, m1, q1, f.at s1⟩
/-- and, or, not as values -/
theorem e_and {rest : List Expr} (ha : PE X a (lE X.K wa)) (hb : PE X (.BoolOp .And (b :: rest) pos) (lE X.K wb)) :
    PE X (.BoolOp .And (a :: b :: rest) pos) (lE X.K fun ρ G Q => wa ρ G (onB fun k G1 => if k = true then wb ρ G1 Q else Q (.bl false) G1)) :=
  PE.imp (pe_and ha hb) fun σ H Q ⟨ps, ρ, G, Qd, r, m, h, f⟩ => lE_go r m h fun x H1 dx ps1 G1 rx m1 s1 r1 q1 => by
    obtain ⟨k, rfl, rfl, q⟩ := onB_of rx q1
    refine ⟨k, rfl, ?_⟩
    cases k with
    | true => exact ⟨ps1, ρ, G1, Qd, r1, m1, q, f.at s1⟩
    | false => exact f _ H1 (.bl false) ps1 G1 rfl m1 s1 q
theorem e_or {rest : List Expr} (ha : PE X a (lE X.K wa)) (hb : PE X (.BoolOp .Or (b :: rest) pos) (lE X.K wb)) :
    PE X (.BoolOp .Or (a :: b :: rest) pos) (lE X.K fun ρ G Q => wa ρ G (onB fun k G1 => if k = true then Q (.bl true) G1 else wb ρ G1 Q)) :=
  PE.imp (pe_or ha hb) fun σ H Q ⟨ps, ρ, G, Qd, r, m, h, f⟩ => lE_go r m h fun x H1 dx ps1 G1 rx m1 s1 r1 q1 => by
    obtain ⟨k, rfl, rfl, q⟩ := onB_of rx q1
    refine ⟨k, rfl, ?_⟩
    cases k with
    | true => exact f _ H1 (.bl true) ps1 G1 rfl m1 s1 q
    | false => exact ⟨ps1, ρ, G1, Qd, r1, m1, q, f.at s1⟩
theorem e_not (ha : PE X a (lE X.K wa)) : PE X (.UnaryOp .Not a pos) (lE X.K fun ρ G Q => wa ρ G (onB fun k G1 => Q (.bl (!k)) G1)) :=
  PE.imp (pe_not ha) fun σ H Q ⟨ps, ρ, G, Qd, r, m, h, f⟩ => lE_go r m h fun x H1 dx ps1 G1 rx m1 s1 r1 q1 => by
    obtain ⟨k, rfl, rfl, q⟩ := onB_of rx q1
    exact ⟨k, rfl, f _ H1 (.bl (!k)) ps1 G1 rfl m1 s1 q⟩
theorem e_if {t : Expr} {wt : WT} (ht : PT X t (lT X.K wt)) (ha : PE X a (lE X.K wa)) (hb : PE X b (lE X.K wb)) :
    PE X (.IfExp t a b pos) (lE X.K fun ρ G Q => wt ρ G fun k G1 => if k = true then wa ρ G1 Q else wb ρ G1 Q) :=
  PE.imp (pe_ifExp ht ha hb) fun σ H Q ⟨ps, ρ, G, Qd, r, m, h, f⟩ => lT_go r m h fun k H1 ps1 G1 m1 s1 r1 q1 => by
    cases k with
    | true => exact ⟨ps1, ρ, G1, Qd, r1, m1, q1, f.at s1⟩
    | false => exact ⟨ps1, ρ, G1, Qd, r1, m1, q1, f.at s1⟩
/-! names, constants -/
def look : RHO → Nat → Option D
  | [], _ => none
  | x :: _, 0 => x
  | _ :: r, i + 1 => look r i
theorem look_at : ∀ {ρ : RHO} {i : Nat} {d : D}, look ρ i = some d → ρ[i]? = some (some d)
  | [], _, _, h => by cases h
  | x :: _, 0, _, h => by rw [show x = _ from h]; rfl
  | _ :: r, i + 1, _, h => by simpa using look_at (ρ := r) (i := i) h
def wVar (i : Nat) : WE := fun ρ G Q => match look ρ i with
  | some d => Q d G
  | none => False
theorem e_var {i : Nat} {x : Str} (hN : X.N[i]? = some x) (hv : Vis X.env.scope x) (hd : (x == ("__debug__" : Str)) = false) (hcd : (x == ("__classdict__" : Str)) = false) : PE X (.Name x pos) (lE X.K (wVar i)) :=
  PE.imp (pe_var hN hv hd hcd) fun σ H Q ⟨ps, ρ, G, Qd, r, m, h, f⟩ => by
    unfold wVar at h
    cases q : look ρ i with
    | none => rw [q] at h; exact h.elim
    | some d =>
      rw [q] at h
      obtain ⟨v, e, rd⟩ := r.at_ i d (look_at q)
      exact ⟨v, e, f.same m rd h⟩
def wC (d : D) : WE := fun _ G Q => Q d G
theorem e_const {e : Expr} {v : V} {d : D} (h : PE X e (tC v)) (hr : ∀ ps H, RD X.K ps H d v) : PE X e (lE X.K (wC d)) :=
  PE.imp h fun σ H Q ⟨ps, ρ, G, Qd, r, m, h, f⟩ => f.same m (hr ps H) h
/-! argument lists, displays -/
def aNil : WA := fun _ G Q => Q [] G
def aCons (w : WE) (u : WA) : WA := fun ρ G Q => w ρ G fun d G1 => u ρ G1 fun ds G2 => Q (d :: ds) G2
theorem a_nil : PA X [] (lA X.K aNil) := PA.imp pa_nil fun σ H Q ⟨ps, ρ, G, Qd, r, m, h, f⟩ => f [] H [] ps G rfl m (Step.refl _ _) h
theorem a_cons {e : Expr} {es : List Expr} {w : WE} {u : WA} (ha : PE X e (lE X.K w)) (hr : PA X es (lA X.K u)) (hs : starEach (e :: es) X.env = (false, eval e X.env) :: starEach es X.env) : PA X (e :: es) (lA X.K (aCons w u)) :=
  PA.imp (pa_cons ha hr hs) fun σ H Q ⟨ps, ρ, G, Qd, r, m, h, f⟩ => lE_go r m h fun x H1 dx ps1 G1 rx m1 s1 r1 q1 => lA_go r1 m1 q1 fun vs H2 ds ps2 G2 rs m2 s2 r2 q2 =>
    (f.at s1).at s2 (x :: vs) H2 (dx :: ds) ps2 G2 ⟨x, vs, rfl, RD.step s2 dx rx, rs⟩ m2 (Step.refl _ _) q2
theorem e_tup {es : List Expr} {u : WA} {k : Nat} (h : PA X es (lA X.K u)) : PE X (.Tuple es k pos) (lE X.K fun ρ G Q => u ρ G fun ds G1 => ds.length ≤ sizeLine ∧ Q (.tup ds) G1) :=
  PE.imp (pe_tup h) fun σ H Q ⟨ps, ρ, G, Qd, r, m, h, f⟩ => lA_go r m h fun vs H1 ds ps1 G1 rs m1 s1 r1 q1 =>
    ⟨by rw [← rs.length]; exact q1.1, fun p hp => (f.at s1).tup m1 q1.1 rs hp q1.2⟩
theorem e_lst {es : List Expr} {u : WA} (h : PA X es (lA X.K u)) : PE X (.List es pos) (lE X.K fun ρ G Q => u ρ G fun ds G1 => ds.length ≤ sizeLine ∧ Q (.lst ds) G1) :=
  PE.imp (pe_lst h) fun σ H Q ⟨ps, ρ, G, Qd, r, m, h, f⟩ => lA_go r m h fun vs H1 ds ps1 G1 rs m1 s1 r1 q1 =>
    ⟨by rw [← rs.length]; exact q1.1, fun p hp => (f.at s1).lst m1 q1.1 rs hp q1.2⟩
/-- a new list that is to change: a cell -/
theorem e_cell {es : List Expr} {u : WA} (h : PA X es (lA X.K u)) : PE X (.List es pos) (lE X.K fun ρ G Q => u ρ G fun ds G1 => ds.length ≤ sizeLine ∧ Q (.ref G1.length) (G1 ++ [.lst ds])) :=
  PE.imp (pe_lst h) fun σ H Q ⟨ps, ρ, G, Qd, r, m, h, f⟩ => lA_go r m h fun vs H1 ds ps1 G1 rs m1 s1 r1 q1 =>
    ⟨by rw [← rs.length]; exact q1.1, fun p hp => (f.at s1) _ _ (.ref G1.length) ⟨ps1.cs ++ [p], ps1.hs⟩ _ ⟨p, by rw [m1.len]; simp, rfl⟩ (m1.cell hp (by rw [← rs.length]; exact q1.1) rs) (Step.cell hp) q1.2⟩
/-- a built-in's call -/
theorem e_blt {e : Expr} {es : List Expr} {x : Str} {p : Pos} {u : WA} {id : String} {cd : List D → GP → KD → Prop} (hc : CallR X (.builtin id) (lC X.K cd)) (hg : Gl X x) (hm : X.mg x = none) (hv : bootBuiltins x = some (.builtin id)) (ha : PA X (e :: es) (lA X.K u)) (hn : x ≠ "__name__") (hdb : (x == ("__debug__" : Str)) = false)
    (he : starEach (e :: es) X.env = (false, eval e X.env) :: starEach es X.env) (hpl : (backTo pos (starEach es X.env)).any (·.1) = false) :
    PE X (.Call (.Name x p) (e :: es) [] pos) (lE X.K fun ρ G Q => u ρ G fun ds G1 => cd ds G1 Q) :=
  PE.imp (pe_callB hc hg hm hv ha hn hdb he hpl) fun σ H Q ⟨ps, ρ, G, Qd, r, m, h, f⟩ => lA_go r m h fun vs H1 ds ps1 G1 rs m1 s1 r1 q1 => ⟨ps1, G1, ds, Qd, rs, m1, q1, f.at s1⟩
theorem e_typ {e : Expr} {es : List Expr} {x : Str} {p : Pos} {u : WA} {T : String} {cd : List D → GP → KD → Prop} (hc : CallR X (.type T) (lC X.K cd)) (hg : Gl X x) (hm : X.mg x = none) (hv : bootBuiltins x = some (.type T)) (ha : PA X (e :: es) (lA X.K u)) (hn : x ≠ "__name__") (hdb : (x == ("__debug__" : Str)) = false)
    (he : starEach (e :: es) X.env = (false, eval e X.env) :: starEach es X.env) (hpl : (backTo pos (starEach es X.env)).any (·.1) = false) :
    PE X (.Call (.Name x p) (e :: es) [] pos) (lE X.K fun ρ G Q => u ρ G fun ds G1 => cd ds G1 Q) :=
  PE.imp (pe_callTy hc hg hm hv ha hn hdb he hpl) fun σ H Q ⟨ps, ρ, G, Qd, r, m, h, f⟩ => lA_go r m h fun vs H1 ds ps1 G1 rs m1 s1 r1 q1 => ⟨ps1, G1, ds, Qd, rs, m1, q1, f.at s1⟩
theorem e_ix {bd : D → D → GP → KD → Prop} (hr : IxR X (l2 X.K bd)) (ha : PE X a (lE X.K wa)) (hb : PE X b (lE X.K wb)) (hs : PlainIx b) :
    PE X (.Subscript a b pos) (lE X.K fun ρ G Q => wa ρ G fun x G1 => wb ρ G1 fun y G2 => bd x y G2 Q) :=
  PE.imp (pe_ix hr ha hb hs) fun σ H Q ⟨ps, ρ, G, Qd, r, m, h, f⟩ =>
    lE_go r m h fun x H1 dx ps1 G1 rx m1 s1 r1 q1 => lE_go r1 m1 q1 fun y H2 dy ps2 G2 ry m2 s2 r2 q2 =>
      ⟨ps2, G2, dx, dy, Qd, RD.step s2 dx rx, ry, m2, q2, (f.at s1).at s2⟩
end
end Dy

/-! text Dy3 -/
set_option maxHeartbeats 1000000
namespace Dy
open PySem PySem.Spec PyProof.Rows L2
/-! ### data as PyData -/
mutual
def D.toP : D → PyData
  | .non => .none
  | .bl b => .bool b
  | .int i => .int i
  | .str x => .str x
  | .tup ds => .tuple (toPs ds)
  | .lst ds => .list (toPs ds)
  | .fz ds => .list (toPs ds)
  | .ty _ => .none
  | .ref _ => .none
def toPs : List D → List PyData
  | [] => []
  | d :: ds => d.toP :: toPs ds
end
mutual
/-- data that == and repr may see -/
def D.isP : D → Bool
  | .non => true
  | .bl _ => true
  | .int _ => true
  | .str _ => true
  | .tup ds => isPs ds
  | .lst ds => isPs ds
  | .fz ds => isPs ds
  | .ty _ => false
  | .ref _ => false
def isPs : List D → Bool
  | [] => true
  | d :: ds => d.isP && isPs ds
end
mutual
theorem RD.dp {K : PySem.W.Frag} {ps : Ps} {H : Hp} : ∀ (d : D) {v : V}, RD K ps H d v → d.isP = true → Dp K H v d.toP
  | .non, _, h, _ => by rw [show _ = V.non from h]; exact .non
  | .bl b, _, h, _ => by rw [show _ = V.bl b from h]; exact .bl b
  | .int i, _, h, _ => by rw [show _ = V.int i from h]; exact .int i
  | .str x, _, h, _ => by rw [show _ = V.str x from h]; exact .str x
  | .tup ds, _, h, p => by
    obtain ⟨a, xs, rfl, h1, h2⟩ := h
    exact .tup h1.1 (RDs.dp ds h2 p)
  | .lst ds, _, h, p => by
    obtain ⟨a, xs, rfl, h1, h2⟩ := h
    exact .lst (.inl (.inl h1.1)) (RDs.dp ds h2 p)
  | .fz ds, _, h, p => by
    obtain ⟨a, xs, rfl, h1, h2⟩ := h
    exact .lst h1.1.sq (RDs.dp ds h2 p)
  | .ty _, _, _, p => by cases p
  | .ref _, _, _, p => by cases p
theorem RDs.dp {K : PySem.W.Frag} {ps : Ps} {H : Hp} : ∀ (ds : List D) {vs : List V}, RDs K ps H ds vs → isPs ds = true → DpAll K H vs (toPs ds)
  | [], _, h, _ => by rw [show _ = [] from h]; exact .nil
  | d :: ds, _, h, p => by
    obtain ⟨v, r, rfl, h1, h2⟩ := h
    have p' : (d.isP && isPs ds) = true := p
    rw [Bool.and_eq_true] at p'
    exact .cons (RD.dp d h1 p'.1) (RDs.dp ds h2 p'.2)
end
/-- data that == can see -/
def okD (d : D) : Bool := d.isP && SeqAt.shaped d.toP
def eqvD (x y : D) : Bool := PyData.eqv x.toP y.toP

/-! ### operators -/
def addD : D → D → GP → KD → Prop
  | .int i, .int j, G, Q => Q (.int (i + j)) G
  | .str a, .str b, G, Q => a.length + b.length ≤ sizeLine ∧ Q (.str (a ++ b)) G
  | .tup a, .tup b, G, Q => a.length + b.length ≤ sizeLine ∧ Q (.tup (a ++ b)) G
  | .lst a, .lst b, G, Q => a.length + b.length ≤ sizeLine ∧ Q (.lst (a ++ b)) G
  | _, _, _, _ => False
def subD : D → D → GP → KD → Prop
  | .int i, .int j, G, Q => Q (.int (i - j)) G
  | _, _, _, _ => False
def mulD : D → D → GP → KD → Prop
  | .int i, .int j, G, Q => IntMulOk i j ∧ Q (.int (i * j)) G
  | .lst a, .int j, G, Q => (-(2 ^ 63) ≤ j ∧ j < 2 ^ 63 ∧ a.length * j.toNat ≤ sizeLine) ∧ Q (.lst (List.replicate j.toNat a).flatten) G
  | _, _, _, _ => False
def DivOk (i j : Int) : Prop := j ≠ 0 ∧ Builtin.divisionGoesByPylong i j = false
def fdivD : D → D → GP → KD → Prop
  | .int i, .int j, G, Q => DivOk i j ∧ Q (.int (i.fdiv j)) G
  | _, _, _, _ => False
def modD : D → D → GP → KD → Prop
  | .int i, .int j, G, Q => j ≠ 0 ∧ Q (.int (i.fmod j)) G
  | _, _, _, _ => False
def powD : D → D → GP → KD → Prop
  | .int i, .int j, G, Q => (0 ≤ j ∧ (Builtin.Int.intBits i : Int) * j ≤ 2 ^ 27) ∧ Q (.int (i ^ j.toNat)) G
  | _, _, _, _ => False
def negD : D → GP → KD → Prop
  | .int i, G, Q => Q (.int (-i)) G
  | _, _, _ => False
/-- two texts, or data that == can see -/
def okQ : D → D → Bool
  | .str _, .str _ => true
  | x, y => okD x && okD y
def eqD (x y : D) (G : GP) (Q : KD) : Prop := okQ x y = true ∧ Q (.bl (eqvD x y)) G
def neD (x y : D) (G : GP) (Q : KD) : Prop := okQ x y = true ∧ Q (.bl (!eqvD x y)) G
theorem okQ_of {x y : D} (h : okQ x y = true) : (∃ a b, x = .str a ∧ y = .str b) ∨ (okD x = true ∧ okD y = true) := by
  unfold okQ at h
  split at h
  · exact .inl ⟨_, _, rfl, rfl⟩
  · rw [Bool.and_eq_true] at h
    exact .inr h
theorem eqv_str (a b : Str) : eqvD (.str a) (.str b) = decide (V.str a = V.str b) := by
  rw [dec_str]
  show PyData.eqv (.str a) (.str b) = _
  unfold PyData.eqv
  rfl
def ltD : D → D → GP → KD → Prop
  | .int i, .int j, G, Q => Q (.bl (decide (i < j))) G
  | .str i, .str j, G, Q => Q (.bl (decide (i.cps.toList < j.cps.toList))) G
  | _, _, _, _ => False
def leD : D → D → GP → KD → Prop
  | .int i, .int j, G, Q => Q (.bl (decide (i ≤ j))) G
  | _, _, _, _ => False
def gtD : D → D → GP → KD → Prop
  | .int i, .int j, G, Q => Q (.bl (decide (j < i))) G
  | _, _, _, _ => False
def geD : D → D → GP → KD → Prop
  | .int i, .int j, G, Q => Q (.bl (decide (j ≤ i))) G
  | _, _, _, _ => False
section
variable {X : Cx}
theorem o_add : OpR X (binaryOp .Add) (l2 X.K addD) := by
  intro pins s σ H x y v u Q I rx ry ⟨ps, G, dx, dy, Qd, hx, hy, m, h, f⟩
  cases dx with
  | int i => cases dy with
    | int j => exact op_add pins s σ H x y v u Q I rx ry ⟨i, j, hx, hy, f.same m (d := .int (i + j)) rfl h⟩
    | _ => exact (show False from h).elim
  | str i => cases dy with
    | str j => exact op_add_str pins s σ H x y v u Q I rx ry ⟨i, j, hx, hy, h.1, f.same m (d := .str (i ++ j)) rfl h.2⟩
    | _ => exact (show False from h).elim
  | tup as => cases dy with
    | tup bs =>
      obtain ⟨a, xs, rfl, ha, ra⟩ := hx
      obtain ⟨b, ys, rfl, hb, rb⟩ := hy
      have l1 := ra.length
      have l2 := rb.length
      obtain ⟨hz, q⟩ : as.length + bs.length ≤ sizeLine ∧ Qd (.tup (as ++ bs)) G := h
      refine op_catA pins s σ H _ _ v u Q I rx ry ⟨a, b, xs, ys, rfl, rfl, ha.1, hb.1, by rw [← l1, ← l2]; exact hz, fun e => ?_, fun _ e => ?_, fun _ _ p hp => f.tup m (by rw [List.length_append]; exact hz) (ra.append rb) hp q⟩
      · subst e
        have e2 : as = [] := List.eq_nil_of_length_eq_zero l1
        subst e2
        exact f.same m (d := .tup ([] ++ bs)) ⟨b, ys, rfl, hb, rb⟩ q
      · subst e
        have e2 : bs = [] := List.eq_nil_of_length_eq_zero l2
        subst e2
        exact f.same m (d := .tup (as ++ [])) ⟨a, xs, rfl, ha, by rw [List.append_nil]; exact ra⟩ q
    | _ => exact (show False from h).elim
  | lst as => cases dy with
    | lst bs =>
      obtain ⟨a, xs, rfl, ha, ra⟩ := hx
      obtain ⟨b, ys, rfl, hb, rb⟩ := hy
      have l1 := ra.length
      have l2 := rb.length
      obtain ⟨hz, q⟩ : as.length + bs.length ≤ sizeLine ∧ Qd (.lst (as ++ bs)) G := h
      exact op_cat pins s σ H _ _ v u Q I rx ry ⟨a, b, xs, ys, rfl, rfl, ha.1, hb.1, by rw [← l1, ← l2]; exact hz, fun p hp => f.lst m (by rw [List.length_append]; exact hz) (ra.append rb) hp q⟩
    | _ => exact (show False from h).elim
  | _ => exact (show False from h).elim
theorem o_sub : OpR X (binaryOp .Sub) (l2 X.K subD) := by
  intro pins s σ H x y v u Q I rx ry ⟨ps, G, dx, dy, Qd, hx, hy, m, h, f⟩
  cases dx with
  | int i => cases dy with
    | int j => exact op_sub pins s σ H x y v u Q I rx ry ⟨i, j, hx, hy, f.same m (d := .int (i - j)) rfl h⟩
    | _ => exact (show False from h).elim
  | _ => exact (show False from h).elim
theorem rep_rds {K : PySem.W.Frag} {ps : Ps} {H : Hp} {ds : List D} {xs : List V} (r : RDs K ps H ds xs) : ∀ n : Nat, RDs K ps H (List.replicate n ds).flatten (List.replicate n xs).flatten
  | 0 => rfl
  | n + 1 => by
    rw [List.replicate_succ, List.replicate_succ, List.flatten_cons, List.flatten_cons]
    exact r.append (rep_rds r n)
theorem rep_len {α : Type} (n : Nat) (ds : List α) : (List.replicate n ds).flatten.length = n * ds.length := by
  induction n with
  | zero => simp
  | succ n ih => rw [List.replicate_succ, List.flatten_cons, List.length_append, ih, Nat.succ_mul, Nat.add_comm]
theorem o_mul : OpR X (binaryOp .Mult) (l2 X.K mulD) := by
  intro pins s σ H x y v u Q I rx ry ⟨ps, G, dx, dy, Qd, hx, hy, m, h, f⟩
  cases dx with
  | int i => cases dy with
    | int j =>
      obtain ⟨hz, q⟩ : IntMulOk i j ∧ Qd (.int (i * j)) G := h
      rw [show x = .int i from hx] at rx
      rw [show y = .int j from hy] at ry
      obtain ⟨t, rfl⟩ := rx
      obtain ⟨t', rfl⟩ := ry
      exact mul_int ⟨.int (i * j), H, I.tok _, ⟨_, rfl⟩, f.same m (d := .int (i * j)) rfl q⟩ hz
    | _ => exact (show False from h).elim
  | lst as => cases dy with
    | int j =>
      obtain ⟨a, xs, rfl, ha, ra⟩ := hx
      have l1 := ra.length
      obtain ⟨⟨h1, h2, h3⟩, q⟩ : (-(2 ^ 63) ≤ j ∧ j < 2 ^ 63 ∧ as.length * j.toNat ≤ sizeLine) ∧ Qd (.lst (List.replicate j.toNat as).flatten) G := h
      exact op_rep pins s σ H _ _ v u Q I rx ry ⟨a, j, xs, rfl, hy, ha.1, h1, h2, by rw [← l1]; exact h3, fun p hp => f.lst m (by rw [rep_len, Nat.mul_comm]; exact h3) (rep_rds ra _) hp q⟩
    | _ => exact (show False from h).elim
  | _ => exact (show False from h).elim
theorem o_fdiv : OpR X (binaryOp .FloorDiv) (l2 X.K fdivD) := by
  intro pins s σ H x y v u Q I rx ry ⟨ps, G, dx, dy, Qd, hx, hy, m, h, f⟩
  cases dx with
  | int i => cases dy with
    | int j =>
      obtain ⟨hz, q⟩ : DivOk i j ∧ Qd (.int (i.fdiv j)) G := h
      rw [show x = .int i from hx] at rx
      rw [show y = .int j from hy] at ry
      obtain ⟨t, rfl⟩ := rx
      obtain ⟨t', rfl⟩ := ry
      exact floordiv_int hz.1 ⟨.int (i.fdiv j), H, I.tok _, ⟨_, rfl⟩, f.same m (d := .int (i.fdiv j)) rfl q⟩ (.inl hz.2)
    | _ => exact (show False from h).elim
  | _ => exact (show False from h).elim
theorem o_mod : OpR X (binaryOp .Mod) (l2 X.K modD) := by
  intro pins s σ H x y v u Q I rx ry ⟨ps, G, dx, dy, Qd, hx, hy, m, h, f⟩
  cases dx with
  | int i => cases dy with
    | int j => exact op_modN pins s σ H x y v u Q I rx ry ⟨i, j, hx, hy, h.1, f.same m (d := .int (i.fmod j)) rfl h.2⟩
    | _ => exact (show False from h).elim
  | _ => exact (show False from h).elim
theorem o_pow : OpR X (binaryOp .Pow) (l2 X.K powD) := by
  intro pins s σ H x y v u Q I rx ry ⟨ps, G, dx, dy, Qd, hx, hy, m, h, f⟩
  cases dx with
  | int i => cases dy with
    | int j =>
      obtain ⟨hz, q⟩ : (0 ≤ j ∧ (Builtin.Int.intBits i : Int) * j ≤ 2 ^ 27) ∧ Qd (.int (i ^ j.toNat)) G := h
      rw [show x = .int i from hx] at rx
      rw [show y = .int j from hy] at ry
      obtain ⟨t, rfl⟩ := rx
      obtain ⟨t', rfl⟩ := ry
      exact pow_int hz.1 hz.2 ⟨.int (i ^ j.toNat), H, I.tok _, ⟨_, rfl⟩, f.same m (d := .int (i ^ j.toNat)) rfl q⟩
    | _ => exact (show False from h).elim
  | _ => exact (show False from h).elim
theorem u_neg : UnR X (unaryOp .USub) (l1 X.K negD) := by
  intro pins s σ H x v Q I rx ⟨ps, G, dx, Qd, hx, m, h, f⟩
  cases dx with
  | int i => exact un_neg pins s σ H x v Q I rx ⟨i, hx, f.same m (d := .int (-i)) rfl h⟩
  | _ => exact (show False from h).elim
theorem o_eq (hu : X.A.units + 64 < cLine) : OpR X (compareOp .Eq) (l2 X.K eqD) := by
  intro pins s σ H x y v u Q I rx ry ⟨ps, G, dx, dy, Qd, hx, hy, m, ⟨k, q⟩, f⟩
  rcases okQ_of k with ⟨a, b, rfl, rfl⟩ | ⟨k1, k2⟩
  · rw [eqv_str] at q
    obtain rfl : x = .str a := hx
    obtain rfl : y = .str b := hy
    exact op_eq pins s σ H _ _ v u Q I rx ry ⟨rfl, f.same m (d := .bl _) rfl q⟩
  unfold okD at k1 k2
  rw [Bool.and_eq_true] at k1 k2
  exact op_eqD hu pins s σ H x y v u Q I rx ry ⟨_, _, RD.dp dx hx k1.1, RD.dp dy hy k2.1, k1.2, k2.2, f.same m (d := .bl (eqvD dx dy)) rfl q⟩
theorem o_ne (hu : X.A.units + 64 < cLine) : OpR X (compareOp .NotEq) (l2 X.K neD) := by
  intro pins s σ H x y v u Q I rx ry ⟨ps, G, dx, dy, Qd, hx, hy, m, ⟨k, q⟩, f⟩
  rcases okQ_of k with ⟨a, b, rfl, rfl⟩ | ⟨k1, k2⟩
  · rw [eqv_str] at q
    obtain rfl : x = .str a := hx
    obtain rfl : y = .str b := hy
    exact op_ne pins s σ H _ _ v u Q I rx ry ⟨rfl, f.same m (d := .bl _) rfl q⟩
  unfold okD at k1 k2
  rw [Bool.and_eq_true] at k1 k2
  exact op_neD hu pins s σ H x y v u Q I rx ry ⟨_, _, RD.dp dx hx k1.1, RD.dp dy hy k2.1, k1.2, k2.2, f.same m (d := .bl (!eqvD dx dy)) rfl q⟩
theorem o_lt : OpR X (compareOp .Lt) (l2 X.K ltD) := by
  intro pins s σ H x y v u Q I rx ry ⟨ps, G, dx, dy, Qd, hx, hy, m, h, f⟩
  cases dx with
  | int i => cases dy with
    | int j => exact op_lt pins s σ H x y v u Q I rx ry ⟨i, j, hx, hy, f.same m (d := .bl _) rfl h⟩
    | _ => exact (show False from h).elim
  | str i => cases dy with
    | str j => exact op_lt_str pins s σ H x y v u Q I rx ry ⟨i, j, hx, hy, f.same m (d := .bl _) rfl h⟩
    | _ => exact (show False from h).elim
  | _ => exact (show False from h).elim
theorem o_le : OpR X (compareOp .LtE) (l2 X.K leD) := by
  intro pins s σ H x y v u Q I rx ry ⟨ps, G, dx, dy, Qd, hx, hy, m, h, f⟩
  cases dx with
  | int i => cases dy with
    | int j => exact op_le pins s σ H x y v u Q I rx ry ⟨i, j, hx, hy, f.same m (d := .bl _) rfl h⟩
    | _ => exact (show False from h).elim
  | _ => exact (show False from h).elim
theorem o_gt : OpR X (compareOp .Gt) (l2 X.K gtD) := by
  intro pins s σ H x y v u Q I rx ry ⟨ps, G, dx, dy, Qd, hx, hy, m, h, f⟩
  cases dx with
  | int i => cases dy with
    | int j => exact op_gt pins s σ H x y v u Q I rx ry ⟨i, j, hx, hy, f.same m (d := .bl _) rfl h⟩
    | _ => exact (show False from h).elim
  | _ => exact (show False from h).elim
theorem o_ge : OpR X (compareOp .GtE) (l2 X.K geD) := by
  intro pins s σ H x y v u Q I rx ry ⟨ps, G, dx, dy, Qd, hx, hy, m, h, f⟩
  cases dx with
  | int i => cases dy with
    | int j => exact op_ge pins s σ H x y v u Q I rx ry ⟨i, j, hx, hy, f.same m (d := .bl _) rfl h⟩
    | _ => exact (show False from h).elim
  | _ => exact (show False from h).elim
end

/-! ### sequences -/
def cellL (G : GP) (n : Nat) : Option (List D) := match G[n]? with
  | some (.lst ds) => some ds
  | _ => none
/-- a list's data -/
def lstOf (G : GP) : D → Option (List D)
  | .lst ds => some ds
  | .fz ds => some ds
  | .ref n => cellL G n
  | _ => none
def seqOf (G : GP) : D → Option (List D)
  | .tup ds => some ds
  | .lst ds => some ds
  | .fz ds => some ds
  | .ref n => cellL G n
  | _ => none
theorem cellL_of {G : GP} {n : Nat} {ds : List D} (h : cellL G n = some ds) : G[n]? = some (.lst ds) := by
  unfold cellL at h
  split at h
  · rename_i es q
    rw [q, Option.some.inj h]
  · cases h
theorem lst_sq {K : PySem.W.Frag} {ps : Ps} {H : Hp} {G : GP} (m : Mod K ps H G) {d : D} {ds : List D} {v : V} (h : RD K ps H d v) (e : lstOf G d = some ds) : ∃ a xs, v = .ref a ∧ SqL K H a xs ∧ xs.length ≤ sizeLine ∧ RDs K ps H ds xs := by
  cases d with
  | lst es =>
    cases e
    obtain ⟨a, xs, e, h1, h2⟩ := h
    exact ⟨a, xs, e, .inl (.inl h1.1), h1.2.2.2, h2⟩
  | fz es =>
    cases e
    obtain ⟨a, xs, e, h1, h2⟩ := h
    exact ⟨a, xs, e, h1.1.sq, h1.2, h2⟩
  | ref n =>
    obtain ⟨a, ea, rfl⟩ := h
    obtain ⟨xs, ex, z, rs⟩ := m.at_ n _ a (cellL_of e) ea
    exact ⟨a, xs, rfl, .inl (.inl ex), z, rs⟩
  | _ => cases e
theorem seq_sq {K : PySem.W.Frag} {ps : Ps} {H : Hp} {G : GP} (m : Mod K ps H G) {d : D} {ds : List D} {v : V} (h : RD K ps H d v) (e : seqOf G d = some ds) : ∃ a xs, v = .ref a ∧ (SqL K H a xs ∨ SqT K H a xs) ∧ xs.length ≤ sizeLine ∧ RDs K ps H ds xs := by
  have go : lstOf G d = some ds → ∃ a xs, v = .ref a ∧ (SqL K H a xs ∨ SqT K H a xs) ∧ xs.length ≤ sizeLine ∧ RDs K ps H ds xs := fun e => by
    obtain ⟨a, xs, h1, h2, h4, h3⟩ := lst_sq m h e
    exact ⟨a, xs, h1, .inl h2, h4, h3⟩
  cases d with
  | tup es =>
    cases e
    obtain ⟨a, xs, e, h1, h2⟩ := h
    exact ⟨a, xs, e, .inr h1.1, h1.2, h2⟩
  | lst es => exact go e
  | fz es => exact go e
  | ref n => exact go e
  | _ => cases e

/-! ### subscripts -/
def ixD (x y : D) (G : GP) (Q : KD) : Prop := match y with
  | .int i => (match x with
    | .str z => z.length ≤ sizeLine ∧ (match atI z.cps.toList i with
      | some c => Q (.str ⟨#[c]⟩) G
      | none => False)
    | x => (match seqOf G x with
      | some ds => (match atI ds i with
        | some d => Q d G
        | none => False)
      | none => False))
  | _ => False
theorem RDs.atI {K : PySem.W.Frag} {ps : Ps} {H : Hp} {ds : List D} {vs : List V} {i : Int} {d : D} (r : RDs K ps H ds vs) (h : L2.atI ds i = some d) : ∃ v, L2.atI vs i = some v ∧ RD K ps H d v := by
  unfold L2.atI at h ⊢
  rw [← r.length]
  cases q : ixN ds.length i with
  | none => rw [q] at h; cases h
  | some j =>
    rw [q] at h
    exact r.get (i := j) h
theorem ixD_of {x y : D} {G : GP} {Q : KD} (h : ixD x y G Q) : ∃ i, y = .int i ∧ ((∃ z c, x = .str z ∧ z.length ≤ sizeLine ∧ atI z.cps.toList i = some c ∧ Q (.str ⟨#[c]⟩) G) ∨ ∃ ds d, seqOf G x = some ds ∧ atI ds i = some d ∧ Q d G) := by
  unfold ixD at h
  split at h
  · rename_i i
    refine ⟨i, rfl, ?_⟩
    split at h
    · rename_i z
      refine .inl ⟨z, ?_⟩
      cases q : atI z.cps.toList i with
      | none => rw [q] at h; exact h.2.elim
      | some c => rw [q] at h; exact ⟨c, rfl, h.1, rfl, h.2⟩
    · refine .inr ?_
      cases q : seqOf G x with
      | none => rw [q] at h; exact h.elim
      | some ds =>
        rw [q] at h
        cases q2 : atI ds i with
        | none => simp only [q2] at h
        | some d => simp only [q2] at h; exact ⟨ds, d, rfl, q2, h⟩
  · exact h.elim
section
variable {X : Cx}
theorem x_ix : IxR X (l2 X.K ixD) := by
  intro value slice pins s σ H x y v u Q I rx ry ⟨ps, G, dx, dy, Qd, hx, hy, m, h, f⟩ hs
  obtain ⟨i, rfl, k⟩ := ixD_of h
  rcases k with ⟨z, c, rfl, hz, e, q⟩ | ⟨ds, d, e1, e2, q⟩
  · exact ix_str value slice pins s σ H _ _ v u Q I rx ry ⟨z, i, c, hx, hy, hz, e, f.same m (d := .str ⟨#[c]⟩) rfl q⟩ hs
  · obtain ⟨a, xs, rfl, h1, _, h2⟩ := seq_sq m hx e1
    obtain ⟨w, e, rd⟩ := h2.atI e2
    rcases h1 with h1 | h1
    · exact ix_list value slice pins s σ H _ _ v u Q I rx ry ⟨a, xs, i, w, rfl, hy, h1, e, f.same m rd q⟩ hs
    · exact ix_tup value slice pins s σ H _ _ v u Q I rx ry ⟨a, xs, i, w, rfl, hy, h1, e, f.same m rd q⟩ hs
end

/-! ### built-ins -/
def lenC : List D → GP → KD → Prop
  | [d], G, Q => (match d with
    | .str z => z.length ≤ sizeLine ∧ Q (.int z.length) G
    | d => (match seqOf G d with
      | some ds => Q (.int ds.length) G
      | none => False))
  | _, _, _ => False
def absC : List D → GP → KD → Prop
  | [.int i], G, Q => Q (.int i.natAbs) G
  | _, _, _ => False
/-- the class of data -/
def tyn : D → Option Tn
  | .bl _ => some .bool
  | .int _ => some .int
  | .str _ => some .str
  | .tup _ => some .tuple
  | .lst _ => some .list
  | .fz _ => some .list
  | .ref _ => some .list
  | _ => none
/-- isinstance by classes -/
def isiB : Option Tn → Tn → Bool
  | some .int, .int => true | some .bool, .int => true | some .bool, .bool => true | some .str, .str => true
  | some .tuple, .tuple => true | some .list, .list => true | some .dict, .dict => true
  | _, _ => false
def notTy : D → Bool
  | .ty _ => false
  | _ => true
def isiC : List D → GP → KD → Prop
  | [d, .ty c], G, Q => notTy d = true ∧ Q (.bl (isiB (tyn d) c)) G
  | _, _, _ => False
def allB : List D → Option Bool
  | [] => some true
  | .bl b :: r => (allB r).map (b && ·)
  | _ :: _ => none
def allC : List D → GP → KD → Prop
  | [d], G, Q => (match lstOf G d with
    | some ds => (match allB ds with
      | some b => Q (.bl b) G
      | none => False)
    | none => False)
  | _, _, _ => False
def sumI : List D → Option Int
  | [] => some 0
  | .int i :: r => (sumI r).map (i + ·)
  | _ :: _ => none
def sumC : List D → GP → KD → Prop
  | [d], G, Q => (match lstOf G d with
    | some ds => (match sumI ds with
      | some b => Q (.int b) G
      | none => False)
    | none => False)
  | _, _, _ => False
def maxC : List D → GP → KD → Prop
  | [.int i, .int j], G, Q => Q (.int (if j > i then j else i)) G
  | _, _, _ => False
def minC : List D → GP → KD → Prop
  | [.int i, .int j], G, Q => Q (.int (if j < i then j else i)) G
  | _, _, _ => False
def tupC : List D → GP → KD → Prop
  | [d], G, Q => (match seqOf G d with
    | some ds => Q (.tup ds) G
    | none => False)
  | _, _, _ => False
def lstC : List D → GP → KD → Prop
  | [d], G, Q => (match seqOf G d with
    | some ds => Q (.lst ds) G
    | none => False)
  | _, _, _ => False
def intC : List D → GP → KD → Prop
  | [.int i], G, Q => Q (.int i) G
  | [.bl b], G, Q => Q (.int (if b then 1 else 0)) G
  | _, _, _ => False
def strC : List D → GP → KD → Prop
  | [.int i], G, Q => i.natAbs.log2 < 1920 ∧ Q (.str (toString i)) G
  | _, _, _ => False
/-- data that repr can show -/
def okR (d : D) : Bool := d.isP && (d.toP.showable && (!d.toP.hasDict && (decide (d.toP.depth ≤ 60) && decide (d.toP.shown.length ≤ sizeLine))))
def repC : List D → GP → KD → Prop
  | [d], G, Q => okR d = true ∧ Q (.str d.toP.shown) G
  | _, _, _ => False
theorem lenC_of {ds : List D} {G : GP} {Q : KD} (h : lenC ds G Q) : ∃ d, ds = [d] ∧ ((∃ z, d = .str z ∧ z.length ≤ sizeLine ∧ Q (.int z.length) G) ∨ ∃ es, seqOf G d = some es ∧ Q (.int es.length) G) := by
  unfold lenC at h
  split at h
  · rename_i d
    refine ⟨d, rfl, ?_⟩
    split at h
    · exact .inl ⟨_, rfl, h⟩
    · refine .inr ?_
      split at h
      · rename_i es e
        exact ⟨es, e, h⟩
      · exact h.elim
  · exact h.elim
theorem absC_of {ds : List D} {G : GP} {Q : KD} (h : absC ds G Q) : ∃ i, ds = [.int i] ∧ Q (.int i.natAbs) G := by
  unfold absC at h
  split at h
  · exact ⟨_, rfl, h⟩
  · exact h.elim
theorem isiC_of {ds : List D} {G : GP} {Q : KD} (h : isiC ds G Q) : ∃ d c, ds = [d, .ty c] ∧ notTy d = true ∧ Q (.bl (isiB (tyn d) c)) G := by
  unfold isiC at h
  split at h
  · exact ⟨_, _, rfl, h⟩
  · exact h.elim
theorem allC_of {ds : List D} {G : GP} {Q : KD} (h : allC ds G Q) : ∃ d es b, ds = [d] ∧ lstOf G d = some es ∧ allB es = some b ∧ Q (.bl b) G := by
  unfold allC at h
  split at h
  · split at h
    · rename_i es e
      split at h
      · rename_i b eb
        exact ⟨_, es, b, rfl, e, eb, h⟩
      · exact h.elim
    · exact h.elim
  · exact h.elim
theorem sumC_of {ds : List D} {G : GP} {Q : KD} (h : sumC ds G Q) : ∃ d es b, ds = [d] ∧ lstOf G d = some es ∧ sumI es = some b ∧ Q (.int b) G := by
  unfold sumC at h
  split at h
  · split at h
    · rename_i es e
      split at h
      · rename_i b eb
        exact ⟨_, es, b, rfl, e, eb, h⟩
      · exact h.elim
    · exact h.elim
  · exact h.elim
theorem maxC_of {ds : List D} {G : GP} {Q : KD} (h : maxC ds G Q) : ∃ i j, ds = [.int i, .int j] ∧ Q (.int (if j > i then j else i)) G := by
  unfold maxC at h
  split at h
  · exact ⟨_, _, rfl, h⟩
  · exact h.elim
theorem minC_of {ds : List D} {G : GP} {Q : KD} (h : minC ds G Q) : ∃ i j, ds = [.int i, .int j] ∧ Q (.int (if j < i then j else i)) G := by
  unfold minC at h
  split at h
  · exact ⟨_, _, rfl, h⟩
  · exact h.elim
theorem tupC_of {ds : List D} {G : GP} {Q : KD} (h : tupC ds G Q) : ∃ d es, ds = [d] ∧ seqOf G d = some es ∧ Q (.tup es) G := by
  unfold tupC at h
  split at h
  · split at h
    · rename_i es e
      exact ⟨_, es, rfl, e, h⟩
    · exact h.elim
  · exact h.elim
theorem lstC_of {ds : List D} {G : GP} {Q : KD} (h : lstC ds G Q) : ∃ d es, ds = [d] ∧ seqOf G d = some es ∧ Q (.lst es) G := by
  unfold lstC at h
  split at h
  · split at h
    · rename_i es e
      exact ⟨_, es, rfl, e, h⟩
    · exact h.elim
  · exact h.elim
theorem intC_of {ds : List D} {G : GP} {Q : KD} (h : intC ds G Q) : (∃ i, ds = [.int i] ∧ Q (.int i) G) ∨ ∃ b, ds = [.bl b] ∧ Q (.int (if b then 1 else 0)) G := by
  unfold intC at h
  split at h
  · exact .inl ⟨_, rfl, h⟩
  · exact .inr ⟨_, rfl, h⟩
  · exact h.elim
theorem strC_of {ds : List D} {G : GP} {Q : KD} (h : strC ds G Q) : ∃ i, ds = [.int i] ∧ i.natAbs.log2 < 1920 ∧ Q (.str (toString i)) G := by
  unfold strC at h
  split at h
  · exact ⟨_, rfl, h⟩
  · exact h.elim
theorem repC_of {ds : List D} {G : GP} {Q : KD} (h : repC ds G Q) : ∃ d, ds = [d] ∧ okR d = true ∧ Q (.str d.toP.shown) G := by
  unfold repC at h
  split at h
  · exact ⟨_, rfl, h⟩
  · exact h.elim
section
variable {X : Cx}
theorem one_of {K : PySem.W.Frag} {ps : Ps} {H : Hp} {d : D} {vs : List V} (h : RDs K ps H [d] vs) : ∃ v, vs = [v] ∧ RD K ps H d v := by
  obtain ⟨v, r, rfl, h1, h2⟩ := h
  exact ⟨v, by rw [show r = [] from h2], h1⟩
theorem two_of {K : PySem.W.Frag} {ps : Ps} {H : Hp} {d e : D} {vs : List V} (h : RDs K ps H [d, e] vs) : ∃ v w, vs = [v, w] ∧ RD K ps H d v ∧ RD K ps H e w := by
  obtain ⟨v, r, rfl, h1, h2⟩ := h
  obtain ⟨w, rfl, h3⟩ := one_of h2
  exact ⟨v, w, rfl, h1, h3⟩
theorem c_len : CallR X (.builtin "len") (lC X.K lenC) := by
  intro pins s σ H vs us Q I rv ⟨ps, G, ds, Qd, rs, m, h, f⟩
  obtain ⟨d, rfl, k⟩ := lenC_of h
  obtain ⟨v, rfl, hd⟩ := one_of rs
  rcases k with ⟨z, rfl, hz, q⟩ | ⟨es, e, q⟩
  · exact call_len_str pins s σ H _ us Q I rv ⟨z, by rw [show v = _ from hd], hz, f.same m (d := .int z.length) rfl q⟩
  · obtain ⟨a, xs, rfl, h1, hz, h2⟩ := seq_sq m hd e
    refine call_len_seq pins s σ H _ us Q I rv ⟨a, xs, rfl, h1, ?_⟩
    rw [← h2.length]
    exact f.same m (d := .int es.length) rfl q
theorem c_abs : CallR X (.builtin "abs") (lC X.K absC) := by
  intro pins s σ H vs us Q I rv ⟨ps, G, ds, Qd, rs, m, h, f⟩
  obtain ⟨i, rfl, h⟩ := absC_of h
  obtain ⟨v, rfl, hd⟩ := one_of rs
  refine call_abs pins s σ H _ us Q I rv ⟨i, by rw [show v = _ from hd], f.same m (d := .int i.natAbs) ?_ h⟩
  show V.int (if i < 0 then -i else i) = V.int i.natAbs
  congr 1
  split <;> omega
theorem c_max (hc : X.calm = true) : CallR X (.builtin "max") (lC X.K maxC) := by
  intro pins s σ H vs us Q I rv ⟨ps, G, ds, Qd, rs, m, h, f⟩
  obtain ⟨i, j, rfl, h⟩ := maxC_of h
  obtain ⟨v, w, rfl, h1, h2⟩ := two_of rs
  exact call_max2 hc pins s σ H _ us Q I rv ⟨i, j, by rw [show v = _ from h1, show w = _ from h2], f.same m (d := .int _) rfl h⟩
theorem c_min (hc : X.calm = true) : CallR X (.builtin "min") (lC X.K minC) := by
  intro pins s σ H vs us Q I rv ⟨ps, G, ds, Qd, rs, m, h, f⟩
  obtain ⟨i, j, rfl, h⟩ := minC_of h
  obtain ⟨v, w, rfl, h1, h2⟩ := two_of rs
  exact call_min2 hc pins s σ H _ us Q I rv ⟨i, j, by rw [show v = _ from h1, show w = _ from h2], f.same m (d := .int _) rfl h⟩
theorem c_int : CallR X (.type "int") (lC X.K intC) := by
  intro pins s σ H vs us Q I rv ⟨ps, G, ds, Qd, rs, m, h, f⟩
  rcases intC_of h with ⟨i, rfl, h⟩ | ⟨b, rfl, h⟩
  · obtain ⟨v, rfl, hd⟩ := one_of rs
    exact call_int1 pins s σ H _ us Q I rv (.inl ⟨i, by rw [show v = _ from hd], f.same m (d := .int i) rfl h⟩)
  · obtain ⟨v, rfl, hd⟩ := one_of rs
    exact call_int1 pins s σ H _ us Q I rv (.inr ⟨b, by rw [show v = _ from hd], f.same m (d := .int _) rfl h⟩)
theorem c_str : CallR X (.type "str") (lC X.K strC) := by
  intro pins s σ H vs us Q I rv ⟨ps, G, ds, Qd, rs, m, h, f⟩
  obtain ⟨i, rfl, hb, h⟩ := strC_of h
  obtain ⟨v, rfl, hd⟩ := one_of rs
  exact call_str_int pins s σ H _ us Q I rv ⟨i, by rw [show v = _ from hd], hb, f.same m (d := .str _) rfl h⟩
theorem c_tup : CallR X (.type "tuple") (lC X.K tupC) := by
  intro pins s σ H vs us Q I rv ⟨ps, G, ds, Qd, rs, m, h, f⟩
  obtain ⟨d, es, rfl, e, h⟩ := tupC_of h
  obtain ⟨v, rfl, hd⟩ := one_of rs
  obtain ⟨a, xs, rfl, h1, hz, h2⟩ := seq_sq m hd e
  rcases h1 with h1 | h1
  · exact call_tuple_of pins s σ H _ us Q I rv ⟨a, xs, rfl, .inl ⟨h1, fun p hp => f.tup m (by rw [h2.length]; exact hz) h2 hp h⟩⟩
  · exact call_tuple_of pins s σ H _ us Q I rv ⟨a, xs, rfl, .inr ⟨h1, f.same m (d := .tup es) ⟨a, xs, rfl, ⟨h1, hz⟩, h2⟩ h⟩⟩
theorem c_lst : CallR X (.type "list") (lC X.K lstC) := by
  intro pins s σ H vs us Q I rv ⟨ps, G, ds, Qd, rs, m, h, f⟩
  obtain ⟨d, es, rfl, e, h⟩ := lstC_of h
  obtain ⟨v, rfl, hd⟩ := one_of rs
  obtain ⟨a, xs, rfl, h1, hz, h2⟩ := seq_sq m hd e
  exact call_list_of pins s σ H _ us Q I rv ⟨a, xs, rfl, h1, fun p hp => f.lst m (by rw [h2.length]; exact hz) h2 hp h⟩
theorem allB_of {K : PySem.W.Frag} {ps : Ps} {H : Hp} : ∀ (ds : List D) {vs : List V} {b : Bool}, RDs K ps H ds vs → allB ds = some b → ∃ bs : List Bool, vs = bs.map V.bl ∧ bs.all id = b
  | [], vs, b, h, e => by
    rw [show vs = [] from h]
    exact ⟨[], rfl, Option.some.inj e⟩
  | d :: r, vs, b, h, e => by
    obtain ⟨v, w, rfl, h1, h2⟩ := h
    cases d with
    | bl c =>
      have e : (allB r).map (c && ·) = some b := e
      cases q : allB r with
      | none => rw [q] at e; cases e
      | some b' =>
        rw [q] at e
        obtain ⟨bs, rfl, hb⟩ := allB_of r h2 q
        refine ⟨c :: bs, by rw [show v = _ from h1]; rfl, ?_⟩
        rw [List.all_cons, hb]
        exact Option.some.inj e
    | _ => exact nomatch (show none = some b from e)
theorem c_all (hc : X.calm = true) : CallR X (.builtin "all") (lC X.K allC) := by
  intro pins s σ H vs us Q I rv ⟨ps, G, ds, Qd, rs, m, h, f⟩
  obtain ⟨d, es, b, rfl, e, eb, h⟩ := allC_of h
  obtain ⟨v, rfl, hd⟩ := one_of rs
  obtain ⟨a, xs, rfl, h1, hz, h2⟩ := lst_sq m hd e
  obtain ⟨bs, rfl, rfl⟩ := allB_of es h2 eb
  exact cr_all hc pins s σ H _ us Q I rv ⟨a, bs, rfl, h1, f.same m (d := .bl _) rfl h⟩
theorem sumI_of {K : PySem.W.Frag} {ps : Ps} {H : Hp} : ∀ (ds : List D) {vs : List V} {b : Int}, RDs K ps H ds vs → sumI ds = some b → ∃ bs : List Int, vs = bs.map V.int ∧ bs.sum = b
  | [], vs, b, h, e => by
    rw [show vs = [] from h]
    exact ⟨[], rfl, Option.some.inj e⟩
  | d :: r, vs, b, h, e => by
    obtain ⟨v, w, rfl, h1, h2⟩ := h
    cases d with
    | int c =>
      have e : (sumI r).map (c + ·) = some b := e
      cases q : sumI r with
      | none => rw [q] at e; cases e
      | some b' =>
        rw [q] at e
        obtain ⟨bs, rfl, hb⟩ := sumI_of r h2 q
        refine ⟨c :: bs, by rw [show v = _ from h1]; rfl, ?_⟩
        rw [List.sum_cons, hb]
        exact Option.some.inj e
    | _ => exact nomatch (show none = some b from e)
theorem c_sum (hc : X.calm = true) : CallR X (.builtin "sum") (lC X.K sumC) := by
  intro pins s σ H vs us Q I rv ⟨ps, G, ds, Qd, rs, m, h, f⟩
  obtain ⟨d, es, b, rfl, e, eb, h⟩ := sumC_of h
  obtain ⟨v, rfl, hd⟩ := one_of rs
  obtain ⟨a, xs, rfl, h1, hz, h2⟩ := lst_sq m hd e
  obtain ⟨bs, rfl, rfl⟩ := sumI_of es h2 eb
  exact cr_sum hc pins s σ H _ us Q I rv ⟨a, bs, rfl, h1, f.same m (d := .int _) rfl h⟩
/-! isinstance -/
def ttb : Option Tn → String
  | none => "NoneType"
  | some t => t.name
theorem kit_all (t : Option Tn) (c : Tn) : kitB (ttb t) c.name = some (isiB t c) := by
  cases t with
  | none => cases c <;> kernel_rfl
  | some t => cases t <;> cases c <;> kernel_rfl
theorem tyx_of {K : PySem.W.Frag} {ps : Ps} {H : Hp} {G : GP} (m : Mod K ps H G) (d : D) {v : V} (h : RD K ps H d v) (k : notTy d = true) : TyX K H v (.type (ttb (tyn d))) := by
  cases d with
  | non => rw [show v = V.non from h]; exact .base .non
  | bl b => rw [show v = V.bl b from h]; exact .base (.bl b)
  | int i => rw [show v = V.int i from h]; exact .base (.int i)
  | str x => rw [show v = V.str x from h]; exact .base (.str x)
  | ty n => cases k
  | tup ds =>
    obtain ⟨a, xs, rfl, h1, h2⟩ := h
    rcases h1 with ⟨(h1 | ⟨o, h1⟩) | ⟨o, its, n, h1, h3, _⟩, _⟩
    · exact .base (.tup h1)
    · exact .fTuple h1
    · exact .kTuple h1 h3
  | lst ds =>
    obtain ⟨a, xs, rfl, h1, h2⟩ := h
    exact .base (.lst h1.1)
  | fz ds =>
    obtain ⟨a, xs, rfl, h1, h2⟩ := h
    rcases h1 with ⟨⟨o, h1⟩ | ⟨o, its, n, h1, h3, _⟩, _⟩
    · exact .base (.frz h1)
    · exact .kList h1 h3
  | ref n =>
    obtain ⟨a, ea, rfl⟩ := h
    obtain ⟨xs, e⟩ := m.there (List.mem_of_getElem? ea)
    exact .base (.lst e)
theorem c_isi : CallR X (.builtin "isinstance") (lC X.K isiC) := by
  intro pins s σ H vs us Q I rv ⟨ps, G, ds, Qd, rs, m, h, f⟩
  obtain ⟨d, c, rfl, k, h⟩ := isiC_of h
  obtain ⟨v, w, rfl, h1, h2⟩ := two_of rs
  have h2 : w = V.ty c.name := h2
  subst h2
  exact call_isi pins s σ H _ us Q I rv ⟨v, .ty c.name, _, _, _, rfl, .ty _, tyx_of m d h1 k, kit_ty (kit_all _ _), f.same m (d := .bl _) rfl h⟩
/-! repr -/
theorem okR_of {d : D} (h : okR d = true) : d.isP = true ∧ d.toP.showable = true ∧ d.toP.hasDict = false ∧ d.toP.depth ≤ 60 ∧ d.toP.shown.length ≤ sizeLine := by
  unfold okR at h
  simp only [Bool.and_eq_true, Bool.not_eq_true', decide_eq_true_eq] at h
  exact ⟨h.1, h.2.1, h.2.2.1, h.2.2.2.1, h.2.2.2.2⟩
theorem c_rep (hg : X.A.guards = some []) (hu : X.A.units + 64 < cLine) : CallR X (.builtin "repr") (lC X.K repC) := by
  intro pins s σ H vs us Q I rv ⟨ps, G, ds, Qd, rs, m, h, f⟩
  obtain ⟨d, rfl, k, h⟩ := repC_of h
  obtain ⟨v, rfl, hd⟩ := one_of rs
  obtain ⟨u, rfl, r1⟩ := vals1 rv
  obtain ⟨k1, k2, k3, k4, k5⟩ := okR_of k
  have q : Q (.str d.toP.shown) H := f.same m (d := .str d.toP.shown) rfl h
  obtain ⟨as, rr⟩ := Dp.reads I d.toP v u (RD.dp d hd k1) r1
  have big : ∀ a, u = .ref a → wpAny (model X.prog X.w) X.A (call (.builtin "repr") [u]) (EP X pins σ Q) X.xe s := fun a e => by
    subst e
    exact repr_of_reads' rr k2 (PyData.noDict_hsm k3) hg (by omega) (fun _ _ e => e) (fun h' u tk kp => ⟨.str _, H, I.kept kp, ⟨_, rfl⟩, q⟩) k5
  cases d with
  | non =>
    rw [show v = _ from hd] at r1
    cases r1
    exact PySem.P.repr_of_none ⟨.str _, H, I.tok _, ⟨_, rfl⟩, q⟩
  | bl b =>
    rw [show v = _ from hd] at r1
    cases r1
    exact PySem.P.repr_of_bool ⟨.str _, H, I.tok _, ⟨_, rfl⟩, q⟩
  | int i =>
    rw [show v = _ from hd] at r1
    obtain ⟨t, rfl⟩ := r1
    exact PySem.P.repr_of_int (of_decide_eq_true k2) ⟨.str _, H, I.tok _, ⟨_, rfl⟩, q⟩
  | str x =>
    rw [show v = _ from hd] at r1
    obtain ⟨t, rfl⟩ := r1
    exact PySem.P.repr_of_str ⟨.str _, H, I.tok _, ⟨_, rfl⟩, q⟩ k5
  | tup es =>
    obtain ⟨a, xs, rfl, _⟩ := hd
    exact big a r1
  | lst es =>
    obtain ⟨a, xs, rfl, _⟩ := hd
    exact big a r1
  | fz es =>
    obtain ⟨a, xs, rfl, _⟩ := hd
    exact big a r1
  | ty n => cases k1
  | ref n => cases k1
end
end Dy

/-! text Dy4 -/
set_option maxHeartbeats 1000000
namespace Dy
open PySem PySem.Spec PyProof.Rows L2
/-! ### targets -/
inductive Tg where
  | nm (i : Nat) | tp (ts : List Tg)
mutual
def bindT : Tg → D → RHO → Option RHO
  | .nm i, d, ρ => some (ρ.set i (some d))
  | .tp ts, d, ρ => match d with
    | .tup ds => bindTs ts ds ρ
    | _ => none
def bindTs : List Tg → List D → RHO → Option RHO
  | [], [], ρ => some ρ
  | t :: ts, d :: ds, ρ => (match bindT t d ρ with
    | some ρ1 => bindTs ts ds ρ1
    | none => none)
  | _, _, _ => none
end
mutual
/-- the slots of a target -/
def Tg.at_ : Tg → List Nat
  | .nm i => [i]
  | .tp ts => atsT ts
def atsT : List Tg → List Nat
  | [] => []
  | t :: ts => t.at_ ++ atsT ts
end
mutual
/-- a target's reading in the hand layer -/
def tT (K : PySem.W.Frag) : Tg → TG
  | .nm i => gName i
  | .tp ts => gTup K ts.length (tTs K ts)
def tTs (K : PySem.W.Frag) : List Tg → TGs
  | [] => gNil
  | t :: ts => gCons (tT K t) (tTs K ts)
end
theorem wipe_get {σ : L2.St} {j : Nat} : ∀ (vs : List Nat), (wipe σ vs)[j]? = if j ∈ vs then (if j < σ.length then some none else none) else σ[j]?
  | [] => by simp [wipe]
  | v :: vs => by
    unfold wipe
    by_cases h : v = j
    · subst h
      rw [List.getElem?_set_self']
      have hl := wipe_length σ vs
      by_cases hz : v < σ.length
      · simp [hl, hz]
      · simp [hl, hz]
    · rw [List.getElem?_set_ne h, wipe_get vs]
      have e : (j ∈ v :: vs) = (j ∈ vs) := by
        simp only [List.mem_cons, eq_iff_iff]
        exact ⟨fun q => q.elim (fun z => absurd z.symm h) id, .inr⟩
      simp only [e]
theorem wipe_set {σ : L2.St} {i : Nat} {x : Option V} {vs : List Nat} (h : i ∈ vs) : wipe (σ.set i x) vs = wipe σ vs := by
  apply List.ext_getElem?
  intro j
  rw [wipe_get, wipe_get, List.length_set]
  by_cases hj : j ∈ vs
  · rw [if_pos hj, if_pos hj]
  · rw [if_neg hj, if_neg hj, List.getElem?_set_ne fun e => hj (by rw [← e]; exact h)]
mutual
theorem bind_ok {K : PySem.W.Frag} {ps : Ps} {H : Hp} : ∀ (t : Tg) {d : D} {v : V} {ρ ρ1 : RHO} {σ : L2.St} {Q : L2.St → Hp → Prop}, RD K ps H d v → Rel K ps H ρ σ → bindT t d ρ = some ρ1 →
    (∀ σ1, Rel K ps H ρ1 σ1 → (∀ vs, (∀ i ∈ t.at_, i ∈ vs) → wipe σ1 vs = wipe σ vs) → Q σ1 H) → tT K t v σ H Q
  | .nm i, d, v, ρ, ρ1, σ, Q, rd, r, e, k => by
    have e := Option.some.inj e
    subst e
    exact k _ (r.set i rd) fun vs h => wipe_set (h i (List.mem_singleton.mpr rfl))
  | .tp ts, d, v, ρ, ρ1, σ, Q, rd, r, e, k => by
    cases d with
    | tup ds =>
      obtain ⟨a, xs, rfl, h1, h2⟩ := rd
      have hl := bindTs_len ts e
      exact ⟨a, xs, rfl, h1.1, by rw [← h2.length, ← hl], binds_ok ts h2 r e k⟩
    | _ => exact nomatch (show none = some ρ1 from e)
theorem binds_ok {K : PySem.W.Frag} {ps : Ps} {H : Hp} : ∀ (ts : List Tg) {ds : List D} {vs : List V} {ρ ρ1 : RHO} {σ : L2.St} {Q : L2.St → Hp → Prop}, RDs K ps H ds vs → Rel K ps H ρ σ → bindTs ts ds ρ = some ρ1 →
    (∀ σ1, Rel K ps H ρ1 σ1 → (∀ vs, (∀ i ∈ atsT ts, i ∈ vs) → wipe σ1 vs = wipe σ vs) → Q σ1 H) → tTs K ts vs σ H Q
  | [], [], vs, ρ, ρ1, σ, Q, rs, r, e, k => by
    have e := Option.some.inj e
    subst e
    exact ⟨rs, k σ r fun _ _ => rfl⟩
  | t :: ts, d :: ds, vs, ρ, ρ1, σ, Q, rs, r, e, k => by
    obtain ⟨v, w, rfl, r1, r2⟩ := rs
    have e : (match bindT t d ρ with | some ρ1 => bindTs ts ds ρ1 | none => none) = some ρ1 := e
    cases q : bindT t d ρ with
    | none => rw [q] at e; cases e
    | some ρ2 =>
      rw [q] at e
      exact ⟨v, w, rfl, bind_ok t r1 r q fun σ1 rr w1 => binds_ok ts r2 rr e fun σ2 rr2 w2 => k σ2 rr2 fun vs h => (w2 vs fun i hi => h i (List.mem_append_right _ hi)).trans (w1 vs fun i hi => h i (List.mem_append_left _ hi))⟩
  | [], _ :: _, _, _, _, _, _, _, _, e, _ => nomatch e
  | _ :: _, [], _, _, _, _, _, _, _, e, _ => nomatch e
theorem bindTs_len : ∀ (ts : List Tg) {ds : List D} {ρ ρ1 : RHO}, bindTs ts ds ρ = some ρ1 → ts.length = ds.length
  | [], [], _, _, _ => rfl
  | t :: ts, d :: ds, ρ, ρ1, e => by
    have e : (match bindT t d ρ with | some ρ1 => bindTs ts ds ρ1 | none => none) = some ρ1 := e
    cases q : bindT t d ρ with
    | none => rw [q] at e; cases e
    | some ρ2 =>
      rw [q] at e
      rw [List.length_cons, List.length_cons, bindTs_len ts e]
  | [], _ :: _, _, _, e => nomatch e
  | _ :: _, [], _, _, e => nomatch e
end
/-- what follows a target -/
def onT (t : Tg) (d : D) (ρ : RHO) (Q : RHO → Prop) : Prop := match bindT t d ρ with
  | some ρ1 => Q ρ1
  | none => False
theorem onT_of {t : Tg} {d : D} {ρ : RHO} {Q : RHO → Prop} (h : onT t d ρ Q) : ∃ ρ1, bindT t d ρ = some ρ1 ∧ Q ρ1 := by
  unfold onT at h
  cases q : bindT t d ρ with
  | none => rw [q] at h; exact h.elim
  | some ρ1 => rw [q] at h; exact ⟨ρ1, rfl, h⟩
def EndG (K : PySem.W.Frag) (ps : Ps) (H : Hp) (Qd : RHO → GP → Prop) (Q : L2.St → Hp → Prop) : Prop := ∀ σ' H' ρ' ps' G', Rel K ps' H' ρ' σ' → Mod K ps' H' G' → Step ps H ps' H' → Qd ρ' G' → Q σ' H'
theorem EndG.at {K : PySem.W.Frag} {ps ps1 : Ps} {H H1 : Hp} {Qd : RHO → GP → Prop} {Q : L2.St → Hp → Prop} (f : EndG K ps H Qd Q) (s : Step ps H ps1 H1) : EndG K ps1 H1 Qd Q := fun σ' H' ρ' ps' G' a b c q => f σ' H' ρ' ps' G' a b (s.trans c) q

/-! ### loose steps: a held-back list may change, new addresses may be held back -/
structure Loose (ps : Ps) (H : Hp) (ps' : Ps) (H' : Hp) : Prop where
  ext : ∃ new nh, ps' = ⟨ps.cs ++ new, nh ++ ps.hs⟩ ∧ (∀ a ∈ new, H a = none) ∧ ∀ a ∈ nh, H a = none
  keep : ∀ a o, H a = some o → (a ∉ ps.cs ∧ a ∉ ps.hs) ∨ Fixd o → H' a = some o
  there : ∀ a, H a ≠ none → H' a ≠ none
theorem Step.loose {ps ps' : Ps} {H H' : Hp} (s : Step ps H ps' H') : Loose ps H ps' H' := by
  obtain ⟨n, rfl, f⟩ := s.ext
  refine ⟨⟨n, [], rfl, f, by simp⟩, fun a o e h => s.keep a o e (h.imp And.left id), fun a ha => ?_⟩
  by_cases hm : a ∈ ps.cs
  · exact s.there a hm ha
  · cases q : H a with
    | none => exact absurd q ha
    | some o => rw [s.keep a o q (.inl hm)]; simp
theorem Loose.refl (ps : Ps) (H : Hp) : Loose ps H ps H := (Step.refl ps H).loose
theorem Loose.trans {ps ps1 ps2 : Ps} {H H1 H2 : Hp} (a : Loose ps H ps1 H1) (b : Loose ps1 H1 ps2 H2) : Loose ps H ps2 H2 := by
  obtain ⟨n1, k1, rfl, f1, g1⟩ := a.ext
  obtain ⟨n2, k2, rfl, f2, g2⟩ := b.ext
  have old : ∀ c, H1 c = none → H c = none := fun c z => by
    cases q : H c with
    | none => rfl
    | some o => exact absurd z (a.there c (by rw [q]; simp))
  refine ⟨⟨n1 ++ n2, k2 ++ k1, by simp only [List.append_assoc], fun c hc => ?_, fun c hc => ?_⟩, fun c o e h => b.keep c o (a.keep c o e h) ?_, fun c hc => b.there c (a.there c hc)⟩
  · rcases List.mem_append.mp hc with hc | hc
    · exact f1 c hc
    · exact old c (f2 c hc)
  · rcases List.mem_append.mp hc with hc | hc
    · exact old c (g2 c hc)
    · exact g1 c hc
  · rcases h with ⟨h1, h2⟩ | h
    · refine .inl ⟨fun hm => ?_, fun hm => ?_⟩
      · rcases List.mem_append.mp hm with hm | hm
        · exact h1 hm
        · rw [f1 c hm] at e
          cases e
      · rcases List.mem_append.mp hm with hm | hm
        · rw [g1 c hm] at e
          cases e
        · exact h2 hm
    · exact .inr h
theorem sqT_loose {K : PySem.W.Frag} {ps ps' : Ps} {H H' : Hp} {a : Addr} {xs : List V} (s : Loose ps H ps' H') (h : SqT K H a xs) : SqT K H' a xs := by
  rcases h with (h | ⟨o, h⟩) | h
  · exact .inl (.inl (s.keep _ _ h (.inr True.intro)))
  · exact .inl (.inr ⟨o, s.keep _ _ h (.inr True.intro)⟩)
  · exact .inr h
theorem fzL_loose {K : PySem.W.Frag} {ps ps' : Ps} {H H' : Hp} {a : Addr} {xs : List V} (s : Loose ps H ps' H') (h : FzL K H a xs) : FzL K H' a xs := by
  rcases h with ⟨o, h⟩ | h
  · exact .inl ⟨o, s.keep _ _ h (.inr True.intro)⟩
  · exact .inr h
theorem lst_loose {ps ps' : Ps} {H H' : Hp} {a : Addr} {xs : List V} (s : Loose ps H ps' H') (h : H a = some (.lst xs) ∧ a ∉ ps.cs ∧ a ∉ ps.hs ∧ xs.length ≤ sizeLine) : H' a = some (.lst xs) ∧ a ∉ ps'.cs ∧ a ∉ ps'.hs ∧ xs.length ≤ sizeLine := by
  obtain ⟨new, nh, rfl, hn, hh⟩ := s.ext
  refine ⟨s.keep _ _ h.1 (.inl ⟨h.2.1, h.2.2.1⟩), fun m => ?_, fun m => ?_, h.2.2.2⟩
  · rcases List.mem_append.mp m with m | m
    · exact h.2.1 m
    · rw [hn a m] at h
      cases h.1
  · rcases List.mem_append.mp m with m | m
    · rw [hh a m] at h
      cases h.1
    · exact h.2.2.1 m
mutual
theorem RD.loose {K : PySem.W.Frag} {ps ps' : Ps} {H H' : Hp} (s : Loose ps H ps' H') : ∀ (d : D) {v : V}, RD K ps H d v → RD K ps' H' d v
  | .non, _, h => h
  | .bl _, _, h => h
  | .int _, _, h => h
  | .str _, _, h => h
  | .ty _, _, h => h
  | .ref n, _, h => by
    obtain ⟨a, e, rfl⟩ := h
    obtain ⟨new, _, rfl, _⟩ := s.ext
    refine ⟨a, ?_, rfl⟩
    have := (List.getElem?_eq_some_iff.mp e).1
    rw [List.getElem?_append_left this]
    exact e
  | .tup ds, _, h => by
    obtain ⟨a, xs, rfl, h1, h2⟩ := h
    exact ⟨a, xs, rfl, ⟨sqT_loose s h1.1, h1.2⟩, RDs.loose s ds h2⟩
  | .lst ds, _, h => by
    obtain ⟨a, xs, rfl, h1, h2⟩ := h
    exact ⟨a, xs, rfl, lst_loose s h1, RDs.loose s ds h2⟩
  | .fz ds, _, h => by
    obtain ⟨a, xs, rfl, h1, h2⟩ := h
    exact ⟨a, xs, rfl, ⟨fzL_loose s h1.1, h1.2⟩, RDs.loose s ds h2⟩
theorem RDs.loose {K : PySem.W.Frag} {ps ps' : Ps} {H H' : Hp} (s : Loose ps H ps' H') : ∀ (ds : List D) {vs : List V}, RDs K ps H ds vs → RDs K ps' H' ds vs
  | [], _, h => h
  | d :: ds, _, h => by
    obtain ⟨v, r, rfl, h1, h2⟩ := h
    exact ⟨v, r, rfl, RD.loose s d h1, RDs.loose s ds h2⟩
end
mutual
/-- what is held back is forgotten -/
theorem RD.less {K : PySem.W.Frag} {cs hs ks : List Addr} {H : Hp} (s : ∀ a ∈ ks, a ∈ hs) : ∀ (d : D) {v : V}, RD K ⟨cs, hs⟩ H d v → RD K ⟨cs, ks⟩ H d v
  | .non, _, h => h
  | .bl _, _, h => h
  | .int _, _, h => h
  | .str _, _, h => h
  | .ty _, _, h => h
  | .ref n, _, h => h
  | .tup ds, _, h => by
    obtain ⟨a, xs, rfl, h1, h2⟩ := h
    exact ⟨a, xs, rfl, h1, RDs.less s ds h2⟩
  | .lst ds, _, h => by
    obtain ⟨a, xs, rfl, ⟨h1, h2, h3, h4⟩, h5⟩ := h
    exact ⟨a, xs, rfl, ⟨h1, h2, fun m => h3 (s a m), h4⟩, RDs.less s ds h5⟩
  | .fz ds, _, h => by
    obtain ⟨a, xs, rfl, h1, h2⟩ := h
    exact ⟨a, xs, rfl, h1, RDs.less s ds h2⟩
theorem RDs.less {K : PySem.W.Frag} {cs hs ks : List Addr} {H : Hp} (s : ∀ a ∈ ks, a ∈ hs) : ∀ (ds : List D) {vs : List V}, RDs K ⟨cs, hs⟩ H ds vs → RDs K ⟨cs, ks⟩ H ds vs
  | [], _, h => h
  | d :: ds, _, h => by
    obtain ⟨v, r, rfl, h1, h2⟩ := h
    exact ⟨v, r, rfl, RD.less s d h1, RDs.less s ds h2⟩
end
theorem Mod.less {K : PySem.W.Frag} {cs hs ks : List Addr} {H : Hp} {G : GP} (s : ∀ a ∈ ks, a ∈ hs) (m : Mod K ⟨cs, hs⟩ H G) : Mod K ⟨cs, ks⟩ H G :=
  ⟨m.len, m.nd, fun a ha => m.hid a (s a ha), fun n c a h1 h2 => by
    have q := m.at_ n c a h1 h2
    cases c with
    | lst ds => obtain ⟨xs, e, z, r⟩ := q; exact ⟨xs, e, z, RDs.less s ds r⟩
    | nums n => exact q⟩
/-- a new list, held back -/
theorem Loose.hold {ps : Ps} {H : Hp} {p : Addr} {o : HO} (h : H p = none) : Loose ps H ⟨ps.cs, p :: ps.hs⟩ (upd H p o) :=
  ⟨⟨[], [p], by simp, by simp, fun a ha => by rw [List.mem_singleton.mp ha]; exact h⟩, fun a u e _ => by rw [upd_ne (ne_of_none e h)]; exact e, fun a ha => by
    by_cases z : a = p
    · rw [z, upd_same]; simp
    · rw [upd_ne z]; exact ha⟩
/-- .. and written at -/
theorem Loose.hwrite {ps : Ps} {H : Hp} {p : Addr} {xs ys : List V} (hp : p ∈ ps.hs) (h : H p = some (.lst xs)) : Loose ps H ps (upd H p (.lst ys)) := by
  refine ⟨⟨[], [], by simp, by simp, by simp⟩, fun a u e k => ?_, fun a ha => ?_⟩
  · by_cases z : a = p
    · subst z
      rw [h] at e
      cases e
      rcases k with k | k
      · exact absurd hp k.2
      · exact absurd k (by simp [Fixd])
    · rw [upd_ne z]; exact e
  · by_cases z : a = p
    · rw [z, upd_same]; simp
    · rw [upd_ne z]; exact ha
theorem RC.loose {K : PySem.W.Frag} {ps ps' : Ps} {H H' : Hp} (s : Loose ps H ps' H') {c : Cell} {a : Addr} (e : H' a = H a) (h : RC K ps H c a) : RC K ps' H' c a := by
  cases c with
  | lst ds => obtain ⟨xs, q, z, r⟩ := h; exact ⟨xs, e.trans q, z, RDs.loose s ds r⟩
  | nums n => obtain ⟨ns, l, q⟩ := h; exact ⟨ns, l, e.trans q⟩
theorem Mod.hold {K : PySem.W.Frag} {ps : Ps} {H : Hp} {G : GP} {p : Addr} {xs : List V} (m : Mod K ps H G) (h : H p = none) : Mod K ⟨ps.cs, p :: ps.hs⟩ (upd H p (.lst xs)) G := by
  refine ⟨m.len, m.nd, fun a ha => ?_, fun n c a h1 h2 => ?_⟩
  · rcases List.mem_cons.mp ha with rfl | ha
    · exact ⟨(not_in m h).1, xs, upd_same⟩
    · obtain ⟨h1, ys, h2⟩ := m.hid a ha
      exact ⟨h1, ys, by rw [upd_ne (ne_of_none h2 h)]; exact h2⟩
  · have q := m.at_ n c a h1 h2
    obtain ⟨ys, e⟩ := q.is
    exact q.loose (Loose.hold h) (upd_ne (ne_of_none e h))
theorem Mod.hwrite {K : PySem.W.Frag} {ps : Ps} {H : Hp} {G : GP} {p : Addr} {xs ys : List V} (m : Mod K ps H G) (hp : p ∈ ps.hs) (h : H p = some (.lst xs)) : Mod K ps (upd H p (.lst ys)) G := by
  have hc := (m.hid p hp).1
  refine ⟨m.len, m.nd, fun a ha => ?_, fun n c a h1 h2 => ?_⟩
  · obtain ⟨h1, zs, h2⟩ := m.hid a ha
    by_cases z : a = p
    · exact ⟨h1, ys, by rw [z, upd_same]⟩
    · exact ⟨h1, zs, by rw [upd_ne z]; exact h2⟩
  · have q := m.at_ n c a h1 h2
    exact q.loose (Loose.hwrite hp h) (upd_ne fun e => hc (by rw [← e]; exact List.mem_of_getElem? h2))
theorem Rel.loose {K : PySem.W.Frag} {ps ps' : Ps} {H H' : Hp} {ρ : RHO} {σ : L2.St} (r : Rel K ps H ρ σ) (s : Loose ps H ps' H') : Rel K ps' H' ρ σ :=
  ⟨r.len, fun i d e => let ⟨v, h1, h2⟩ := r.at_ i d e; ⟨v, h1, RD.loose s d h2⟩⟩

/-! ### what is walked -/
abbrev WI := RHO → GP → (List D → GP → Prop) → Prop
/-- the iterator yields the data one behind the other -/
def Walks (K : PySem.W.Frag) (ps0 : Ps) (H0 : Hp) (J : It) (ds : List D) : Prop :=
  ∀ (i : Nat) (ps : Ps) (H : Hp), Loose ps0 H0 ps H → (i < ds.length → J.go i H ∧ ∀ x H', J.yld i H x H' → ∃ d, ds[i]? = some d ∧ RD K ps H' d x ∧ Step ps H ps H' ∧ ∀ G, Mod K ps H G → Mod K ps H' G) ∧ (ds.length ≤ i → J.stop i H)
def EndI (K : PySem.W.Frag) (ps : Ps) (H : Hp) (Qd : List D → GP → Prop) (R : It → Hp → Prop) : Prop := ∀ J H' ds ps' G', Walks K ps' H' J ds → ds.length ≤ sizeLine → Mod K ps' H' G' → Step ps H ps' H' → Qd ds G' → R J H'
def lI (K : PySem.W.Frag) (w : WI) : TI := fun σ H R => ∃ ps ρ G Qd, Rel K ps H ρ σ ∧ Mod K ps H G ∧ w ρ G Qd ∧ EndI K ps H Qd R
theorem PI.imp {X : Cx} {tg e : Expr} {t t' : TI} (h : PI X tg e t) (k : ∀ σ H Q, t' σ H Q → t σ H Q) : PI X tg e t' := ⟨fun pins s σ H R I q => h.run pins s σ H R I (k σ H R q)⟩
theorem walks_list {K : PySem.W.Frag} {ps : Ps} {H : Hp} {a : Addr} {ds : List D} {xs : List V} (h : ∀ ps' H', Loose ps H ps' H' → SqL K H' a xs) (r : RDs K ps H ds xs) : Walks K ps H (Itl K a) ds := by
  intro i ps1 H1 s1
  have q := h ps1 H1 s1
  have r1 := RDs.loose s1 ds r
  refine ⟨fun hi => ?_, fun hi => ⟨xs, q, by rw [← r.length]; exact hi⟩⟩
  obtain ⟨v, e, rd⟩ := r1.get (List.getElem?_eq_getElem hi)
  refine ⟨⟨xs, v, q, e⟩, fun x H' ⟨y1, y2⟩ => ?_⟩
  subst y1
  have ex := (y2 xs q).symm.trans e
  cases ex
  exact ⟨_, List.getElem?_eq_getElem hi, rd, Step.refl _ _, fun G m => m⟩
theorem walks_tup {K : PySem.W.Frag} {ps : Ps} {H : Hp} {a : Addr} {ds : List D} {xs : List V} (h : SqT K H a xs) (r : RDs K ps H ds xs) : Walks K ps H (Itt K a) ds := by
  intro i ps1 H1 s1
  have q := sqT_loose s1 h
  have r1 := RDs.loose s1 ds r
  refine ⟨fun hi => ?_, fun hi => ⟨xs, q, by rw [← r.length]; exact hi⟩⟩
  obtain ⟨v, e, rd⟩ := r1.get (List.getElem?_eq_getElem hi)
  refine ⟨⟨xs, v, q, e⟩, fun x H' ⟨y1, y2⟩ => ?_⟩
  subst y1
  have ex := (y2 xs q).symm.trans e
  cases ex
  exact ⟨_, List.getElem?_eq_getElem hi, rd, Step.refl _ _, fun G m => m⟩
def rngD (lo : Int) (n : Nat) : List D := (List.range n).map fun i => .int (lo + (i : Nat))
theorem walks_rng {K : PySem.W.Frag} {ps : Ps} {H : Hp} (lo : Int) (n : Nat) : Walks K ps H (Itr lo n) (rngD lo n) := by
  intro i ps1 H1 s1
  have hl : (rngD lo n).length = n := by unfold rngD; simp
  refine ⟨fun hi => ⟨by rw [hl] at hi; exact hi, fun x H' ⟨y1, y2⟩ => ?_⟩, fun hi => by rw [hl] at hi; exact hi⟩
  rw [hl] at hi
  subst y1 y2
  refine ⟨.int (lo + (i : Nat)), ?_, rfl, Step.refl _ _, fun G m => m⟩
  unfold rngD
  rw [List.getElem?_map, List.getElem?_range hi]
  rfl
def pairs : List D → List D → List D
  | d :: ds, e :: es => .tup [d, e] :: pairs ds es
  | _, _ => []
theorem pairs_at : ∀ (ds es : List D) (i : Nat) (d e : D), ds[i]? = some d → es[i]? = some e → (pairs ds es)[i]? = some (.tup [d, e])
  | [], _, _, _, _, h, _ => by simp at h
  | _ :: _, [], _, _, _, _, h => by simp at h
  | d :: ds, e :: es, 0, _, _, h1, h2 => by simp at h1 h2; subst h1 h2; rfl
  | d :: ds, e :: es, i + 1, _, _, h1, h2 => pairs_at ds es i _ _ (by simpa using h1) (by simpa using h2)
theorem pairs_len : ∀ (ds es : List D), (pairs ds es).length = min ds.length es.length
  | [], _ => by simp [pairs]
  | _ :: _, [] => by simp [pairs]
  | d :: ds, e :: es => by
    show (pairs ds es).length + 1 = _
    rw [pairs_len ds es, List.length_cons, List.length_cons]
    omega
theorem walks_zipT {K : PySem.W.Frag} {ps : Ps} {H : Hp} {a b : Addr} {ds es : List D} {xs ys : List V} (ha : SqT K H a xs) (hb : SqT K H b ys) (r : RDs K ps H ds xs) (q : RDs K ps H es ys) : Walks K ps H (RZ.ItzT K a b) (pairs ds es) := by
  intro i ps1 H1 s1
  have ha := sqT_loose s1 ha
  have hb := sqT_loose s1 hb
  have r1 := RDs.loose s1 ds r
  have q1 := RDs.loose s1 es q
  have lr := r.length
  have lq := q.length
  rw [pairs_len]
  refine ⟨fun hi => ?_, fun hi => ⟨xs, ys, ha, hb, by omega⟩⟩
  have i1 : i < ds.length := by omega
  have i2 : i < es.length := by omega
  obtain ⟨v, e1, rd1⟩ := r1.get (List.getElem?_eq_getElem i1)
  obtain ⟨u, e2, rd2⟩ := q1.get (List.getElem?_eq_getElem i2)
  refine ⟨⟨xs, ys, v, u, ha, hb, e1, e2⟩, fun x H' ⟨T, x1, y1, hx, hT, hH, f1, f2⟩ => ?_⟩
  subst hx hH
  have z1 : x1 = v := Option.some.inj ((f1 xs ha).symm.trans e1)
  have z2 : y1 = u := Option.some.inj ((f2 ys hb).symm.trans e2)
  subst z1 z2
  have sN : Step ps1 H1 ps1 (upd H1 T (.tup [x1, y1])) := Step.new hT
  exact ⟨.tup [ds[i], es[i]], pairs_at ds es i _ _ (List.getElem?_eq_getElem i1) (List.getElem?_eq_getElem i2), ⟨T, [x1, y1], rfl, ⟨.inl (.inl upd_same), by show 2 ≤ sizeLine; decide⟩, ⟨x1, [y1], rfl, RD.step sN _ rd1, y1, [], rfl, RD.step sN _ rd2, rfl⟩⟩, sN, fun G m => m.new hT⟩
theorem walks_zipL {K : PySem.W.Frag} {ps : Ps} {H : Hp} {a b : Addr} {ds es : List D} {xs ys : List V} (ha : ∀ ps' H', Loose ps H ps' H' → SqL K H' a xs) (hb : ∀ ps' H', Loose ps H ps' H' → SqL K H' b ys) (r : RDs K ps H ds xs) (q : RDs K ps H es ys) : Walks K ps H (Itz K a b) (pairs ds es) := by
  intro i ps1 H1 s1
  have ha := ha ps1 H1 s1
  have hb := hb ps1 H1 s1
  have r1 := RDs.loose s1 ds r
  have q1 := RDs.loose s1 es q
  have lr := r.length
  have lq := q.length
  rw [pairs_len]
  refine ⟨fun hi => ?_, fun hi => ⟨xs, ys, ha, hb, by omega⟩⟩
  have i1 : i < ds.length := by omega
  have i2 : i < es.length := by omega
  obtain ⟨v, e1, rd1⟩ := r1.get (List.getElem?_eq_getElem i1)
  obtain ⟨u, e2, rd2⟩ := q1.get (List.getElem?_eq_getElem i2)
  refine ⟨⟨xs, ys, v, u, ha, hb, e1, e2⟩, fun x H' ⟨T, x1, y1, hx, hT, hH, f1, f2⟩ => ?_⟩
  subst hx hH
  have z1 : x1 = v := Option.some.inj ((f1 xs ha).symm.trans e1)
  have z2 : y1 = u := Option.some.inj ((f2 ys hb).symm.trans e2)
  subst z1 z2
  have sN : Step ps1 H1 ps1 (upd H1 T (.tup [x1, y1])) := Step.new hT
  exact ⟨.tup [ds[i], es[i]], pairs_at ds es i _ _ (List.getElem?_eq_getElem i1) (List.getElem?_eq_getElem i2), ⟨T, [x1, y1], rfl, ⟨.inl (.inl upd_same), by show 2 ≤ sizeLine; decide⟩, ⟨x1, [y1], rfl, RD.step sN _ rd1, y1, [], rfl, RD.step sN _ rd2, rfl⟩⟩, sN, fun G m => m.new hT⟩
def enumD (ds : List D) : List D := pairs (rngD 0 ds.length) ds
theorem walks_enum {K : PySem.W.Frag} {ps : Ps} {H : Hp} {a : Addr} {ds : List D} {xs : List V} (ha : ∀ ps' H', Loose ps H ps' H' → SqL K H' a xs) (r : RDs K ps H ds xs) : Walks K ps H (Ite K a) (enumD ds) := by
  intro i ps1 H1 s1
  have ha := ha ps1 H1 s1
  have r1 := RDs.loose s1 ds r
  have lr := r.length
  have ll : (rngD 0 ds.length).length = ds.length := by unfold rngD; simp
  have le : (enumD ds).length = ds.length := by unfold enumD; rw [pairs_len, ll]; omega
  rw [le]
  refine ⟨fun hi => ?_, fun hi => ⟨xs, ha, by omega⟩⟩
  obtain ⟨v, e1, rd1⟩ := r1.get (List.getElem?_eq_getElem hi)
  refine ⟨⟨xs, v, ha, e1⟩, fun x H' ⟨T, x1, hx, hT, hH, f1⟩ => ?_⟩
  subst hx hH
  have z1 : x1 = v := Option.some.inj ((f1 xs ha).symm.trans e1)
  subst z1
  have sN : Step ps1 H1 ps1 (upd H1 T (.tup [.int (i : Nat), x1])) := Step.new hT
  have ei : (rngD 0 ds.length)[i]? = some (.int (i : Nat)) := by
    unfold rngD
    rw [List.getElem?_map, List.getElem?_range hi]
    simp
  exact ⟨.tup [.int (i : Nat), ds[i]], pairs_at _ ds i _ _ ei (List.getElem?_eq_getElem hi), ⟨T, [.int (i : Nat), x1], rfl, ⟨.inl (.inl upd_same), by show 2 ≤ sizeLine; decide⟩, ⟨.int (i : Nat), [x1], rfl, rfl, x1, [], rfl, RD.step sN _ rd1, rfl⟩⟩, sN, fun G m => m.new hT⟩
/-- a list that no cell is -/
def fixL : D → Option (List D)
  | .lst ds => some ds
  | .fz ds => some ds
  | _ => none
theorem fix_sq {K : PySem.W.Frag} {ps : Ps} {H : Hp} {d : D} {ds : List D} {v : V} (h : RD K ps H d v) (e : fixL d = some ds) : ∃ a xs, v = .ref a ∧ (∀ ps' H', Loose ps H ps' H' → SqL K H' a xs) ∧ xs.length ≤ sizeLine ∧ RDs K ps H ds xs := by
  cases d with
  | lst es =>
    cases e
    obtain ⟨a, xs, e, h1, h2⟩ := h
    exact ⟨a, xs, e, fun ps' H' s => .inl (.inl (lst_loose s h1).1), h1.2.2.2, h2⟩
  | fz es =>
    cases e
    obtain ⟨a, xs, e, h1, h2⟩ := h
    exact ⟨a, xs, e, fun ps' H' s => (fzL_loose s h1.1).sq, h1.2, h2⟩
  | _ => cases e
end Dy

/-! text Dy5 -/
set_option maxHeartbeats 1000000
namespace Dy
open PySem PySem.Spec PyProof.Rows L2
section
variable {X : Cx} {pos : Pos}
/-! ### iterables -/
def wiL (wa : WE) : WI := fun ρ G Q => wa ρ G fun d G1 => match fixL d with
  | some ds => Q ds G1
  | none => False
def wiT (wa : WE) : WI := fun ρ G Q => wa ρ G fun d G1 => match d with
  | .tup ds => Q ds G1
  | _ => False
theorem wiL_of {d : D} {G : GP} {Q : List D → GP → Prop} (h : match fixL d with | some ds => Q ds G | none => False) : ∃ ds, fixL d = some ds ∧ Q ds G := by
  cases q : fixL d with
  | none => rw [q] at h; exact h.elim
  | some ds => rw [q] at h; exact ⟨ds, rfl, h⟩
theorem wiT_of {d : D} {G : GP} {Q : List D → GP → Prop} (h : match d with | .tup ds => Q ds G | _ => False) : ∃ ds, d = .tup ds ∧ Q ds G := by
  split at h
  · exact ⟨_, rfl, h⟩
  · exact h.elim
theorem i_list {tg e : Expr} {wa : WE} (he : PE X e (lE X.K wa)) : PI X tg e (lI X.K (wiL wa)) :=
  PI.imp (pi_list he) fun σ H R ⟨ps, ρ, G, Qd, r, m, h, f⟩ => lE_go r m h fun x H1 dx ps1 G1 rx m1 s1 r1 q1 => by
    obtain ⟨ds, e1, q⟩ := wiL_of q1
    obtain ⟨a, xs, rfl, h1, hz, h2⟩ := fix_sq rx e1
    exact ⟨a, rfl, ⟨xs, h1 ps1 H1 (Loose.refl _ _)⟩, f _ H1 ds ps1 G1 (walks_list h1 h2) (by rw [h2.length]; exact hz) m1 s1 q⟩
theorem i_tup {tg e : Expr} {wa : WE} (he : PE X e (lE X.K wa)) : PI X tg e (lI X.K (wiT wa)) :=
  PI.imp (pi_tup he) fun σ H R ⟨ps, ρ, G, Qd, r, m, h, f⟩ => lE_go r m h fun x H1 dx ps1 G1 rx m1 s1 r1 q1 => by
    obtain ⟨ds, rfl, q⟩ := wiT_of q1
    obtain ⟨a, xs, rfl, h1, h2⟩ := rx
    exact ⟨a, rfl, ⟨xs, h1.1⟩, f _ H1 ds ps1 G1 (walks_tup h1.1 h2) (by rw [h2.length]; exact h1.2) m1 s1 q⟩
def wiR1 (wa : WA) : WI := fun ρ G Q => wa ρ G fun ds G1 => match ds with
  | [.int j] => (-(2 ^ 62) ≤ j ∧ j ≤ sizeLine) ∧ Q (rngD 0 j.toNat) G1
  | _ => False
def wiR2 (wa : WA) : WI := fun ρ G Q => wa ρ G fun ds G1 => match ds with
  | [.int i, .int j] => (-(2 ^ 61) ≤ i ∧ i < 2 ^ 61 ∧ -(2 ^ 61) ≤ j ∧ j - i ≤ sizeLine) ∧ Q (rngD i (j - i).toNat) G1
  | _ => False
theorem wiR1_of {ds : List D} {G : GP} {Q : List D → GP → Prop} (h : match ds with | [.int j] => (-(2 ^ 62) ≤ j ∧ j ≤ sizeLine) ∧ Q (rngD 0 j.toNat) G | _ => False) : ∃ j : Int, ds = [.int j] ∧ (-(2 ^ 62) ≤ j ∧ j ≤ sizeLine) ∧ Q (rngD 0 j.toNat) G := by
  split at h
  · exact ⟨_, rfl, h⟩
  · exact h.elim
theorem wiR2_of {ds : List D} {G : GP} {Q : List D → GP → Prop} (h : match ds with | [.int i, .int j] => (-(2 ^ 61) ≤ i ∧ i < 2 ^ 61 ∧ -(2 ^ 61) ≤ j ∧ j - i ≤ sizeLine) ∧ Q (rngD i (j - i).toNat) G | _ => False) :
    ∃ i j : Int, ds = [.int i, .int j] ∧ (-(2 ^ 61) ≤ i ∧ i < 2 ^ 61 ∧ -(2 ^ 61) ≤ j ∧ j - i ≤ sizeLine) ∧ Q (rngD i (j - i).toNat) G := by
  split at h
  · exact ⟨_, _, rfl, h⟩
  · exact h.elim
theorem rngD_len (lo : Int) (n : Nat) : (rngD lo n).length = n := by unfold rngD; simp
theorem size61 : (sizeLine : Int) < 2 ^ 61 := by rw [sizeLine_eq]; decide
theorem i_rng1 {tg a : Expr} {wa : WA} {p : Pos} (hg : Gl X "range") (hm : X.mg "range" = none) (ha : PA X [a] (lA X.K wa)) (hs : starEach [a] X.env = [(false, eval a X.env)]) :
    PI X tg (.Call (.Name "range" p) [a] [] pos) (lI X.K (wiR1 wa)) :=
  PI.imp (pi_range1 hg hm ha hs) fun σ H R ⟨ps, ρ, G, Qd, r, m, h, f⟩ => lA_go r m h fun vs H1 ds ps1 G1 rs m1 s1 r1 q1 => by
    obtain ⟨j, rfl, ⟨h1, h2⟩, q⟩ := wiR1_of q1
    obtain ⟨v, rfl, hv⟩ := one_of rs
    have h61 := size61
    exact ⟨j, by rw [show v = _ from hv], h1, by omega, f _ H1 _ ps1 G1 (walks_rng 0 j.toNat) (by rw [rngD_len]; omega) m1 s1 q⟩
theorem i_rng2 {tg a b : Expr} {wa : WA} {p : Pos} (hg : Gl X "range") (hm : X.mg "range" = none) (ha : PA X [a, b] (lA X.K wa)) (hs : starEach [a, b] X.env = [(false, eval a X.env), (false, eval b X.env)]) (hs2 : starEach [b] X.env = [(false, eval b X.env)]) :
    PI X tg (.Call (.Name "range" p) [a, b] [] pos) (lI X.K (wiR2 wa)) :=
  PI.imp (pi_range2 hg hm ha hs hs2) fun σ H R ⟨ps, ρ, G, Qd, r, m, h, f⟩ => lA_go r m h fun vs H1 ds ps1 G1 rs m1 s1 r1 q1 => by
    obtain ⟨i, j, rfl, ⟨h1, h2, h3, h4⟩, q⟩ := wiR2_of q1
    obtain ⟨v, w, rfl, hv, hw⟩ := two_of rs
    have h61 := size61
    refine ⟨i, j, by rw [show v = _ from hv, show w = _ from hw], by omega, f _ H1 _ ps1 G1 (walks_rng i (j - i).toNat) (by rw [rngD_len]; omega) m1 s1 q⟩
/-- zip of two tuples, of two lists -/
def wiZ (wa : WA) : WI := fun ρ G Q => wa ρ G fun ds G1 => match ds with
  | [.tup as, .tup bs] => Q (pairs as bs) G1
  | [d, e] => (match fixL d, fixL e with
    | some as, some bs => Q (pairs as bs) G1
    | _, _ => False)
  | _ => False
theorem wiZ_of {ds : List D} {G : GP} {Q : List D → GP → Prop} (h : match ds with
  | [.tup as, .tup bs] => Q (pairs as bs) G
  | [d, e] => (match fixL d, fixL e with
    | some as, some bs => Q (pairs as bs) G
    | _, _ => False)
  | _ => False) : ∃ d e, ds = [d, e] ∧ ∃ as bs, ((d = .tup as ∧ e = .tup bs) ∨ (fixL d = some as ∧ fixL e = some bs)) ∧ Q (pairs as bs) G := by
  split at h
  · exact ⟨_, _, rfl, _, _, .inl ⟨rfl, rfl⟩, h⟩
  · split at h
    · rename_i e1 e2
      exact ⟨_, _, rfl, _, _, .inr ⟨e1, e2⟩, h⟩
    · exact h.elim
  · exact h.elim
theorem i_zip {e e2 : Expr} {wa : WA} {p tpos : Pos} {elts : List Expr} {kk : Nat} (hg : Gl X "zip") (hm : X.mg "zip" = none) (ha : PA X [e, e2] (lA X.K wa)) (hs : starEach [e, e2] X.env = (false, eval e X.env) :: starEach [e2] X.env) (hpl : (backTo pos (starEach [e2] X.env)).any (·.1) = false) :
    PI X (.Tuple elts kk tpos) (.Call (.Name "zip" p) [e, e2] [] pos) (lI X.K (wiZ wa)) :=
  PI.imp (RZ.pi_zipA hg hm ha hs hpl) fun σ H R ⟨ps, ρ, G, Qd, r, m, h, f⟩ => lA_go r m h fun vs H1 ds ps1 G1 rs m1 s1 r1 q1 => by
    obtain ⟨d1, d2, rfl, as, bs, hc, q⟩ := wiZ_of q1
    obtain ⟨v, w, rfl, hv, hw⟩ := two_of rs
    rcases hc with ⟨rfl, rfl⟩ | ⟨e1, e2⟩
    · obtain ⟨a, xs, rfl, h1, h2⟩ := hv
      obtain ⟨b, ys, rfl, h3, h4⟩ := hw
      have hz : as.length ≤ sizeLine := by rw [h2.length]; exact h1.2
      exact ⟨a, b, xs, ys, rfl, .inr ⟨h1.1, h3.1, f _ H1 _ ps1 G1 (walks_zipT h1.1 h3.1 h2 h4) (by rw [pairs_len]; omega) m1 s1 q⟩⟩
    · obtain ⟨a, xs, rfl, h1, hz1, h2⟩ := fix_sq hv e1
      obtain ⟨b, ys, rfl, h3, hz2, h4⟩ := fix_sq hw e2
      have hz : as.length ≤ sizeLine := by rw [h2.length]; exact hz1
      exact ⟨a, b, xs, ys, rfl, .inl ⟨h1 ps1 H1 (Loose.refl _ _), h3 ps1 H1 (Loose.refl _ _), f _ H1 _ ps1 G1 (walks_zipL h1 h3 h2 h4) (by rw [pairs_len]; omega) m1 s1 q⟩⟩
def wiE (wa : WA) : WI := fun ρ G Q => wa ρ G fun ds G1 => match ds with
  | [d] => (match fixL d with
    | some as => Q (enumD as) G1
    | _ => False)
  | _ => False
theorem wiE_of {ds : List D} {G : GP} {Q : List D → GP → Prop} (h : match ds with
  | [d] => (match fixL d with
    | some as => Q (enumD as) G
    | _ => False)
  | _ => False) : ∃ d, ds = [d] ∧ ∃ as, fixL d = some as ∧ Q (enumD as) G := by
  split at h
  · split at h
    · rename_i e1
      exact ⟨_, rfl, _, e1, h⟩
    · exact h.elim
  · exact h.elim
theorem i_enum {e : Expr} {wa : WA} {p tpos : Pos} {elts : List Expr} {kk : Nat} (hg : Gl X "enumerate") (hm : X.mg "enumerate" = none) (ha : PA X [e] (lA X.K wa)) (hs : starEach [e] X.env = [(false, eval e X.env)]) :
    PI X (.Tuple elts kk tpos) (.Call (.Name "enumerate" p) [e] [] pos) (lI X.K (wiE wa)) :=
  PI.imp (pi_enum hg hm ha hs) fun σ H R ⟨ps, ρ, G, Qd, r, m, h, f⟩ => lA_go r m h fun vs H1 ds ps1 G1 rs m1 s1 r1 q1 => by
    obtain ⟨d1, rfl, as, e1, q⟩ := wiE_of q1
    obtain ⟨v, rfl, hv⟩ := one_of rs
    obtain ⟨a, xs, rfl, h1, hz1, h2⟩ := fix_sq hv e1
    have hz : as.length ≤ sizeLine := by rw [h2.length]; exact hz1
    exact ⟨a, xs, rfl, h1 ps1 H1 (Loose.refl _ _), f _ H1 _ ps1 G1 (walks_enum h1 h2) (by unfold enumD; rw [pairs_len]; omega) m1 s1 q⟩
end

/-! ### statements -/
structure DEnds where
  nx : RHO → GP → Prop
  rt : D → GP → Prop
  bk : RHO → GP → Prop := fun _ _ => False
  ct : RHO → GP → Prop := fun _ _ => False
abbrev WS := DEnds → RHO → GP → Prop
structure EndS (K : PySem.W.Frag) (ps : Ps) (H : Hp) (De : DEnds) (E : Ends) : Prop where
  nx : EndG K ps H De.nx E.nx
  rt : EndE K ps H De.rt E.rt
  bk : EndG K ps H De.bk E.bk
  ct : EndG K ps H De.ct E.ct
def lS (K : PySem.W.Frag) (w : WS) : TS := fun E σ H => ∃ ps ρ G De, Rel K ps H ρ σ ∧ Mod K ps H G ∧ w De ρ G ∧ EndS K ps H De E
theorem EndS.at {K : PySem.W.Frag} {ps ps1 : Ps} {H H1 : Hp} {De : DEnds} {E : Ends} (f : EndS K ps H De E) (s : Step ps H ps1 H1) : EndS K ps1 H1 De E := ⟨f.nx.at s, f.rt.at s, f.bk.at s, f.ct.at s⟩
theorem PS.imp {X : Cx} {st : Stmt} {t t' : TS} (h : PS X st t) (k : ∀ E σ H, t' E σ H → t E σ H) : PS X st t' := ⟨fun pins s σ H E I q => h.run pins s σ H E I (k E σ H q)⟩
theorem PSs.imp {X : Cx} {st : List Stmt} {t t' : TS} (h : PSs X st t) (k : ∀ E σ H, t' E σ H → t E σ H) : PSs X st t' := ⟨fun pins s σ H E I q => h.run pins s σ H E I (k E σ H q)⟩
def wNext : WS := fun De ρ G => De.nx ρ G
def wSeq (t u : WS) : WS := fun De ρ G => t { De with nx := u De } ρ G
section
variable {X : Cx} {pos : Pos} {st : Stmt} {rest : List Stmt} {t u : WS} {e : Expr} {we : WE}
theorem s_nil : PSs X [] (lS X.K wNext) := PSs.imp pss_nil fun E σ H ⟨ps, ρ, G, De, r, m, h, f⟩ => f.nx σ H ρ ps G r m (Step.refl _ _) h
theorem s_cons (h1 : PS X st (lS X.K t)) (h2 : PSs X rest (lS X.K u)) : PSs X (st :: rest) (lS X.K (wSeq t u)) :=
  PSs.imp (pss_cons h1 h2) fun E σ H ⟨ps, ρ, G, De, r, m, h, f⟩ => ⟨ps, ρ, G, _, r, m, h, fun σ' H' ρ' ps' G' a b c q => ⟨ps', ρ', G', De, a, b, q, f.at c⟩, f.rt, f.bk, f.ct⟩
theorem s_one (h1 : PS X st (lS X.K t)) : PSs X [st] (lS X.K t) := pss_one h1
theorem s_never {w : WS} (h : ∀ De ρ G, ¬ w De ρ G) : PS X st (lS X.K w) := PS.imp (ps_never (st := st)) fun E σ H ⟨ps, ρ, G, De, r, m, q, f⟩ => h _ _ _ q
theorem s_expr (he : PE X e (lE X.K we)) (hs : swapsWith e none pos.line X.env = pure false) : PS X (.Expr e pos) (lS X.K fun De ρ G => we ρ G fun _ G1 => De.nx ρ G1) :=
  PS.imp (ps_expr he hs) fun E σ H ⟨ps, ρ, G, De, r, m, h, f⟩ => lE_go r m h fun x H1 dx ps1 G1 rx m1 s1 r1 q1 => f.nx σ H1 ρ ps1 G1 r1 m1 s1 q1
theorem s_ret (he : PE X e (lE X.K we)) : PS X (.Return (some e) pos) (lS X.K fun De ρ G => we ρ G De.rt) :=
  PS.imp (ps_ret he) fun E σ H ⟨ps, ρ, G, De, r, m, h, f⟩ => ⟨ps, ρ, G, De.rt, r, m, h, f.rt⟩
theorem s_retN : PS X (.Return none pos) (lS X.K fun De _ G => De.rt .non G) :=
  PS.imp ps_retN fun E σ H ⟨ps, ρ, G, De, r, m, h, f⟩ => f.rt _ H .non ps G rfl m (Step.refl _ _) h
theorem s_if {c : Expr} {a b : List Stmt} {wc : WT} (hc : PT X c (lT X.K wc)) (ha : PSs X a (lS X.K t)) (hb : PSs X b (lS X.K u)) : PS X (.If c a b pos) (lS X.K fun De ρ G => wc ρ G fun k G1 => if k = true then t De ρ G1 else u De ρ G1) :=
  PS.imp (ps_if hc ha hb) fun E σ H ⟨ps, ρ, G, De, r, m, h, f⟩ => lT_go r m h fun k H1 ps1 G1 m1 s1 r1 q1 => by
    cases k with
    | true => exact ⟨ps1, ρ, G1, De, r1, m1, q1, f.at s1⟩
    | false => exact ⟨ps1, ρ, G1, De, r1, m1, q1, f.at s1⟩
theorem s_asg {tg : Expr} {w : Tg} (he : PE X e (lE X.K we)) (hg : PG X tg (tT X.K w)) (hs : swapsWithSole [tg] e pos.line X.env = pure false) (hw : swappedStores [tg] e X.env = pure none) (h1 : (assignEach [tg] X.env).map (·.2) = [assign tg X.env]) :
    PS X (.Assign [tg] e pos) (lS X.K fun De ρ G => we ρ G fun d G1 => onT w d ρ fun ρ1 => De.nx ρ1 G1) :=
  PS.imp (ps_asg he hg hs hw h1) fun E σ H ⟨ps, ρ, G, De, r, m, h, f⟩ => lE_go r m h fun x H1 dx ps1 G1 rx m1 s1 r1 q1 => by
    obtain ⟨ρ1, e1, q⟩ := onT_of q1
    exact bind_ok w rx r1 e1 fun σ1 r2 _ => f.nx σ1 H1 ρ1 ps1 G1 r2 m1 s1 q
theorem s_set {i : Nat} {x : Str} {pos' : Pos} (hN : X.N.Nodup) (hi : X.N[i]? = some x) (hx : Loc X.env.scope x) (he : PE X e (lE X.K we)) (hs : swapsWith e (some (.Name x pos')) pos.line X.env = pure false) (hf : X.fn x = true ∨ X.env.scope.names.lookup x = some .local) :
    PS X (.Assign [.Name x pos'] e pos) (lS X.K fun De ρ G => we ρ G fun d G1 => De.nx (ρ.set i (some d)) G1) :=
  PS.imp (ps_set hN hi hx he hs hf) fun E σ H ⟨ps, ρ, G, De, r, m, h, f⟩ => lE_go r m h fun x H1 dx ps1 G1 rx m1 s1 r1 q1 => f.nx _ H1 _ ps1 G1 (r1.set i rx) m1 s1 q1
/-- a, b = x, y -/
def wPar (i j : Nat) (wa : WA) : WS := fun De ρ G => wa ρ G fun ds G1 => match ds with
  | [d, e] => De.nx ((ρ.set i (some d)).set j (some e)) G1
  | _ => False
theorem wPar_of {i j : Nat} {ρ : RHO} {ds : List D} {G : GP} {Q : RHO → GP → Prop} (h : match ds with | [d, e] => Q ((ρ.set i (some d)).set j (some e)) G | _ => False) : ∃ d e, ds = [d, e] ∧ Q ((ρ.set i (some d)).set j (some e)) G := by
  split at h
  · exact ⟨_, _, rfl, h⟩
  · exact h.elim
theorem s_par {i j : Nat} {x y : Str} {a b : Expr} {wa : WA} {px py pt : Pos} {kt k2 : Nat} {pt2 : Pos} (hc : X.calm = true) (hN : X.N.Nodup) (hi : X.N[i]? = some x) (hj : X.N[j]? = some y) (hij : i ≠ j)
    (hx : X.env.scope.names.lookup x = some .local) (hy : X.env.scope.names.lookup y = some .local) (ha : PA X [a, b] (lA X.K wa))
    (hw : swappedStores [.Tuple [.Name x px, .Name y py] kt pt] (.Tuple [a, b] k2 pt2) X.env = pure (some [x, y])) (hs : swapsWithSole [.Tuple [.Name x px, .Name y py] kt pt] (.Tuple [a, b] k2 pt2) pos.line X.env = pure false) :
    PS X (.Assign [.Tuple [.Name x px, .Name y py] kt pt] (.Tuple [a, b] k2 pt2) pos) (lS X.K (wPar i j wa)) :=
  PS.imp (ps_par hc hN hi hj hij hx hy ha hw hs) fun E σ H ⟨ps, ρ, G, De, r, m, h, f⟩ => lA_go r m h fun vs H1 ds ps1 G1 rs m1 s1 r1 q1 => by
    obtain ⟨d, e, rfl, q⟩ := wPar_of q1
    obtain ⟨v, w, rfl, hv, hw⟩ := two_of rs
    exact ⟨v, w, rfl, f.nx _ H1 _ ps1 G1 ((r1.set i hv).set j hw) m1 s1 q⟩
/-! loops -/
def forD (g : Tg) (wb : WS) (De : DEnds) : List D → RHO → GP → Prop
  | [], ρ, G => De.nx ρ G
  | d :: ds, ρ, G => onT g d ρ fun ρ1 => wb { De with nx := forD g wb De ds, ct := forD g wb De ds, bk := De.nx } ρ1 G
def wFor (wi : WI) (g : Tg) (wb : WS) : WS := fun De ρ G => wi ρ G fun ds G1 => forD g wb De ds ρ G1
theorem s_for {tg iter : Expr} {body : List Stmt} {wi : WI} {g : Tg} {wb : WS} (hp : PassesOwn (model X.prog X.w) X.A X.env X.xe) (hc : X.calm = true) (hi : PI X tg iter (lI X.K wi)) (hg : PG X tg (tT X.K g)) (hb : PSs X body (lS X.K wb)) (hs : ∀ x, foldedSetIterable iter X.env x = pure x) :
    PS X (.For tg iter body [] pos) (lS X.K (wFor wi g wb)) :=
  PS.imp (ps_for hp hc hi hg hb hs) fun E σ H ⟨ps, ρ, G, De, r, m, h, f⟩ => ⟨ps, ρ, G, _, r, m, h, fun J H1 ds ps1 G1 wk hz m1 s1 q1 => by
    have f1 := f.at s1
    refine ⟨fun i m σ' H' => m = ds.length - i ∧ i ≤ ds.length ∧ ∃ ps' ρ' G', Rel X.K ps' H' ρ' σ' ∧ Mod X.K ps' H' G' ∧ Step ps1 H1 ps' H' ∧ forD g wb De (ds.drop i) ρ' G', ⟨ds.length, by simp, Nat.zero_le _, ps1, ρ, G1, r.step s1, m1, Step.refl _ _, q1⟩, ?_⟩
    rintro i k σ' H' ⟨rfl, hi, ps', ρ', G', r', m', s', q'⟩
    obtain ⟨w1, w2⟩ := wk i ps' H' s'.loose
    by_cases hlt : i < ds.length
    · obtain ⟨go, y⟩ := w1 hlt
      refine .inr ⟨go, fun σ'' H'' => ∃ ps'' ρ'' G'', Rel X.K ps'' H'' ρ'' σ'' ∧ Mod X.K ps'' H'' G'' ∧ Step ps1 H1 ps'' H'' ∧ forD g wb De (ds.drop (i + 1)) ρ'' G'', fun σ'' H'' q => ⟨ds.length - (i + 1), by omega, rfl, hlt, q⟩, fun x H'' yx => ?_⟩
      obtain ⟨d, e, rd, sy, my⟩ := y x H'' yx
      have ed : ds.drop i = d :: ds.drop (i + 1) := by
        rw [List.drop_eq_getElem_cons hlt]
        congr 1
        rw [List.getElem?_eq_getElem hlt] at e
        exact Option.some.inj e
      rw [ed] at q'
      have q' : onT g d ρ' fun ρ1 => wb { De with nx := forD g wb De (ds.drop (i + 1)), ct := forD g wb De (ds.drop (i + 1)), bk := De.nx } ρ1 G' := q'
      obtain ⟨ρ1, e1, q2⟩ := onT_of q'
      have sA := s'.trans sy
      refine bind_ok g rd (r'.step sy) e1 fun σ2 r2 _ => ⟨ps', ρ1, G', _, r2, my G' m', q2, ?_⟩
      exact ⟨fun σ3 H3 ρ3 ps3 G3 a b c q => ⟨ps3, ρ3, G3, a, b, sA.trans c, q⟩, f1.rt.at sA, f1.nx.at sA, fun σ3 H3 ρ3 ps3 G3 a b c q => ⟨ps3, ρ3, G3, a, b, sA.trans c, q⟩⟩
    · have ei : ds.drop i = [] := List.drop_eq_nil_of_le (by omega)
      rw [ei] at q'
      exact .inl ⟨w2 (by omega), f1.nx σ' H' ρ' ps' G' r' m' s' q'⟩⟩
def whD (c : WT) (wb : WS) (De : DEnds) : Nat → RHO → GP → Prop
  | 0, _, _ => False
  | n + 1, ρ, G => c ρ G fun k G1 => if k = true then wb { De with nx := whD c wb De n, ct := whD c wb De n, bk := De.nx } ρ G1 else De.nx ρ G1
def wWh (c : WT) (wb : WS) : WS := fun De ρ G => ∃ n, whD c wb De n ρ G
theorem s_while {c : Expr} {body : List Stmt} {wc : WT} {wb : WS} (hp : PassesOwn (model X.prog X.w) X.A X.env X.xe) (hc : PT X c (lT X.K wc)) (hb : PSs X body (lS X.K wb)) : PS X (.While c body [] pos) (lS X.K (wWh wc wb)) :=
  PS.imp (ps_while hp hc hb) fun E σ H ⟨ps, ρ, G, De, r, m, ⟨n, h⟩, f⟩ => by
    refine ⟨fun n σ' H' => ∃ ps' ρ' G', Rel X.K ps' H' ρ' σ' ∧ Mod X.K ps' H' G' ∧ Step ps H ps' H' ∧ whD wc wb De n ρ' G', ⟨n, ps, ρ, G, r, m, Step.refl _ _, h⟩, ?_⟩
    rintro n σ' H' ⟨ps', ρ', G', r', m', s', q'⟩
    cases n with
    | zero => exact (show False from q').elim
    | succ n =>
      refine lT_go r' m' q' fun k H1 ps1 G1 m1 s1 r1 q1 => ?_
      have sA := s'.trans s1
      cases k with
      | true => exact ⟨fun σ'' H'' => ∃ ps'' ρ'' G'', Rel X.K ps'' H'' ρ'' σ'' ∧ Mod X.K ps'' H'' G'' ∧ Step ps H ps'' H'' ∧ whD wc wb De n ρ'' G'', fun σ'' H'' q => ⟨n, Nat.lt_succ_self _, q⟩, ps1, ρ', G1, _, r1, m1, q1,
          fun σ3 H3 ρ3 ps3 G3 a b c q => ⟨ps3, ρ3, G3, a, b, sA.trans c, q⟩, f.rt.at sA, f.nx.at sA, fun σ3 H3 ρ3 ps3 G3 a b c q => ⟨ps3, ρ3, G3, a, b, sA.trans c, q⟩⟩
      | false => exact f.nx σ' H1 ρ' ps1 G1 r1 m1 sA q1
end
end Dy

/-! text Dy6 -/
set_option maxHeartbeats 1000000
namespace Dy
open PySem PySem.Spec PyProof.Rows L2
/-! ### list comprehensions -/
def lcD (g : Tg) (wt : WT) (we : WE) (ρ : RHO) : List D → (List D → GP → Prop) → GP → Prop
  | [], Q, G => Q [] G
  | d :: ds, Q, G => onT g d ρ fun ρ1 => wt ρ1 G fun b G1 => if b = true then we ρ1 G1 fun y G2 => lcD g wt we ρ ds (fun r G3 => Q (y :: r) G3) G2 else lcD g wt we ρ ds Q G1
def wLc (wi : WI) (g : Tg) (wt : WT) (we : WE) (vs : List Nat) : WE := fun ρ G Q => wi ρ G fun ds G1 => lcD g wt we (wipeR ρ vs) ds (fun r G2 => Q (.lst r) G2) G1
def wYes : WT := fun _ G Q => Q true G
section
variable {X : Cx} {pos : Pos}
theorem t_yes : PTs X [] (lT X.K wYes) := ⟨fun pins s σ H Q I ⟨ps, ρ, G, Qd, r, m, h, f⟩ => pts_nil.run pins s σ H Q I (f true H ps G m (Step.refl _ _) h)⟩
theorem hold_out {ps1 ps' : Ps} {H1 H : Hp} {p : Addr} {o : HO} (s : Step ps1 H1 ps' H) (hp : H1 p = none) : Step ps1 H1 ps' (upd H p o) := by
  refine ⟨s.ext, fun a u e k => by rw [upd_ne (ne_of_none e hp)]; exact s.keep a u e k, fun a ha hn => ?_⟩
  have z : a ≠ p := fun e => hn (by rw [e]; exact hp)
  rw [upd_ne z]
  exact s.there a ha hn
/-- a step with more held back is one with less -/
theorem Step.out {ps ps' : Ps} {H H' : Hp} {hs : List Addr} (s : Step ps H ps' H') : Step ⟨ps.cs, hs⟩ H ⟨ps'.cs, hs⟩ H' := by
  obtain ⟨n, rfl, f⟩ := s.ext
  exact ⟨⟨n, rfl, f⟩, s.keep, s.there⟩
theorem Step.hs {ps ps' : Ps} {H H' : Hp} (s : Step ps H ps' H') : ps'.hs = ps.hs := by
  obtain ⟨n, rfl, f⟩ := s.ext
  rfl
theorem lc_sound {wi : WI} {g : Tg} {wt : WT} {we : WE} {vs : List Nat} (hv : ∀ i ∈ g.at_, i ∈ vs) {K : PySem.W.Frag} {σ : L2.St} {H : Hp} {Q : VK} (h : lE K (wLc wi g wt we vs) σ H Q) :
    tLc (lI K wi) (tT K g) (lT K wt) (lE K we) vs σ H Q := by
  obtain ⟨ps, ρ, G, Qd, r, m, h, f⟩ := h
  refine ⟨ps, ρ, G, _, r, m, h, fun J H1 ds ps1 G1 wk hz m1 s1 q1 => fun L hL => ?_⟩
  have r1 := r.step s1
  have f1 := f.at s1
  refine ⟨fun i k H' => k = ds.length - i ∧ i ≤ ds.length ∧ ∃ ps' G' acc xs, ps'.hs = L :: ps1.hs ∧ Loose ps1 H1 ps' H' ∧ Step ps1 H1 ⟨ps'.cs, ps1.hs⟩ H' ∧ Dy.Mod K ps' H' G' ∧ H' L = some (.lst xs) ∧ RDs K ps' H' acc xs ∧ acc.length ≤ i ∧
    lcD g wt we (wipeR ρ vs) (ds.drop i) (fun r G2 => Qd (.lst (acc ++ r)) G2) G', ⟨ds.length, by simp, Nat.zero_le _, ⟨ps1.cs, L :: ps1.hs⟩, G1, [], [], rfl, Loose.hold hL, hold_out (Step.refl _ _) hL, m1.hold hL, upd_same, rfl, Nat.zero_le _, q1⟩, ?_⟩
  rintro i k H' ⟨rfl, hi, ps', G', acc, xs, hh, lo, so, m', hx, ra, ha, q'⟩
  obtain ⟨w1, w2⟩ := wk i ps' H' lo
  have mL : L ∈ ps'.hs := by rw [hh]; exact List.mem_cons_self
  by_cases hlt : i < ds.length
  · obtain ⟨go, y⟩ := w1 hlt
    refine .inr ⟨go, fun H'' => i + 1 ≤ ds.length ∧ ∃ ps' G' acc xs, ps'.hs = L :: ps1.hs ∧ Loose ps1 H1 ps' H'' ∧ Step ps1 H1 ⟨ps'.cs, ps1.hs⟩ H'' ∧ Dy.Mod K ps' H'' G' ∧ H'' L = some (.lst xs) ∧ RDs K ps' H'' acc xs ∧ acc.length ≤ i + 1 ∧
      lcD g wt we (wipeR ρ vs) (ds.drop (i + 1)) (fun r G2 => Qd (.lst (acc ++ r)) G2) G', fun H'' q => ⟨ds.length - (i + 1), by omega, rfl, q⟩, fun x H2 yx => ?_⟩
    obtain ⟨d, e, rd, sy, my⟩ := y x H2 yx
    have ed : ds.drop i = d :: ds.drop (i + 1) := by
      rw [List.drop_eq_getElem_cons hlt]
      congr 1
      rw [List.getElem?_eq_getElem hlt] at e
      exact Option.some.inj e
    rw [ed] at q'
    obtain ⟨ρ1, e1, q2⟩ := onT_of (show onT g d (wipeR ρ vs) _ from q')
    have r2 : Rel K ps' H2 (wipeR ρ vs) (wipe σ vs) := (r1.loose (lo.trans sy.loose)).wipe vs
    have nc : ∀ {p : Ps} {h : Hp}, Step ps' H' p h → h L = some (.lst xs) := fun s => s.keep L _ hx (.inl (m'.hid L mL).1)
    have back : ∀ {p : Ps} {h : Hp}, Step ps' H' p h → p.hs = L :: ps1.hs ∧ Loose ps1 H1 p h ∧ Step ps1 H1 ⟨p.cs, ps1.hs⟩ h := fun s => ⟨s.hs.trans hh, lo.trans s.loose, so.trans s.out⟩
    refine bind_ok g rd r2 e1 fun σ2 r3 hw => ⟨hw vs hv |>.trans ?_, ps', ρ1, G', _, r3, my G' m', q2, fun b H3 ps3 G3 m3 s3 q3 => ?_⟩
    · apply List.ext_getElem?
      intro j
      rw [wipe_get, wipe_get, wipe_length]
      split <;> rfl
    · have sA := sy.trans s3
      cases b with
      | false =>
        rw [if_neg Bool.false_ne_true] at q3
        obtain ⟨b1, b2, b3⟩ := back sA
        exact ⟨hlt, ps3, G3, acc, xs, b1, b2, b3, m3, nc sA, RDs.step sA acc ra, by omega, q3⟩
      | true =>
        rw [if_pos rfl] at q3
        show lE K we σ2 H3 _
        refine ⟨ps3, ρ1, G3, _, r3.step s3, m3, q3, fun v H4 dy ps4 G4 ry m4 s4 q4 => ?_⟩
        have sB := sA.trans s4
        obtain ⟨b1, b2, b3⟩ := back sB
        have hx4 := nc sB
        have m4L : L ∈ ps4.hs := by rw [b1]; exact List.mem_cons_self
        have la := ra.length
        have lw : Loose ps4 H4 ps4 (upd H4 L (.lst (xs ++ [v]))) := Loose.hwrite m4L hx4
        refine ⟨xs, hx4, by omega, hlt, ps4, G4, acc ++ [dy], xs ++ [v], b1, b2.trans lw, hold_out b3 hL, m4.hwrite m4L hx4, upd_same, ?_, by rw [List.length_append]; show acc.length + 1 ≤ _; omega, ?_⟩
        · exact (RDs.loose lw _ (RDs.step sB acc ra)).append ⟨v, [], rfl, RD.loose lw dy ry, rfl⟩
        · simp only [List.append_assoc, List.singleton_append]
          exact q4
  · have ei : ds.drop i = [] := List.drop_eq_nil_of_le (by omega)
    rw [ei] at q'
    have q' : Qd (.lst (acc ++ [])) G' := q'
    rw [List.append_nil] at q'
    have sub : ∀ a ∈ ps1.hs, a ∈ ps'.hs := fun a h => by rw [hh]; exact List.mem_cons_of_mem _ h
    have hL2 := (m'.hid L mL).1
    exact .inl ⟨w2 (by omega), f1 _ H' (.lst acc) ⟨ps'.cs, ps1.hs⟩ G' ⟨L, xs, rfl, ⟨hx, hL2, (not_in m1 hL).2, by rw [← ra.length]; omega⟩, RDs.less sub acc ra⟩ (Mod.less sub m') so q'⟩
theorem e_lc {elt tg iter : Expr} {ifs : List Expr} {scope : Scope} {own : List (Str × Nat)} {wi : WI} {g : Tg} {wt : WT} {we : WE} (hc : X.calm = true) (hN : X.N.Nodup) (hi : PI X tg iter (lI X.K wi)) (ok : blkC X.N X.env.scope scope own = true)
    (hg : ∀ (s : Shared) (H : Hp) (C : Addr) (cl : List (Str × Addr)) (fp : List Addr), PG (X.blk s H scope (compEnvC scope cl C X.env) fp) tg (tT X.K g)) (ht : ∀ (s : Shared) (H : Hp) (C : Addr) (cl : List (Str × Addr)) (fp : List Addr), PTs (X.blk s H scope (compEnvC scope cl C X.env) fp) ifs (lT X.K wt))
    (he : ∀ (s : Shared) (H : Hp) (C : Addr) (cl : List (Str × Addr)) (fp : List Addr), PE (X.blk s H scope (compEnvC scope cl C X.env) fp) elt (lE X.K we)) (hv : ∀ i ∈ g.at_, i ∈ own.map (·.2)) (hs : ∀ x, foldedSetIterable iter X.env x = pure x) :
    PE X (.ListComp elt [⟨tg, iter, ifs, 0⟩] scope pos) (lE X.K (wLc wi g wt we (own.map (·.2)))) :=
  PE.imp (pe_lc hc hN hi (blkOk_by ok) hg ht he hs) fun σ H Q h => lc_sound hv h
theorem s_setLc {i : Nat} {y : Str} {py : Pos} {spos : Pos} {elt tg iter : Expr} {ifs : List Expr} {scope : Scope} {own : List (Str × Nat)} {wi : WI} {g : Tg} {wt : WT} {we : WE} (hc : X.calm = true) (hN : X.N.Nodup) (hy : X.N[i]? = some y) (hyl : X.env.scope.names.lookup y = some .local)
    (hsw : swapsWith (.ListComp elt [⟨tg, iter, ifs, 0⟩] scope pos) (some (.Name y py)) spos.line X.env = pure true) (hi : PI X tg iter (lI X.K wi)) (ok : blkC X.N X.env.scope scope own = true)
    (hg : ∀ (s : Shared) (H : Hp) (C : Addr) (cl : List (Str × Addr)) (fp : List Addr), PG (X.blk s H scope (compEnvC scope cl C X.env) fp) tg (tT X.K g)) (ht : ∀ (s : Shared) (H : Hp) (C : Addr) (cl : List (Str × Addr)) (fp : List Addr), PTs (X.blk s H scope (compEnvC scope cl C X.env) fp) ifs (lT X.K wt))
    (he : ∀ (s : Shared) (H : Hp) (C : Addr) (cl : List (Str × Addr)) (fp : List Addr), PE (X.blk s H scope (compEnvC scope cl C X.env) fp) elt (lE X.K we)) (hv : ∀ i ∈ g.at_, i ∈ own.map (·.2)) (hs : ∀ x, foldedSetIterable iter X.env x = pure x) :
    PS X (.Assign [.Name y py] (.ListComp elt [⟨tg, iter, ifs, 0⟩] scope pos) spos) (lS X.K fun De ρ G => wLc wi g wt we (own.map (·.2)) ρ G fun d G1 => De.nx (ρ.set i (some d)) G1) :=
  PS.imp (ps_setLc hc hN hy hyl hsw hi (blkOk_by ok) hg ht he hs) fun E σ H ⟨ps, ρ, G, De, r, m, h, f⟩ => by
    show tLc _ _ _ _ _ σ H _
    exact lc_sound hv ⟨ps, ρ, G, _, r, m, h, fun v H1 d ps1 G1 rd m1 s1 q => f.nx _ H1 _ ps1 G1 ((r.step s1).set i rd) m1 s1 q⟩
end
end Dy

/-! text Dy7 -/
set_option maxHeartbeats 1000000
namespace Dy
open PySem PySem.Spec PyProof.Rows L2
/-! ### cells: what stands at a place, what is put there -/
def numsAt (G : GP) : D → Option Nat
  | .ref n => (match G[n]? with
    | some (.nums k) => some k
    | _ => none)
  | _ => none
theorem numsAt_of {G : GP} {d : D} {k : Nat} (h : numsAt G d = some k) : ∃ n, d = .ref n ∧ G[n]? = some (.nums k) := by
  unfold numsAt at h
  cases d with
  | ref n =>
    have h : (match G[n]? with | some (.nums k) => some k | _ => none) = some k := h
    split at h
    · rename_i k' q
      cases h
      exact ⟨n, rfl, q⟩
    · cases h
  | _ => cases h
/-- a[i]; of ints of which nothing is known: whichever -/
def ixQ (x y : D) (G : GP) (Q : KD) : Prop := match numsAt G x, y with
  | some k, .int i => (0 ≤ i ∧ i < k) ∧ ∀ z : Int, Q (.int z) G
  | _, _ => ixD x y G Q
theorem ixQ_of {x y : D} {G : GP} {Q : KD} (h : ixQ x y G Q) : (∃ n k i, x = .ref n ∧ G[n]? = some (.nums k) ∧ y = .int i ∧ (0 ≤ i ∧ i < k) ∧ ∀ z : Int, Q (.int z) G) ∨ ixD x y G Q := by
  unfold ixQ at h
  split at h
  · rename_i k i q
    obtain ⟨n, e1, e2⟩ := numsAt_of q
    exact .inl ⟨n, k, i, e1, e2, rfl, h⟩
  · exact .inr h
theorem ixN_in {n : Nat} {i : Int} (h0 : 0 ≤ i) (h : i < n) : ixN n i = some i.toNat := by
  unfold ixN
  rw [if_pos h0, if_pos h]
theorem Mod.wr {K : PySem.W.Frag} {ps : Ps} {H : Hp} {G : GP} {n : Nat} {p : Addr} {c : Cell} {xs ys : List V} (m : Dy.Mod K ps H G) (hp : ps.cs[n]? = some p) (h : H p = some (.lst xs)) (hc : RC K ps (upd H p (.lst ys)) c p) : Dy.Mod K ps (upd H p (.lst ys)) (G.set n c) := by
  have hm : p ∈ ps.cs := List.mem_of_getElem? hp
  have s : Step ps H ps (upd H p (.lst ys)) := Step.write hm h
  refine ⟨by rw [List.length_set]; exact m.len, m.nd, fun a ha => let ⟨h1, xs, h2⟩ := m.hid a ha; ⟨h1, xs, s.keep a _ h2 (.inl h1)⟩, fun k c' a h1 h2 => ?_⟩
  by_cases hk : n = k
  · subst hk
    rw [hp] at h2
    cases h2
    have hl : n < G.length := by rw [m.len]; exact (List.getElem?_eq_some_iff.mp hp).1
    rw [List.getElem?_set_self hl] at h1
    cases h1
    exact hc
  · rw [List.getElem?_set_ne hk] at h1
    refine (m.at_ k c' a h1 h2).step s (upd_ne fun e => hk ?_)
    subst e
    obtain ⟨l1, e1⟩ := List.getElem?_eq_some_iff.mp hp
    obtain ⟨l2, e2⟩ := List.getElem?_eq_some_iff.mp h2
    exact (List.getElem_inj m.nd).mp (e1.trans e2.symm)
theorem set_same {G : GP} {n : Nat} {c : Cell} (h : G[n]? = some c) : G.set n c = G := by
  apply List.ext_getElem?
  intro j
  by_cases hj : n = j
  · subst hj
    rw [List.getElem?_set_self (List.getElem?_eq_some_iff.mp h).1, h]
  · rw [List.getElem?_set_ne hj]
/-- a[i] = v, a a cell -/
def setD (x y d : D) (G : GP) (Q : GP → Prop) : Prop := match x, y with
  | .ref n, .int i => (match G[n]? with
    | some (.nums k) => (0 ≤ i ∧ i < k) ∧ (match d with
      | .int _ => Q G
      | _ => False)
    | some (.lst ds) => (match ixN ds.length i with
      | some j => Q (G.set n (.lst (ds.set j d)))
      | none => False)
    | none => False)
  | _, _ => False
theorem setD_of {x y d : D} {G : GP} {Q : GP → Prop} (h : setD x y d G Q) : ∃ n i, x = .ref n ∧ y = .int i ∧ ((∃ k z, G[n]? = some (.nums k) ∧ (0 ≤ i ∧ i < k) ∧ d = .int z ∧ Q G) ∨ ∃ ds j, G[n]? = some (.lst ds) ∧ ixN ds.length i = some j ∧ Q (G.set n (.lst (ds.set j d)))) := by
  unfold setD at h
  split at h
  · rename_i n i
    refine ⟨n, i, rfl, rfl, ?_⟩
    split at h
    · rename_i k e
      obtain ⟨h1, h⟩ := h
      split at h
      · exact .inl ⟨k, _, e, h1, rfl, h⟩
      · exact h.elim
    · rename_i ds e
      split at h
      · rename_i j ej
        exact .inr ⟨ds, j, e, ej, h⟩
      · exact h.elim
    · exact h.elim
  · exact h.elim
theorem RDs.set {K : PySem.W.Frag} {ps : Ps} {H : Hp} {d : D} {v : V} (rd : RD K ps H d v) : ∀ {ds : List D} {vs : List V} (j : Nat), RDs K ps H ds vs → RDs K ps H (ds.set j d) (vs.set j v)
  | [], vs, j, h => by rw [show vs = [] from h]; exact rfl
  | e :: ds, _, 0, h => by
    obtain ⟨w, r, rfl, h1, h2⟩ := h
    exact ⟨v, r, rfl, rd, h2⟩
  | e :: ds, _, j + 1, h => by
    obtain ⟨w, r, rfl, h1, h2⟩ := h
    exact ⟨w, _, rfl, h1, RDs.set rd j h2⟩
theorem ints_set {ns : List Int} {j : Nat} {z : Int} : (ns.map V.int).set j (.int z) = (ns.set j z).map V.int := by
  rw [List.map_set]
section
variable {X : Cx} {pos : Pos}
theorem x_ixQ : IxR X (l2 X.K ixQ) := by
  intro value slice pins s σ H x y v u Q I rx ry ⟨ps, G, dx, dy, Qd, hx, hy, m, h, f⟩ hs
  rcases ixQ_of h with ⟨n, k, i, rfl, e, rfl, ⟨h1, h2⟩, q⟩ | h
  · obtain ⟨a, ea, rfl⟩ := hx
    obtain ⟨ns, hl, hH⟩ := m.at_ n _ a e ea
    have hlt : i.toNat < ns.length := by omega
    refine ix_list value slice pins s σ H _ _ v u Q I rx ry ⟨a, ns.map .int, i, .int ns[i.toNat], rfl, hy, .inl (.inl hH), ?_, f.same m (d := .int ns[i.toNat]) rfl (q _)⟩ hs
    unfold L2.atI
    rw [List.length_map, ixN_in h1 (by omega)]
    show (ns.map V.int)[i.toNat]? = _
    rw [List.getElem?_map, List.getElem?_eq_getElem hlt]
    rfl
  · exact x_ix value slice pins s σ H x y v u Q I rx ry ⟨ps, G, dx, dy, Qd, hx, hy, m, h, f⟩ hs
/-- o[i] = e -/
def wSub (we wo wi : WE) : WS := fun De ρ G => we ρ G fun d G1 => wo ρ G1 fun x G2 => wi ρ G2 fun y G3 => setD x y d G3 fun G4 => De.nx ρ G4
theorem s_sub {o i e : Expr} {p : Pos} {we wo wi : WE} (he : PE X e (lE X.K we)) (ho : PE X o (lE X.K wo)) (hi : PE X i (lE X.K wi)) (ha : ∀ v, assign (.Subscript o i p) X.env v = (do
      let ov ← holding [v] (eval o X.env)
      let iv ← holding [v, ov] (eval i X.env)
      standAt p
      holding [v, ov, iv] (setItem ov iv v)
      release [v, ov, iv] []))
    (hs : swapsWithSole [.Subscript o i p] e pos.line X.env = pure false) (hw : swappedStores [.Subscript o i p] e X.env = pure none) (h1 : (assignEach [.Subscript o i p] X.env).map (·.2) = [assign (.Subscript o i p) X.env]) :
    PS X (.Assign [.Subscript o i p] e pos) (lS X.K (wSub we wo wi)) :=
  PS.imp (ps_asg he (pg_sub ho hi set_list ha) hs hw h1) fun E σ H ⟨ps, ρ, G, De, r, m, h, f⟩ => lE_go r m h fun v H1 d ps1 G1 rv m1 s1 r1 q1 =>
    lE_go r1 m1 q1 fun x H2 dx ps2 G2 rx m2 s2 r2 q2 => lE_go r2 m2 q2 fun y H3 dy ps3 G3 ry m3 s3 r3 q3 => by
      obtain ⟨n, k, rfl, rfl, hc⟩ := setD_of q3
      obtain ⟨a, ea, rfl⟩ := RD.step s3 _ rx
      have rv3 := RD.step s3 _ (RD.step s2 d rv)
      have sA := (s1.trans s2).trans s3
      rcases hc with ⟨kk, z, e, ⟨h1, h2⟩, rfl, q⟩ | ⟨ds, j, e, ej, q⟩
      · obtain ⟨ns, hl, hH⟩ := m3.at_ n _ a e ea
        have hv : v = .int z := rv3
        subst hv
        have sw : Step ps3 H3 ps3 (upd H3 a (.lst ((ns.set k.toNat z).map .int))) := Step.write (List.mem_of_getElem? ea) hH
        have mw := m3.wr (c := .nums kk) (ys := (ns.set k.toNat z).map .int) ea hH ⟨ns.set k.toNat z, by rw [List.length_set]; exact hl, upd_same⟩
        rw [set_same e] at mw
        refine ⟨a, ns.map .int, k, k.toNat, rfl, ry, hH, by rw [List.length_map]; exact ixN_in h1 (by omega), ?_⟩
        rw [ints_set]
        exact f.nx _ _ ρ ps3 G3 (r3.step sw) mw (sA.trans sw) q
      · obtain ⟨xs, hH, hz, rs⟩ := m3.at_ n _ a e ea
        have sw : Step ps3 H3 ps3 (upd H3 a (.lst (xs.set j v))) := Step.write (List.mem_of_getElem? ea) hH
        refine ⟨a, xs, k, j, rfl, ry, hH, by rw [← rs.length]; exact ej, ?_⟩
        exact f.nx _ _ ρ ps3 _ (r3.step sw) (m3.write ea hH (by rw [List.length_set]; exact hz) (rs.set rv3 j)) (sA.trans sw) q
/-! xs[::-1] -/
def revD (d : D) (G : GP) (Q : KD) : Prop := match lstOf G d with
  | some ds => Q (.lst ds.reverse) G
  | none => False
theorem RDs.rev {K : PySem.W.Frag} {ps : Ps} {H : Hp} : ∀ {ds : List D} {vs : List V}, RDs K ps H ds vs → RDs K ps H ds.reverse vs.reverse
  | [], vs, h => by rw [show vs = [] from h]; exact rfl
  | d :: ds, _, h => by
    obtain ⟨v, r, rfl, h1, h2⟩ := h
    rw [List.reverse_cons, List.reverse_cons]
    exact (RDs.rev h2).append ⟨v, [], rfl, h1, rfl⟩
theorem e_rev {e : Expr} {we : WE} {k : Nat} {p1 p2 p3 : Pos} (he : PE X e (lE X.K we)) : PE X (.Subscript e (.Slice none none (some (.UnaryOp .USub (.Constant (.int 1) k p1) p2)) p3) pos) (lE X.K fun ρ G Q => we ρ G fun d G1 => revD d G1 Q) :=
  PE.imp (pe_revL he) fun σ H Q ⟨ps, ρ, G, Qd, r, m, h, f⟩ => lE_go r m h fun v H1 d ps1 G1 rv m1 s1 r1 q1 => by
    unfold revD at q1
    cases e : lstOf G1 d with
    | none => rw [e] at q1; exact q1.elim
    | some ds =>
      rw [e] at q1
      obtain ⟨a, xs, rfl, h1, hz, h2⟩ := lst_sq m1 rv e
      exact ⟨a, xs, rfl, h1, fun p hp => (f.at s1).lst m1 (by rw [List.length_reverse, h2.length]; exact hz) h2.rev hp q1⟩
/-! targets -/
theorem g_nm {i : Nat} {x : Str} (hN : X.N.Nodup) (hi : X.N[i]? = some x) (hx : Loc X.env.scope x) (hf : X.fn x = true ∨ X.env.scope.names.lookup x = some .local) : PG X (.Name x pos) (tT X.K (.nm i)) := pg_name hN hi hx hf
theorem g_nil : PGs X [] (tTs X.K []) := pgs_nil
theorem g_cons {e : Expr} {es : List Expr} {t : Tg} {ts : List Tg} (h1 : PG X e (tT X.K t)) (h2 : PGs X es (tTs X.K ts)) (hs : (assignEach (e :: es) X.env).map (·.2) = assign e X.env :: (assignEach es X.env).map (·.2)) : PGs X (e :: es) (tTs X.K (t :: ts)) := pgs_cons h1 h2 hs
theorem g_tp {es : List Expr} {k : Nat} {ts : List Tg} (hc : X.calm = true) (h : PGs X es (tTs X.K ts)) (hn : (assignEach es X.env).length = ts.length) (hst : (assignEach es X.env).findIdx? (·.1) = none) : PG X (.Tuple es k pos) (tT X.K (.tp ts)) := pg_tup hc h hn hst
/-! constants -/
theorem e_int {i : Int} {j : Nat} : PE X (.Constant (.int i) j pos) (lE X.K (wC (.int i))) := e_const pe_int fun _ _ => rfl
theorem e_str {x : Str} {j : Nat} : PE X (.Constant (.str x) j pos) (lE X.K (wC (.str x))) := e_const pe_str fun _ _ => rfl
theorem e_bl {x : Bool} {j : Nat} : PE X (.Constant (.bool x) j pos) (lE X.K (wC (.bl x))) := e_const pe_bl fun _ _ => rfl
theorem e_non {j : Nat} : PE X (.Constant .none j pos) (lE X.K (wC .non)) := e_const pe_non fun _ _ => rfl
theorem e_glob {x : Str} {d : D} {v : V} {u : Value} (hg : Gl X x) (hm : X.mg x = some u) (r : RelV v u) (hr : ∀ ps H, RD X.K ps H d v) (hd : (x == ("__debug__" : Str)) = false) : PE X (.Name x pos) (lE X.K (wC d)) := e_const (pe_glob hg hm r hd) hr
theorem e_tyn {x : Str} {c : Tn} (hg : Gl X x) (hm : X.mg x = none) (hv : bootBuiltins x = some (.type c.name)) (hn : x ≠ "__name__") (hd : (x == ("__debug__" : Str)) = false) : PE X (.Name x pos) (lE X.K (wC (.ty c))) := e_const (pe_bltn (v := .ty c.name) hg hm hv rfl hn hd) fun _ _ => rfl
/-! more statements -/
theorem s_pass : PS X (.Pass pos) (lS X.K wNext) := PS.imp ps_pass fun E σ H ⟨ps, ρ, G, De, r, m, h, f⟩ => f.nx σ H ρ ps G r m (Step.refl _ _) h
theorem s_brk : PS X (.Break pos) (lS X.K fun De ρ G => De.bk ρ G) := PS.imp ps_break fun E σ H ⟨ps, ρ, G, De, r, m, h, f⟩ => f.bk σ H ρ ps G r m (Step.refl _ _) h
theorem s_cont : PS X (.Continue pos) (lS X.K fun De ρ G => De.ct ρ G) := PS.imp ps_continue fun E σ H ⟨ps, ρ, G, De, r, m, h, f⟩ => f.ct σ H ρ ps G r m (Step.refl _ _) h
/-- a, b, c = x, y, z -/
def wPar3 (i j l : Nat) (wa : WA) : WS := fun De ρ G => wa ρ G fun ds G1 => match ds with
  | [d, e, c] => De.nx (((ρ.set i (some d)).set j (some e)).set l (some c)) G1
  | _ => False
theorem wPar3_of {i j l : Nat} {ρ : RHO} {ds : List D} {G : GP} {Q : RHO → GP → Prop} (h : match ds with | [d, e, c] => Q (((ρ.set i (some d)).set j (some e)).set l (some c)) G | _ => False) : ∃ d e c, ds = [d, e, c] ∧ Q (((ρ.set i (some d)).set j (some e)).set l (some c)) G := by
  split at h
  · exact ⟨_, _, _, rfl, h⟩
  · exact h.elim
theorem s_par3 {i j l : Nat} {x y z : Str} {a b c : Expr} {wa : WA} {px py pz pt : Pos} {kt k2 : Nat} {pt2 : Pos} (hc : X.calm = true) (hN : X.N.Nodup) (hi : X.N[i]? = some x) (hj : X.N[j]? = some y) (hl : X.N[l]? = some z) (hij : i ≠ j) (hil : i ≠ l) (hjl : j ≠ l)
    (hx : X.env.scope.names.lookup x = some .local) (hy : X.env.scope.names.lookup y = some .local) (hz : X.env.scope.names.lookup z = some .local) (ha : PA X [a, b, c] (lA X.K wa))
    (hw : swappedStores [.Tuple [.Name x px, .Name y py, .Name z pz] kt pt] (.Tuple [a, b, c] k2 pt2) X.env = pure (some [x, y, z]))
    (hs : swapsWithSole [.Tuple [.Name x px, .Name y py, .Name z pz] kt pt] (.Tuple [a, b, c] k2 pt2) pos.line X.env = pure false) :
    PS X (.Assign [.Tuple [.Name x px, .Name y py, .Name z pz] kt pt] (.Tuple [a, b, c] k2 pt2) pos) (lS X.K (wPar3 i j l wa)) :=
  PS.imp (ps_par3 hc hN hi hj hl hij hil hjl hx hy hz ha hw hs) fun E σ H ⟨ps, ρ, G, De, r, m, h, f⟩ => lA_go r m h fun vs H1 ds ps1 G1 rs m1 s1 r1 q1 => by
    obtain ⟨d, e, c, rfl, q⟩ := wPar3_of q1
    obtain ⟨v, w, rfl, hv, hw⟩ := rs
    obtain ⟨v2, v3, rfl, hw, hu⟩ := two_of hw
    exact ⟨v, v2, v3, rfl, f.nx _ H1 _ ps1 G1 (((r1.set i hv).set j hw).set l hu) m1 s1 q⟩
end
end Dy

/-! text Dy8 -/
set_option maxHeartbeats 1000000
namespace Dy
open PySem PySem.Spec PyProof.Rows L2
/-! ### what a def keeps, where no repr is under way -/
structure FnG (P : Program) (w : World) (K : PySem.W.Frag) (mg : Str → Option Value) (base : Heap) (CX : CXT) (k : Nat) (f : Addr) (fd : FuncData) (ps : List Str) (sp : Sp) : Prop where
  num : ∀ vs H Q E, sp vs H Q E → vs.length = ps.length
  go : ∀ (A : Around) (out : List Env) (s : Shared) (H : Hp) (ar : Args) (us : List Value) (vs : List V) (Q : VK) (E : XK), Room k A → A.guards = some [] → Env0 P w K mg base A out s H →
    BindsTo s fd ar (ps.zip us) → Vals vs us → sp vs H Q E → codeAny (model P w) A (.call (.ref f) ar) (CR CX out P w H s Q E) s
section
variable {P : Program} {w : World} {K : PySem.W.Frag} {mg : Str → Option Value} {base : Heap} {CX : CXT} {k : Nat} {f : Addr} {fd : FuncData}
theorem FnG.more {j : Nat} {ps : List Str} {sp : Sp} (F : FnG P w K mg base CX j f fd ps sp) (h : j ≤ k) : FnG P w K mg base CX k f fd ps sp :=
  ⟨F.num, fun A out s H ar us vs Q E hr => F.go A out s H ar us vs Q E (hr.mono h)⟩
/-- what holds at a body's entry leads to what holds at a call's end -/
theorem ret_end {X : Cx} {σ : L2.St} {H : Hp} {s : Shared} {v : V} {u : Value} {out : List Env} {H0 : Hp} {s0 : Shared} {Q : VK} (I : Inv X [] σ H s) (eo : frs X.outer = frs out) (ex : X.ex = []) (e1 : X.s_0 = s0) (e2 : X.H_0 = H0) (r : RelV v u) (q : Q v H) :
    CE out X.prog X.w H0 s0 Q u s := by
  subst e1 e2
  refine ⟨v, H, I.os, I.bare, ?_, I.hok, r, q⟩
  have := I.base
  rw [ex] at this
  rw [← eo]
  exact this
theorem g_of {x qual : Str} {params : Arguments} {body : List Stmt} {scope : Scope} {dvs : List V} {kws : List (Str × V)} {N ps : List Str} {sp : Sp} (F : FunD K x qual params body scope dvs kws f fd) (S : FnScope N ps scope)
    (num : ∀ vs H Q E, sp vs H Q E → vs.length = ps.length)
    (hb : ∀ (cdv : Value) (A : Around) (out : List Env) (s : Shared) (H : Hp) (vs : List V) (Q : VK) (E : XK), Room k (A.deeper (envOfC qual scope s.heap.objs.size f cdv)) → A.guards = some [] → sp vs H Q E →
      ∃ t, PSs (cxOf CX P w K mg base N qual scope f cdv A out s H E) body t ∧ t { nx := fun _ H' => Q .non H', rt := Q } (L2.start N vs) H) : FnG P w K mg base CX (k + 1) f fd ps sp := by
  obtain ⟨oc, od, dV, kV, doc, pm, an, cdv, ct, osl, rfl, lk, hcd, _, _⟩ := F.ex
  refine ⟨num, fun A out s H ar us vs Q E room hg en bd rv hsp => ?_⟩
  have inS : K.In s.heap := en.mod.kin.keeps fun b o e => (en.bs b o e).1
  have noL : s.heap.NoLimit := en.mod.nolimit.keeps fun b o e => (en.bs b o e).1
  refine codeAny_call_function room.depth (inS _ _ lk) rfl S.co S.gen rfl
    (PySem.W.codeRec_of inS hcd) (bd _ _ _ _ (wpAny_newFunctionEnv_cells S.kind (fun y hy => ?_) fun env he s1 ic => ?_))
  · cases S.par y.1 (List.of_mem_zip hy).1 with
    | inl q => exact .inl q
    | inr q => exact .inr ⟨q, PySem.W.cellsFrom_some _ _ _ (.inl q)⟩
  · subst he
    obtain ⟨t, ht, hq⟩ := hb cdv A out s H vs Q E (room.deeper _) hg hsp
    have I0 := inv_start (CX := CX) (E := E) S room.hd en (num _ _ _ _ hsp) rv ic
    refine ⟨noL.keeps ic.toInCall.keep, codeAny_func (wpAny_mono (ht.run [] s1 _ H _ I0 hq) ?_ fun _ _ z => z)⟩
    rintro (_ | _ | _ | u) s2 z
    · obtain ⟨_, H2, J, q⟩ := z
      exact ret_end (v := V.non) (u := Value.none) J rfl rfl rfl rfl rfl q
    · obtain ⟨_, _, _, q⟩ := z
      exact q.elim
    · obtain ⟨_, _, _, q⟩ := z
      exact q.elim
    · obtain ⟨v, _, H2, J, r, q⟩ := z
      exact ret_end J rfl rfl rfl rfl r q
end
section
variable {X : Cx} {CX : CXT} {k : Nat} {f : Addr} {fd : FuncData} {ps : List Str} {sp : Sp} {dvs : List V} {ds : List Value} {E : XK} {x : Str} {p pos : Pos} {e : Expr} {es : List Expr} {t : TA}
theorem run_g {pins : List (Addr × Obj)} {σ : L2.St} {H : Hp} {s : Shared} {Q : VK} {us : List Value} {vs : List V} (F : FnG X.prog X.w X.K X.mg X.base CX k f fd ps sp) (hr : Room k X.A) (hg : X.A.guards = some []) (hb : Binds X.K fd ps ds) (hd : Vals dvs ds) (hx : Passes CX X E)
    (I : Inv X pins σ H s) (r : Vals vs us) (h : sp (vs ++ dvs) H Q E) : wpAny (model X.prog X.w) X.A (call (.ref f) us) (EP X pins σ Q) X.xe s := by
  have ra : Vals (vs ++ dvs) (us ++ ds) := r.append hd
  have hb' := hb s us I.kIn (ra.length.symm.trans (F.num _ _ _ _ h))
  refine wpAny_call (codeAny_mono (F.go X.A X.stack s H ⟨us, []⟩ (us ++ ds) (vs ++ dvs) Q E hr hg I.env0 hb' ra h) fun res s2 z => ?_)
  rcases res with er | (_ | _ | _ | u)
  · exact hx pins σ H s er s2 I z
  · exact z.elim
  · exact z.elim
  · exact z.elim
  · exact I.after z
theorem pe_g (F : FnG X.prog X.w X.K X.mg X.base CX k f fd ps sp) (hr : Room k X.A) (hgu : X.A.guards = some []) (hg : Gl X x) (hm : X.mg x = some (.ref f)) (hk : PySem.W.keepIn X.K (.ref f) = true) (hb : Binds X.K fd ps ds) (hd : Vals dvs ds) (hx : Passes CX X E)
    (ha : PA X (e :: es) t) (hdb : (x == ("__debug__" : Str)) = false) (he : starEach (e :: es) X.env = (false, eval e X.env) :: starEach es X.env) (hpl : (backTo pos (starEach es X.env)).any (·.1) = false) :
    PE X (.Call (.Name x p) (e :: es) [] pos) (tCall sp dvs E t) :=
  ⟨fun pins s σ H Q I h => wpAny_Call_Name_kw (ld_glob I hg hm (PySem.W.callWith_K (h₀ := X.base) I.ok.mod.kin hk
    (thn (ha.run pos pins s σ H _ I h) fun us s1 ⟨vs, H1, I1, r, q⟩ => ⟨I1.kIn, run_g F hr hgu hb hd hx I1 r q⟩) he hpl) hdb)⟩
theorem pe_g0 (F : FnG X.prog X.w X.K X.mg X.base CX k f fd ps sp) (hr : Room k X.A) (hgu : X.A.guards = some []) (hg : Gl X x) (hm : X.mg x = some (.ref f)) (hk : PySem.W.keepIn X.K (.ref f) = true) (hb : Binds X.K fd ps ds) (hd : Vals dvs ds) (hx : Passes CX X E)
    (hdb : (x == ("__debug__" : Str)) = false) : PE X (.Call (.Name x p) [] [] pos) (tCall sp dvs E tNil) :=
  ⟨fun pins s σ H Q I h => wpAny_Call_Name_kw (ld_glob I hg hm (PySem.W.callWith_K0 I.kIn hk (run_g (us := []) F hr hgu hb hd hx I .nil h)) hdb)⟩
end
/-! ### the same by data, of a def that lets no exception out -/
abbrev DSp := List D → GP → KD → Prop
def lP (K : PySem.W.Frag) (q : DSp) : Sp := fun vs H Q _ => lC K q vs H Q


section
variable {P : Program} {w : World} {K : PySem.W.Frag} {mg : Str → Option Value} {base : Heap} {k : Nat}
/-- a def by name: what it does by data; dd: its defaults -/
structure Df (P : Program) (w : World) (K : PySem.W.Frag) (mg : Str → Option Value) (base : Heap) (k : Nat) (x : Str) (n : Nat) (q : DSp) (dd : List D) : Prop where
  ex : ∃ (f : Addr) (fd : FuncData) (ps : List Str) (ds : List Value) (dvs : List V), FnG P w K mg base C8.CX0 k f fd ps (lP K q) ∧ mg x = some (.ref f) ∧ PySem.W.keepIn K (.ref f) = true ∧ Binds K fd ps ds ∧ Vals dvs ds ∧ ∀ pz H, RDs K pz H dd dvs
end
end Dy

/-! text Dy9 -/
set_option maxHeartbeats 1000000
namespace Dy
open PySem PySem.Spec PyProof.Rows L2
/-! ### readings by name -/
def yOp (bd : D → D → GP → KD → Prop) (wa wb : WE) : WE := fun ρ G Q => wa ρ G fun x G1 => wb ρ G1 fun y G2 => bd x y G2 Q
def yUn (bd : D → GP → KD → Prop) (wa : WE) : WE := fun ρ G Q => wa ρ G fun x G1 => bd x G1 Q
def yCmT (bd : D → D → GP → KD → Prop) (wa wb : WE) : WT := fun ρ G Q => wa ρ G fun x G1 => wb ρ G1 fun y G2 => bd x y G2 (onB Q)
def yCh (bd bd' : D → D → GP → KD → Prop) (wa wb wc : WE) : WE := fun ρ G Q => wa ρ G fun x G1 => wb ρ G1 fun y G2 => bd x y G2 (onB fun k G3 => if k = true then wc ρ G3 fun z G4 => bd' y z G4 Q else Q (.bl false) G3)
def yChT (bd bd' : D → D → GP → KD → Prop) (wa wb wc : WE) : WT := fun ρ G Q => wa ρ G fun x G1 => wb ρ G1 fun y G2 => bd x y G2 (onB fun k G3 => if k = true then wc ρ G3 fun z G4 => bd' y z G4 (onB Q) else Q false G3)
def yVal (wa : WE) : WT := fun ρ G Q => wa ρ G (onB Q)
def yNotT (wt : WT) : WT := fun ρ G Q => wt ρ G fun k G1 => Q (!k) G1
def yAndT (wt wu : WT) : WT := fun ρ G Q => wt ρ G fun k G1 => if k = true then wu ρ G1 Q else Q false G1
def yOrT (wt wu : WT) : WT := fun ρ G Q => wt ρ G fun k G1 => if k = true then Q true G1 else wu ρ G1 Q
def yAnd (wa wb : WE) : WE := fun ρ G Q => wa ρ G (onB fun k G1 => if k = true then wb ρ G1 Q else Q (.bl false) G1)
def yOr (wa wb : WE) : WE := fun ρ G Q => wa ρ G (onB fun k G1 => if k = true then Q (.bl true) G1 else wb ρ G1 Q)
def yNot (wa : WE) : WE := fun ρ G Q => wa ρ G (onB fun k G1 => Q (.bl (!k)) G1)
def yIf (wt : WT) (wa wb : WE) : WE := fun ρ G Q => wt ρ G fun k G1 => if k = true then wa ρ G1 Q else wb ρ G1 Q
def yTup (u : WA) : WE := fun ρ G Q => u ρ G fun ds G1 => ds.length ≤ sizeLine ∧ Q (.tup ds) G1
def yLst (u : WA) : WE := fun ρ G Q => u ρ G fun ds G1 => ds.length ≤ sizeLine ∧ Q (.lst ds) G1
def yCel (u : WA) : WE := fun ρ G Q => u ρ G fun ds G1 => ds.length ≤ sizeLine ∧ Q (.ref G1.length) (G1 ++ [.lst ds])
def yBl (cd : List D → GP → KD → Prop) (u : WA) : WE := fun ρ G Q => u ρ G fun ds G1 => cd ds G1 Q
def yCall (q : DSp) (dd : List D) (u : WA) : WE := fun ρ G Q => u ρ G fun ds G1 => q (ds ++ dd) G1 Q
def yRev (we : WE) : WE := fun ρ G Q => we ρ G fun d G1 => revD d G1 Q
def sExp (we : WE) : WS := fun De ρ G => we ρ G fun _ G1 => De.nx ρ G1
def sRet (we : WE) : WS := fun De ρ G => we ρ G De.rt
def sRetN : WS := fun De _ G => De.rt .non G
def sIf (wc : WT) (t u : WS) : WS := fun De ρ G => wc ρ G fun k G1 => if k = true then t De ρ G1 else u De ρ G1
def sAsg (w : Tg) (we : WE) : WS := fun De ρ G => we ρ G fun d G1 => onT w d ρ fun ρ1 => De.nx ρ1 G1
def sSet (i : Nat) (we : WE) : WS := fun De ρ G => we ρ G fun d G1 => De.nx (ρ.set i (some d)) G1
def sBrk : WS := fun De ρ G => De.bk ρ G
def sCnt : WS := fun De ρ G => De.ct ρ G
def sNev : WS := fun _ _ _ => False
/-- a def's doing: its body's reading, begun with the arguments -/
def qOf (n m : Nat) (w : WS) : DSp := fun ds G Q => ds.length = n ∧ w { nx := fun _ G' => Q .non G', rt := Q } (startR m ds) G
section
variable {X : Cx} {a b c : Expr} {wa wb wc : WE} {pos : Pos} {wt wu : WT} {rest : List Expr} {u : WA} {es : List Expr} {e : Expr}
theorem r_op {op : Operator} {bd : D → D → GP → KD → Prop} (ho : OpR X (binaryOp op) (l2 X.K bd)) (ha : PE X a (lE X.K wa)) (hb : PE X b (lE X.K wb)) : PE X (.BinOp a op b pos) (lE X.K (yOp bd wa wb)) := e_op ho ha hb
theorem r_un {op : UnaryOp} {bd : D → GP → KD → Prop} (ho : UnR X (unaryOp op) (l1 X.K bd)) (ha : PE X a (lE X.K wa)) : PE X (.UnaryOp op a pos) (lE X.K (yUn bd wa)) := e_un (bd := bd) ho ha
theorem r_cmp {op : CmpOp} {bd : D → D → GP → KD → Prop} (ho : OpR X (compareOp op) (l2 X.K bd)) (ha : PE X a (lE X.K wa)) (hb : PE X b (lE X.K wb)) (hm : behindInMarks op b = false) : PE X (.Compare a [op] [b] pos) (lE X.K (yOp bd wa wb)) := e_cmp ho ha hb hm
theorem r_cmpT {op : CmpOp} {bd : D → D → GP → KD → Prop} (ho : OpR X (compareOp op) (l2 X.K bd)) (ha : PE X a (lE X.K wa)) (hb : PE X b (lE X.K wb)) (hm : behindInMarks op b = false) : PT X (.Compare a [op] [b] pos) (lT X.K (yCmT bd wa wb)) := t_cmp ho ha hb hm
theorem r_ch {op op' : CmpOp} {bd bd' : D → D → GP → KD → Prop} (ho : OpR X (compareOp op) (l2 X.K bd)) (ho' : OpR X (compareOp op') (l2 X.K bd')) (ha : PE X a (lE X.K wa)) (hb : PE X b (lE X.K wb)) (hc : PE X c (lE X.K wc)) (hm : lastMarks [op, op'] [b, c] = false) : PE X (.Compare a [op, op'] [b, c] pos) (lE X.K (yCh bd bd' wa wb wc)) := e_chain ho ho' ha hb hc hm
theorem r_chT {op op' : CmpOp} {bd bd' : D → D → GP → KD → Prop} (ho : OpR X (compareOp op) (l2 X.K bd)) (ho' : OpR X (compareOp op') (l2 X.K bd')) (ha : PE X a (lE X.K wa)) (hb : PE X b (lE X.K wb)) (hc : PE X c (lE X.K wc)) (hm : lastMarks [op, op'] [b, c] = false) : PT X (.Compare a [op, op'] [b, c] pos) (lT X.K (yChT bd bd' wa wb wc)) := t_chain ho ho' ha hb hc hm
theorem r_val (ha : PE X a (lE X.K wa)) (he : ∀ whole, isTrue a X.env whole = (do let v ← whole; standAt a.pos; holding [v] (truthy v))) : PT X a (lT X.K (yVal wa)) := t_val ha he
theorem r_notT (ha : PT X a (lT X.K wt)) : PT X (.UnaryOp .Not a pos) (lT X.K (yNotT wt)) := t_not ha
theorem r_and1T (ha : PT X a (lT X.K wt)) : PW X (.BoolOp .And [a] pos) (lT X.K wt) := pw_and1 ha
theorem r_or1T (ha : PT X a (lT X.K wt)) : PW X (.BoolOp .Or [a] pos) (lT X.K wt) := pw_or1 ha
theorem r_andT (ha : PT X a (lT X.K wt)) (hb : PW X (.BoolOp .And (b :: rest) pos) (lT X.K wu)) : PW X (.BoolOp .And (a :: b :: rest) pos) (lT X.K (yAndT wt wu)) := t_and ha hb
theorem r_orT (ha : PT X a (lT X.K wt)) (hb : PW X (.BoolOp .Or (b :: rest) pos) (lT X.K wu)) : PW X (.BoolOp .Or (a :: b :: rest) pos) (lT X.K (yOrT wt wu)) := t_or ha hb
theorem r_pw (h : PW X a (lT X.K wt)) : PT X a (lT X.K wt) := h.pt
theorem r_one {op : BoolOp} (ha : PE X a (lE X.K wa)) : PE X (.BoolOp op [a] pos) (lE X.K wa) := pe_one ha
theorem r_and (ha : PE X a (lE X.K wa)) (hb : PE X (.BoolOp .And (b :: rest) pos) (lE X.K wb)) : PE X (.BoolOp .And (a :: b :: rest) pos) (lE X.K (yAnd wa wb)) := e_and ha hb
theorem r_or (ha : PE X a (lE X.K wa)) (hb : PE X (.BoolOp .Or (b :: rest) pos) (lE X.K wb)) : PE X (.BoolOp .Or (a :: b :: rest) pos) (lE X.K (yOr wa wb)) := e_or ha hb
theorem r_not (ha : PE X a (lE X.K wa)) : PE X (.UnaryOp .Not a pos) (lE X.K (yNot wa)) := e_not ha
theorem r_if {t : Expr} (ht : PT X t (lT X.K wt)) (ha : PE X a (lE X.K wa)) (hb : PE X b (lE X.K wb)) : PE X (.IfExp t a b pos) (lE X.K (yIf wt wa wb)) := e_if ht ha hb
theorem r_tup {k : Nat} (h : PA X es (lA X.K u)) : PE X (.Tuple es k pos) (lE X.K (yTup u)) := e_tup h
theorem r_lst (h : PA X es (lA X.K u)) : PE X (.List es pos) (lE X.K (yLst u)) := e_lst h
theorem r_cel (h : PA X es (lA X.K u)) : PE X (.List es pos) (lE X.K (yCel u)) := e_cell h
theorem r_blt {x : Str} {p : Pos} {id : String} {cd : List D → GP → KD → Prop} (hc : CallR X (.builtin id) (lC X.K cd)) (hg : Gl X x) (hm : X.mg x = none) (hv : bootBuiltins x = some (.builtin id)) (ha : PA X (e :: es) (lA X.K u)) (hn : x ≠ "__name__") (hdb : (x == ("__debug__" : Str)) = false)
    (he : starEach (e :: es) X.env = (false, eval e X.env) :: starEach es X.env) (hpl : (backTo pos (starEach es X.env)).any (·.1) = false) : PE X (.Call (.Name x p) (e :: es) [] pos) (lE X.K (yBl cd u)) := e_blt hc hg hm hv ha hn hdb he hpl
theorem r_typ {x : Str} {p : Pos} {T : String} {cd : List D → GP → KD → Prop} (hc : CallR X (.type T) (lC X.K cd)) (hg : Gl X x) (hm : X.mg x = none) (hv : bootBuiltins x = some (.type T)) (ha : PA X (e :: es) (lA X.K u)) (hn : x ≠ "__name__") (hdb : (x == ("__debug__" : Str)) = false)
    (he : starEach (e :: es) X.env = (false, eval e X.env) :: starEach es X.env) (hpl : (backTo pos (starEach es X.env)).any (·.1) = false) : PE X (.Call (.Name x p) (e :: es) [] pos) (lE X.K (yBl cd u)) := e_typ hc hg hm hv ha hn hdb he hpl
theorem r_ix (ha : PE X a (lE X.K wa)) (hb : PE X b (lE X.K wb)) (hs : PlainIx b) : PE X (.Subscript a b pos) (lE X.K (yOp ixQ wa wb)) := e_ix x_ixQ ha hb hs
theorem r_rev {k : Nat} {p1 p2 p3 : Pos} (he : PE X e (lE X.K wa)) : PE X (.Subscript e (.Slice none none (some (.UnaryOp .USub (.Constant (.int 1) k p1) p2)) p3) pos) (lE X.K (yRev wa)) := e_rev he
/-- a call of a def -/
theorem r_call {x : Str} {p : Pos} {k kk n : Nat} {q : DSp} {dd : List D} (F : Df X.prog X.w X.K X.mg X.base k x n q dd) (hk : k ≤ kk) (hr : Room kk X.A) (hgu : X.A.guards = some []) (hg : Gl X x) (ha : PA X (e :: es) (lA X.K u)) (hdb : (x == ("__debug__" : Str)) = false)
    (he : starEach (e :: es) X.env = (false, eval e X.env) :: starEach es X.env) (hpl : (backTo pos (starEach es X.env)).any (·.1) = false) : PE X (.Call (.Name x p) (e :: es) [] pos) (lE X.K (yCall q dd u)) := by
  obtain ⟨f, fd, ps, dz, dvs, F, hm, kp, hb, hd, hr2⟩ := F.ex
  exact PE.imp (pe_g F (hr.mono hk) hgu hg hm kp hb hd C8.pass0 (E := C8.E0) ha hdb he hpl) fun σ H Q ⟨pz, ρ, G, Qd, r, m, h, ff⟩ => lA_go r m h fun vs H1 ds ps1 G1 rs m1 s1 r1 q1 =>
    ⟨ps1, G1, ds ++ dd, Qd, rs.append (hr2 ps1 H1), m1, q1, ff.at s1⟩
theorem r_call0 {x : Str} {p : Pos} {k kk n : Nat} {q : DSp} {dd : List D} (F : Df X.prog X.w X.K X.mg X.base k x n q dd) (hk : k ≤ kk) (hr : Room kk X.A) (hgu : X.A.guards = some []) (hg : Gl X x) (hdb : (x == ("__debug__" : Str)) = false) :
    PE X (.Call (.Name x p) [] [] pos) (lE X.K (yCall q dd aNil)) := by
  obtain ⟨f, fd, ps, dz, dvs, F, hm, kp, hb, hd, hr2⟩ := F.ex
  exact PE.imp (pe_g0 F (hr.mono hk) hgu hg hm kp hb hd C8.pass0 (E := C8.E0) hdb) fun σ H Q ⟨pz, ρ, G, Qd, r, m, h, ff⟩ =>
    ⟨pz, G, [] ++ dd, Qd, hr2 pz H, m, h, ff⟩
/-- a global constant -/
def GlC (K : PySem.W.Frag) (mg : Str → Option Value) (x : Str) (d : D) : Prop := ∃ u v, mg x = some u ∧ RelV v u ∧ ∀ pz H, RD K pz H d v
theorem r_glo {x : Str} {d : D} (h : GlC X.K X.mg x d) (hg : Gl X x) (hd : (x == ("__debug__" : Str)) = false) : PE X (.Name x pos) (lE X.K (wC d)) := by
  obtain ⟨u, v, hm, r, hr⟩ := h
  exact e_glob hg hm r hr hd
end
section
variable {X : Cx} {pos : Pos} {st : Stmt} {rest : List Stmt} {t u : WS} {e : Expr} {we : WE}
theorem q_exp (he : PE X e (lE X.K we)) (hs : swapsWith e none pos.line X.env = pure false) : PS X (.Expr e pos) (lS X.K (sExp we)) := s_expr he hs
theorem q_ret (he : PE X e (lE X.K we)) : PS X (.Return (some e) pos) (lS X.K (sRet we)) := s_ret he
theorem q_retN : PS X (.Return none pos) (lS X.K sRetN) := s_retN
theorem q_if {c : Expr} {a b : List Stmt} {wc : WT} (hc : PT X c (lT X.K wc)) (ha : PSs X a (lS X.K t)) (hb : PSs X b (lS X.K u)) : PS X (.If c a b pos) (lS X.K (sIf wc t u)) := s_if hc ha hb
theorem q_asg {tg : Expr} {w : Tg} (he : PE X e (lE X.K we)) (hg : PG X tg (tT X.K w)) (hs : swapsWithSole [tg] e pos.line X.env = pure false) (hw : swappedStores [tg] e X.env = pure none) (h1 : (assignEach [tg] X.env).map (·.2) = [assign tg X.env]) : PS X (.Assign [tg] e pos) (lS X.K (sAsg w we)) := s_asg he hg hs hw h1
theorem q_set {i : Nat} {x : Str} {pos' : Pos} (hN : X.N.Nodup) (hi : X.N[i]? = some x) (hx : Loc X.env.scope x) (he : PE X e (lE X.K we)) (hs : swapsWith e (some (.Name x pos')) pos.line X.env = pure false) (hf : X.fn x = true ∨ X.env.scope.names.lookup x = some .local) : PS X (.Assign [.Name x pos'] e pos) (lS X.K (sSet i we)) := s_set hN hi hx he hs hf
theorem q_setLc {i : Nat} {y : Str} {py : Pos} {spos : Pos} {elt tg iter : Expr} {ifs : List Expr} {scope : Scope} {own : List (Str × Nat)} {wi : WI} {g : Tg} {wt : WT} {we : WE} (hc : X.calm = true) (hN : X.N.Nodup) (hy : X.N[i]? = some y) (hyl : X.env.scope.names.lookup y = some .local)
    (hsw : swapsWith (.ListComp elt [⟨tg, iter, ifs, 0⟩] scope pos) (some (.Name y py)) spos.line X.env = pure true) (hi : PI X tg iter (lI X.K wi)) (ok : blkC X.N X.env.scope scope own = true)
    (hg : ∀ (s : Shared) (H : Hp) (C : Addr) (cl : List (Str × Addr)) (fp : List Addr), PG (X.blk s H scope (compEnvC scope cl C X.env) fp) tg (tT X.K g)) (ht : ∀ (s : Shared) (H : Hp) (C : Addr) (cl : List (Str × Addr)) (fp : List Addr), PTs (X.blk s H scope (compEnvC scope cl C X.env) fp) ifs (lT X.K wt))
    (he : ∀ (s : Shared) (H : Hp) (C : Addr) (cl : List (Str × Addr)) (fp : List Addr), PE (X.blk s H scope (compEnvC scope cl C X.env) fp) elt (lE X.K we)) (hv : ∀ i ∈ g.at_, i ∈ own.map (·.2)) (hs : ∀ x, foldedSetIterable iter X.env x = pure x) :
    PS X (.Assign [.Name y py] (.ListComp elt [⟨tg, iter, ifs, 0⟩] scope pos) spos) (lS X.K (sSet i (wLc wi g wt we (own.map (·.2))))) := s_setLc hc hN hy hyl hsw hi ok hg ht he hv hs
theorem q_brk : PS X (.Break pos) (lS X.K sBrk) := s_brk
theorem q_cnt : PS X (.Continue pos) (lS X.K sCnt) := s_cont
theorem q_nev : PS X st (lS X.K sNev) := s_never fun _ _ _ h => h
end
/-! ### a def from its text -/
section
variable {P : Program} {w : World} {K : PySem.W.Frag} {mg : Str → Option Value} {base : Heap} {k : Nat} {f : Addr} {fd : FuncData}
theorem Fn.of {x qual : Str} {params : Arguments} {body : List Stmt} {scope : Scope} {dvs : List V} {kws : List (Str × V)} {N ps : List Str} {wd : WS} {m : Nat} (F : FunD K x qual params body scope dvs kws f fd) (S : FnScope N ps scope) (hl : N.length = m)
    (h : ∀ (cdv : Value) (A : Around) (out : List Env) (s : Shared) (H : Hp) (E : XK), Room k (A.deeper (envOfC qual scope s.heap.objs.size f cdv)) → A.guards = some [] → PSs (cxOf C8.CX0 P w K mg base N qual scope f cdv A out s H E).nox body (lS K wd)) :
    FnG P w K mg base C8.CX0 (k + 1) f fd ps (lP K (qOf ps.length m wd)) := by
  subst hl
  refine g_of F S (fun vs H Q E ⟨pz, G, dz, Qd, r, m, h, ff⟩ => by rw [← r.length]; exact h.1) (fun cdv A out s H vs Q E hr hg ⟨pz, G, dz, Qd, r, m, h2, ff⟩ => ?_)
  refine ⟨_, PSs.nox (h cdv A out s H E hr hg), pz, startR N.length dz, G, { nx := fun _ G' => Qd .non G', rt := Qd }, Rel.begin r, m, h2.2, ?_⟩
  exact ⟨fun σ' H' ρ' ps' G' a b c q => ff _ H' .non ps' G' rfl b c q, ff, fun _ _ _ _ _ _ _ _ q => q.elim, fun _ _ _ _ _ _ _ _ q => q.elim⟩
theorem Df.of {x qual : Str} {params : Arguments} {body : List Stmt} {scope : Scope} {dvs dv : List V} {kws : List (Str × V)} {N ps : List Str} {wd : WS} {dd : List D} {m : Nat} (F : FunD K x qual params body scope dvs kws f fd) (gm : mg x = some (.ref f)) (S : FnScope N ps scope)
    (hl : N.length = m) (hb : ∃ ds, Vals dv ds ∧ Binds K fd ps ds) (hr : ∀ pz H, RDs K pz H dd dv)
    (h : ∀ (cdv : Value) (A : Around) (out : List Env) (s : Shared) (H : Hp) (E : XK), Room k (A.deeper (envOfC qual scope s.heap.objs.size f cdv)) → A.guards = some [] → PSs (cxOf C8.CX0 P w K mg base N qual scope f cdv A out s H E).nox body (lS K wd)) :
    Df P w K mg base (k + 1) x ps.length (qOf ps.length m wd) dd := by
  obtain ⟨ds, hd, hb⟩ := hb
  exact ⟨f, fd, ps, ds, dv, Fn.of F S hl h, gm, F.kp, hb, hd, hr⟩
end
end Dy

/-! text Dy10 -/
set_option maxHeartbeats 1000000
namespace Dy
open PySem PySem.Spec PyProof.Rows L2
/-! ### a tuple or a list, walked -/
def seqF : D → Option (List D)
  | .tup ds => some ds
  | .lst ds => some ds
  | .fz ds => some ds
  | _ => none
def wiS (wa : WE) : WI := fun ρ G Q => wa ρ G fun d G1 => match seqF d with
  | some ds => Q ds G1
  | none => False
section
variable {X : Cx} {pos : Pos}
theorem i_seq {tg e : Expr} {wa : WE} (he : PE X e (lE X.K wa)) : PI X tg e (lI X.K (wiS wa)) := by
  refine ⟨fun pins s σ H R I ⟨ps, ρ, G, Qd, r, m, h, f⟩ => thn (he.run pins s σ H (fun x H1 => (∃ a xs, x = .ref a ∧ SqL X.K H1 a xs ∧ R (Itl X.K a) H1) ∨ ∃ a xs, x = .ref a ∧ SqT X.K H1 a xs ∧ R (Itt X.K a) H1) I
    (lE_go r m h fun x H1 dx ps1 G1 rx m1 s1 r1 q1 => ?_)) fun v s1 ⟨x, H1, I1, r1, q⟩ => ?_⟩
  · have fl : ∀ ds, fixL dx = some ds → Qd ds G1 → ∃ a xs, x = .ref a ∧ SqL X.K H1 a xs ∧ R (Itl X.K a) H1 := fun ds e1 q => by
      obtain ⟨a, xs, rfl, h1, hz, h2⟩ := fix_sq rx e1
      exact ⟨a, xs, rfl, h1 ps1 H1 (Loose.refl _ _), f _ H1 ds ps1 G1 (walks_list h1 h2) (by rw [h2.length]; exact hz) m1 s1 q⟩
    cases dx with
    | tup ds =>
      obtain ⟨a, xs, rfl, h1, h2⟩ := rx
      exact .inr ⟨a, xs, rfl, h1.1, f _ H1 ds ps1 G1 (walks_tup h1.1 h2) (by rw [h2.length]; exact h1.2) m1 s1 q1⟩
    | lst ds => exact .inl (fl ds rfl q1)
    | fz ds => exact .inl (fl ds rfl q1)
    | _ => exact (show False from q1).elim
  · rcases q with ⟨a, xs, rfl, hq, q⟩ | ⟨a, xs, rfl, hq, q⟩
    · cases r1
      obtain ⟨its, rv, p, hz⟩ := I1.list hq
      exact wpAny_pyIter_list p.isList (pi_one (tk := s1.toks) I1 _ (turn_list a _) ⟨_, Heap.get?_push_size _ rfl, rfl, rfl⟩ q)
    · cases r1
      obtain ⟨its, rv, p, hz⟩ := I1.tuple hq
      exact wpAny_pyIter_tuple (show s1.heap.IsTuple a its.toArray from p) (pi_one (tk := s1.toks) I1 _ (turn_tuple a _) ⟨_, Heap.get?_push_size _ rfl, rfl, rfl⟩ q)
end
theorem bt_len : bootBuiltins "len" = some (.builtin "len") := by kernel_rfl
theorem bt_abs : bootBuiltins "abs" = some (.builtin "abs") := by kernel_rfl
theorem bt_max : bootBuiltins "max" = some (.builtin "max") := by kernel_rfl
theorem bt_min : bootBuiltins "min" = some (.builtin "min") := by kernel_rfl
theorem bt_sum : bootBuiltins "sum" = some (.builtin "sum") := by kernel_rfl
theorem bt_all : bootBuiltins "all" = some (.builtin "all") := by kernel_rfl
theorem bt_repr : bootBuiltins "repr" = some (.builtin "repr") := by kernel_rfl
theorem bt_isinstance : bootBuiltins "isinstance" = some (.builtin "isinstance") := by kernel_rfl
theorem bt_int : bootBuiltins "int" = some (.type "int") := by kernel_rfl
theorem bt_bool : bootBuiltins "bool" = some (.type "bool") := by kernel_rfl
theorem bt_str : bootBuiltins "str" = some (.type "str") := by kernel_rfl
theorem bt_tuple : bootBuiltins "tuple" = some (.type "tuple") := by kernel_rfl
theorem bt_list : bootBuiltins "list" = some (.type "list") := by kernel_rfl
theorem bt_dict : bootBuiltins "dict" = some (.type "dict") := by kernel_rfl
end Dy

/-! text Dy11 -/
set_option maxHeartbeats 1000000
namespace Dy
open PySem PySem.Spec PyProof.Rows L2
/-! ### a new list of ints, of which only the number is kept -/
def intsD : List D → Option (List Int)
  | [] => some []
  | .int i :: r => (intsD r).map (i :: ·)
  | _ :: _ => none
theorem intsD_of {K : PySem.W.Frag} {ps : Ps} {H : Hp} : ∀ (ds : List D) {vs : List V} {ns : List Int}, RDs K ps H ds vs → intsD ds = some ns → vs = ns.map V.int ∧ ns.length = ds.length
  | [], vs, ns, h, e => by
    cases e
    exact ⟨h, rfl⟩
  | d :: r, vs, ns, h, e => by
    obtain ⟨v, w, rfl, h1, h2⟩ := h
    cases d with
    | int i =>
      have e : (intsD r).map (i :: ·) = some ns := e
      cases q : intsD r with
      | none => rw [q] at e; cases e
      | some ms =>
        rw [q] at e
        cases e
        obtain ⟨rfl, hl⟩ := intsD_of r h2 q
        exact ⟨by rw [show v = _ from h1]; rfl, by rw [List.length_cons, List.length_cons, hl]⟩
    | _ => exact nomatch (show none = some ns from e)
def yNum (u : WA) : WE := fun ρ G Q => u ρ G fun ds G1 => ds.length ≤ sizeLine ∧ (match intsD ds with
  | some _ => Q (.ref G1.length) (G1 ++ [.nums ds.length])
  | none => False)
theorem r_num {X : Cx} {es : List Expr} {u : WA} {pos : Pos} (h : PA X es (lA X.K u)) : PE X (.List es pos) (lE X.K (yNum u)) :=
  PE.imp (pe_lst h) fun σ H Q ⟨ps, ρ, G, Qd, r, m, h, f⟩ => lA_go r m h fun vs H1 ds ps1 G1 rs m1 s1 r1 q1 => by
    obtain ⟨hz, q⟩ := q1
    refine ⟨by rw [← rs.length]; exact hz, fun p hp => ?_⟩
    cases e : intsD ds with
    | none => rw [e] at q; exact q.elim
    | some ns =>
      rw [e] at q
      obtain ⟨rfl, hl⟩ := intsD_of ds rs e
      have mc := m1.cell hp (by rw [← rs.length]; exact hz) rs
      have ec : (ps1.cs ++ [p])[G1.length]? = some p := by rw [m1.len]; simp
      have md := mc.dim (n := G1.length) (k := ds.length) ec upd_same hl
      have eg : (G1 ++ [Cell.lst ds]).set G1.length (.nums ds.length) = G1 ++ [.nums ds.length] := by
        rw [List.set_append_right _ _ (Nat.le_refl _)]
        simp
      rw [eg] at md
      exact (f.at s1) _ _ (.ref G1.length) ⟨ps1.cs ++ [p], ps1.hs⟩ _ ⟨p, ec, rfl⟩ md (Step.cell hp) q
/-! ### global constants as data -/
mutual
def cst (K : PySem.W.Frag) : D → Value → Bool
  | .non, u => (match u with
    | .none => true
    | _ => false)
  | .bl b, u => (match u with
    | .bool c => decide (c = b)
    | _ => false)
  | .int i, u => (match u with
    | .int j _ => decide (j = i)
    | _ => false)
  | .str x, u => (match u with
    | .str y _ => decide (y = x)
    | _ => false)
  | .tup ds, u => (match u with
    | .ref a => (match K.lookup a with
      | some ⟨.type c, _, .seq its _, _⟩ => decide (c = "tuple") && (decide (its.size ≤ sizeLine) && csts K ds its.toList)
      | _ => false)
    | _ => false)
  | .fz ds, u => (match u with
    | .ref a => (match K.lookup a with
      | some ⟨.type c, none, .seq its _, _⟩ => decide (c = "list") && (decide (its.size ≤ sizeLine) && csts K ds its.toList)
      | _ => false)
    | _ => false)
  | .ty _, _ => false
  | .ref _, _ => false
  | .lst _, _ => false
def csts (K : PySem.W.Frag) : List D → List Value → Bool
  | [], us => us.isEmpty
  | d :: ds, us => (match us with
    | u :: r => cst K d u && csts K ds r
    | [] => false)
end
mutual
theorem cst_ok {K : PySem.W.Frag} : ∀ (d : D) {u : Value}, cst K d u = true → ∃ v, RelV v u ∧ ∀ pz H, RD K pz H d v
  | .non, u, h => by
    cases u with
    | none => exact ⟨.non, rfl, fun _ _ => rfl⟩
    | _ => exact nomatch (show false = true from h)
  | .bl b, u, h => by
    cases u with
    | bool c => exact ⟨.bl b, by rw [show c = b from of_decide_eq_true h]; rfl, fun _ _ => rfl⟩
    | _ => exact nomatch (show false = true from h)
  | .int i, u, h => by
    cases u with
    | int j t => exact ⟨.int i, ⟨t, by rw [show j = i from of_decide_eq_true h]⟩, fun _ _ => rfl⟩
    | _ => exact nomatch (show false = true from h)
  | .str x, u, h => by
    cases u with
    | str y t => exact ⟨.str x, ⟨t, by rw [show y = x from of_decide_eq_true h]⟩, fun _ _ => rfl⟩
    | _ => exact nomatch (show false = true from h)
  | .tup ds, u, h => by
    cases u with
    | ref a =>
      have h : (match K.lookup a with
        | some ⟨.type c, _, .seq its _, _⟩ => decide (c = "tuple") && (decide (its.size ≤ sizeLine) && csts K ds its.toList)
        | _ => false) = true := h
      split at h
      · rename_i c od its n osl q
        rw [Bool.and_eq_true, Bool.and_eq_true] at h
        obtain ⟨h1, h2, h3⟩ := h
        obtain ⟨xs, rv, hr⟩ := csts_ok ds h3
        have hs : its.size ≤ sizeLine := of_decide_eq_true h2
        refine ⟨.ref a, rfl, fun pz H => ⟨a, xs, rfl, ⟨.inr ⟨_, its, n, q, by rw [show c = "tuple" from of_decide_eq_true h1], rfl, hs, rv⟩, ?_⟩, hr pz H⟩⟩
        rw [rv.length]
        exact hs
      · cases h
    | _ => exact nomatch (show false = true from h)
  | .fz ds, u, h => by
    cases u with
    | ref a =>
      have h : (match K.lookup a with
        | some ⟨.type c, none, .seq its _, _⟩ => decide (c = "list") && (decide (its.size ≤ sizeLine) && csts K ds its.toList)
        | _ => false) = true := h
      split at h
      · rename_i c its n osl q
        rw [Bool.and_eq_true, Bool.and_eq_true] at h
        obtain ⟨h1, h2, h3⟩ := h
        obtain ⟨xs, rv, hr⟩ := csts_ok ds h3
        have hs : its.size ≤ sizeLine := of_decide_eq_true h2
        refine ⟨.ref a, rfl, fun pz H => ⟨a, xs, rfl, ⟨.inr ⟨_, its, n, q, by rw [show c = "list" from of_decide_eq_true h1], rfl, rfl, hs, rv⟩, ?_⟩, hr pz H⟩⟩
        rw [rv.length]
        exact hs
      · cases h
    | _ => exact nomatch (show false = true from h)
  | .ty _, _, h => nomatch (show false = true from h)
  | .ref _, _, h => nomatch (show false = true from h)
  | .lst _, _, h => nomatch (show false = true from h)
theorem csts_ok {K : PySem.W.Frag} : ∀ (ds : List D) {us : List Value}, csts K ds us = true → ∃ xs, Vals xs us ∧ ∀ pz H, RDs K pz H ds xs
  | [], us, h => by
    cases us with
    | nil => exact ⟨[], .nil, fun _ _ => rfl⟩
    | cons u r => exact nomatch (show false = true from h)
  | d :: ds, us, h => by
    cases us with
    | nil => exact nomatch (show false = true from h)
    | cons u r =>
      have h : (cst K d u && csts K ds r) = true := h
      rw [Bool.and_eq_true] at h
      obtain ⟨v, r1, h1⟩ := cst_ok d h.1
      obtain ⟨xs, r2, h2⟩ := csts_ok ds h.2
      exact ⟨v :: xs, .cons r1 r2, fun pz H => ⟨v, xs, rfl, h1 pz H, h2 pz H⟩⟩
end
def gcB (K : PySem.W.Frag) (x : Str) (d : D) : Bool := match PySem.W.nsIn K mainGlobals x with
  | some (some u) => cst K d u
  | _ => false
theorem gc_ok {K : PySem.W.Frag} {h : Heap} {mg : Str → Option Value} (X : K.In h) (G : h.Ns mainGlobals mg) {x : Str} {d : D} (c : gcB K x d = true) : GlC K mg x d := by
  unfold gcB at c
  cases q : PySem.W.nsIn K mainGlobals x with
  | none => rw [q] at c; cases c
  | some o =>
    cases o with
    | none => rw [q] at c; cases c
    | some u =>
      rw [q] at c
      obtain ⟨v, r, hr⟩ := cst_ok d c
      exact ⟨u, v, PySem.W.mg_of X G q, r, hr⟩
/-! ### the hook with constants -/
def obX (n : Nat) (fa : List He.Fa) (fn : List He.DefD) (gs : List (Str × D)) (g : Addr → Option Obj) : He.AlD :=
  ((He.obsD fa fn (He.frG g (He.asD g n))).1 && gs.all fun p => gcB (He.frG g (He.asD g n)) p.1 p.2, (He.obsD fa fn (He.frG g (He.asD g n))).2)
def hookX (n : Nat) (fa : List He.Fa) (fn : List He.DefD) (gs : List (Str × D)) : PySem.W.Hook where
  α := He.AlD
  obs := fun s => obX n fa fn gs s.heap.get?
  val := fun _ => He.valD fn
  says := fun _ h => ∃ K : PySem.W.Frag, K.In h ∧ He.SaysD fa fn K ∧ ∀ p ∈ gs, gcB K p.1 p.2 = true
  of := fun _ s e => by
    have e1 := congrArg (fun z : He.AlD => z.1) e
    have e2 := congrArg (fun z : He.AlD => z.2) e
    have e1 : ((He.obsD fa fn (He.frG s.heap.get? (He.asD s.heap.get? n))).1 && gs.all fun p => gcB (He.frG s.heap.get? (He.asD s.heap.get? n)) p.1 p.2) = true := e1
    rw [Bool.and_eq_true] at e1
    exact ⟨_, He.frG_in, Prod.ext e1.1 e2, fun p hp => List.all_eq_true.mp e1.2 p hp⟩
  keeps := fun _ _ _ ⟨K, hK, c⟩ k => ⟨K, PySem.W.Frag.In.keeps hK k, c⟩
theorem obX_eq {n : Nat} {fa : List He.Fa} {fn : List He.DefD} {gs : List (Str × D)} {g : Addr → Option Obj} {s : Shared} (h : ∀ a, g a = s.heap.get? a) : obX n fa fn gs g = (hookX n fa fn gs).obs s := by
  have e : g = s.heap.get? := funext h
  subst e
  rfl
/-! ### a law's end -/
theorem fz_ints {K : PySem.W.Frag} {pz : Ps} {H : Hp} : ∀ ns : List Int, RDs K pz H (ns.map D.int) (ns.map V.int)
  | [] => rfl
  | n :: ns => ⟨.int n, _, rfl, rfl, fz_ints ns⟩
/-- the law's promise: run on the script it gives True -/
def Lw (q : DSp) (n : Nat) : Prop := ∀ ns : List Int, ns.length ≤ n → q [.fz (ns.map .int)] [] fun d _ => d = .bl true
section
variable {P : Program} {w : World} {K : PySem.W.Frag} {mg mb : Str → Option Value} {k : Nat} {fa a : Addr} {fd : FuncData} {x : Str} {q : DSp} {s₁ : Shared} {vs : List Value} {ns : List Int}
/-- from a heap of which nothing is tracked but maybe the script -/
theorem law_from (H : Hp) (hH : ∀ b, H b = none ∨ (b = a ∧ H b = some (.frz { cls := .type "list", data := .seq vs.toArray } (.lst (ns.map .int))))) (hK : H a ≠ none → K.lookup a = none) (hf : FzL K H a (ns.map .int)) (hok : HOk P w H s₁.heap)
    (KX : K.In s₁.heap) (hns : s₁.heap.Ns mainGlobals mg) (hb : s₁.heap.Ns builtinsNs mb) (hbb : ∀ x : Str, x ≠ "__name__" → mb x = bootBuiltins x) (hlim : s₁.heap.NoLimit) (hg : s₁.gens = #[])
    (ha : s₁.heap.get? a = some { cls := .type "list", data := .seq vs.toArray }) (hl : ns.length ≤ sizeLine) (hr : Room k callerA)
    (F : ∀ base : Heap, K.In base → base.Ns mainGlobals mg → FnG P w K mg base C8.CX0 k fa fd [x] (lP K q)) (hbind : ∀ (s : Shared) (u : Value), BindsTo s fd ⟨[u], []⟩ [(x, u)]) (hq : q [.fz (ns.map .int)] [] fun d _ => d = .bl true) :
    codeAny (model P w) callerA (.call (.ref fa) ⟨[.ref a], []⟩) (fun r s' => r = .ok (.ret (.bool true)) ∧ OldK s₁.heap s'.heap ∧ s'.os = s₁.os ∧ AllBare s'.gens) s₁ := by
  have old : ∀ {b : Addr} {o : Obj}, s₁.heap.get? b = some o → (∀ vs', o.data ≠ .seq vs' 0) ∨ b ≠ a → H b = none := fun {b o} e d => by
    rcases hH b with z | ⟨z, _⟩
    · exact z
    · subst z
      rcases d with d | d
      · rw [ha] at e
        cases e
        exact absurd rfl (d vs.toArray)
      · exact absurd rfl d
  have inB : ∀ {b : Addr} {o : Obj}, s₁.heap.get? b = some o → H b = none → (hidT s₁.heap H).get? b = some o := fun e n => hidT_get e n
  have dictB : ∀ {b : Addr} {m : Str → Option Value}, s₁.heap.Ns b m → (hidT s₁.heap H).Ns b m := fun ⟨o, es, ep, e, d, r⟩ =>
    ⟨o, es, ep, inB e (old e (.inl fun vs' z => by rw [d] at z; cases z)), d, r⟩
  have kB : K.In (hidT s₁.heap H) := fun b o e => inB (KX b o e) (by
    by_cases z : b = a
    · subst z
      cases q : H b with
      | none => rfl
      | some u => rw [hK (by rw [q]; simp)] at e; cases e
    · exact old (KX b o e) (.inr z))
  obtain ⟨mc, l1, l2⟩ := hlim
  have en : Env0 P w K mg (hidT s₁.heap H) callerA [] s₁ H :=
    ⟨rfl, ⟨kB, dictB hns, ⟨mb, dictB hb, hbb⟩, ⟨mc, dictB l1, l2⟩⟩, fun b o e => of_hidT e, Nat.le_of_eq (hidT_size _ _), trivial, fun b hb => absurd (show b ∈ ([] : List Addr) from hb) (by simp), hok, .of_eq hg⟩
  have sp : lP K q [.ref a] H (fun v _ => v = .bl true) C8.E0 := ⟨⟨[], []⟩, [], [.fz (ns.map .int)], fun d _ => d = .bl true,
    ⟨.ref a, [], rfl, ⟨a, ns.map .int, rfl, ⟨hf, by rw [List.length_map]; exact hl⟩, fz_ints ns⟩, rfl⟩,
    ⟨rfl, List.nodup_nil, fun _ z => absurd z (by simp), fun n c a e => by simp at e⟩, hq, fun v H' d ps' G' rd _ _ e => by subst e; exact rd⟩
  refine codeAny_mono ((F _ kB (dictB hns)).go callerA [] s₁ H ⟨[.ref a], []⟩ [.ref a] [.ref a] _ _ hr rfl en (hbind s₁ (.ref a)) (.cons rfl .nil) sp) fun res s' z => ?_
  rcases res with er | (_ | _ | _ | u)
  · exact (show False from z).elim
  · exact z.elim
  · exact z.elim
  · exact z.elim
  · obtain ⟨v, H', os, bare, un, hok', rv, e⟩ := z
    have e : v = .bl true := e
    subst e
    have ru : u = Value.bool true := rv
    refine ⟨by rw [ru], OldK.of_keep fun b o e => ?_, os, bare⟩
    rcases hH b with z | ⟨z, z2⟩
    · exact un.keep b o e z (fun m => absurd (show b ∈ ([] : List Addr) from m) (by simp)) (by simp)
    · have z3 := un.frzs b _ _ z2
      obtain ⟨e1, _⟩ := hok b _ z2
      obtain ⟨e2, _⟩ := hok' b _ z3
      exact (e.symm.trans e1) ▸ e2
end
theorem law_g {l : PySem.W.OpenLaw} {n k : Nat} {qq : Program} {loose : List Str} {XP : (Str → Option Value) → Heap → Prop} {YP : World → Heap → Prop} {d : DefRec} {x lx : Str} {q : DSp}
    (hn : l.most = some n) (hn2 : n ≤ sizeLine) (hdf : d.params.defaults = []) (hdn : d.name = lx) (hr : Room k callerA) (hq : Lw q n)
    (F : ∀ (w : World) (mg : Str → Option Value) (fa : Addr) (h : Heap), YP w h → h.Ns mainGlobals mg → mg lx = some (.ref fa) →
      ∃ (K : PySem.W.Frag) (fd : FuncData), K.In h ∧ (∀ (s : Shared) (u : Value), BindsTo s fd ⟨[u], []⟩ [(x, u)]) ∧ ∀ base : Heap, K.In base → base.Ns mainGlobals mg → FnG l.prog w K mg base C8.CX0 k fa fd [x] (lP K q)) :
    PySem.W.WalkO qq loose XP YP l.row.toRowW d [] (fun f vs => PySem.call f vs) := by
  subst hdn
  refine Att.attach_call hn hdf fun w s₀ s₁ mg mb fa o pm cd doc a vs ns G Y ho hd hcd hmg hobj hints hlen hg => ?_
  obtain ⟨K, fd, KX, hb, hF⟩ := F w mg fa _ Y G.T.g hmg
  have rv := vals_ints hints
  have hz : ns.length ≤ sizeLine := Nat.le_trans hlen hn2
  cases hk : K.lookup a with
  | some ob =>
    have e := (KX a ob hk).symm.trans hobj
    cases e
    exact law_from (fun _ => none) (fun _ => .inl rfl) (fun z => absurd rfl z) (.inr ⟨_, vs.toArray, _, hk, rfl, rfl, rfl, by rw [List.size_toArray, hints.length]; exact hz, by simpa using rv⟩)
      (fun b u z => nomatch (show (none : Option HO) = some u from z)) KX G.T.g G.T.b G.T.builtins G.T.nolimit hg hobj hz hr hF hb (hq ns hlen)
  | none =>
    refine law_from (fun b => if b = a then some (.frz { cls := .type "list", data := .seq vs.toArray } (.lst (ns.map V.int))) else none) (fun b => ?_) (fun _ => hk) (.inl ⟨_, if_pos rfl⟩) (fun b u z => ?_)
      KX G.T.g G.T.b G.T.builtins G.T.nolimit hg hobj hz hr hF hb (hq ns hlen)
    · by_cases hb : b = a
      · exact .inr ⟨hb, if_pos hb⟩
      · exact .inl (if_neg hb)
    · by_cases hb : b = a
      · have z' := (if_pos hb).symm.trans z
        cases z'
        subst hb
        exact ⟨hobj, by rw [List.length_map]; exact hz, vs, _, rv, hobj⟩
      · exact nomatch (if_neg hb).symm.trans z
end Dy

/-! text Dy12 -/
set_option maxHeartbeats 1000000
namespace Dy
open PySem PySem.Spec PyProof.Rows L2
/-! ### what repr can show -/
mutual
def smI : D → Bool
  | .non => true
  | .bl _ => true
  | .int i => decide (i.natAbs.log2 < 1920)
  | .str x => x.cps.toList.all fun c => decide (c < 16 ^ 8)
  | .tup ds => smIs ds
  | .lst ds => smIs ds
  | .fz ds => smIs ds
  | .ty _ => false
  | .ref _ => false
def smIs : List D → Bool
  | [] => true
  | d :: ds => smI d && smIs ds
end
mutual
theorem smI_ok : ∀ d : D, smI d = true → d.isP = true ∧ d.toP.showable = true ∧ d.toP.hasDict = false ∧ d.toP.leavesShort 1922 = true
  | .non, _ => ⟨rfl, rfl, rfl, rfl⟩
  | .bl _, _ => ⟨rfl, rfl, rfl, rfl⟩
  | .int i, h => by
    have h1 : i.natAbs.log2 < 1920 := of_decide_eq_true h
    have h2 : (toString i).length ≤ 1920 + 1 := int_text_length_le (by decide) h1
    refine ⟨rfl, h, rfl, ?_⟩
    show decide ((PyData.shown (.int i)).length ≤ 1922) = true
    refine decide_eq_true (Nat.le_trans ?_ (show 1921 ≤ 1922 by decide))
    show (Str.ofString (toString i)).length ≤ 1921
    rw [PySem.ofString_length]
    exact h2
  | .str x, h => ⟨rfl, rfl, rfl, h⟩
  | .tup ds, h => by
    obtain ⟨h1, h2, h3, h4⟩ := smIs_ok ds h
    exact ⟨h1, h2, h3, h4⟩
  | .lst ds, h => by
    obtain ⟨h1, h2, h3, h4⟩ := smIs_ok ds h
    exact ⟨h1, h2, h3, h4⟩
  | .fz ds, h => by
    obtain ⟨h1, h2, h3, h4⟩ := smIs_ok ds h
    exact ⟨h1, h2, h3, h4⟩
  | .ty _, h => nomatch (show false = true from h)
  | .ref _, h => nomatch (show false = true from h)
theorem smIs_ok : ∀ ds : List D, smIs ds = true → isPs ds = true ∧ PyData.showableAll (toPs ds) = true ∧ PyData.hasDictAll (toPs ds) = false ∧ PyData.leavesShortAll 1922 (toPs ds) = true
  | [], _ => ⟨rfl, rfl, rfl, rfl⟩
  | d :: ds, h => by
    have h : (smI d && smIs ds) = true := h
    rw [Bool.and_eq_true] at h
    obtain ⟨a1, a2, a3, a4⟩ := smI_ok d h.1
    obtain ⟨b1, b2, b3, b4⟩ := smIs_ok ds h.2
    refine ⟨?_, ?_, ?_, ?_⟩
    · show (d.isP && isPs ds) = true
      rw [a1, b1]; rfl
    · show (d.toP.showable && PyData.showableAll (toPs ds)) = true
      rw [a2, b2]; rfl
    · show (d.toP.hasDict || PyData.hasDictAll (toPs ds)) = false
      rw [a3, b3]; rfl
    · show (PyData.leavesShort 1922 d.toP && PyData.leavesShortAll 1922 (toPs ds)) = true
      rw [a4, b4]; rfl
end
theorem okR_by {d : D} (h : smI d = true) (hb : d.toP.bulk ≤ 8000) (hd : d.toP.depth ≤ 60) : okR d = true := by
  obtain ⟨h1, h2, h3, h4⟩ := smI_ok d h
  have h5 := PyData.shown_le_bulk 1922 (by decide) d.toP h4
  have h6 : d.toP.shown.length ≤ sizeLine := by rw [sizeLine_eq]; omega
  unfold okR
  rw [h1, h2, h3, decide_eq_true hd, decide_eq_true h6]
  rfl
theorem log2_small {n k : Nat} (h : n < 2 ^ k) (hk : 0 < k) : n.log2 < k := by
  by_cases h0 : n = 0
  · subst h0; rw [Nat.log2_zero]; exact hk
  · exact (Nat.log2_lt h0).mpr h
theorem repC_by {d : D} {G : GP} {Q : KD} (h : smI d = true) (hb : d.toP.bulk ≤ 8000) (hd : d.toP.depth ≤ 60) (q : Q (.str d.toP.shown) G) : repC [d] G Q := ⟨okR_by h hb hd, q⟩
/-! ### ==, by cases -/
section
variable {G : GP} {Q : KD}
theorem eqD_int (i j : Int) : eqD (.int i) (.int j) G Q = Q (.bl (decide (i = j))) G := by
  have e : eqvD (.int i) (.int j) = decide (i = j) := by
    show PyData.eqv (.int i) (.int j) = _
    unfold PyData.eqv
    rw [Bool.eq_iff_iff]
    simp
  unfold eqD
  rw [e]
  exact propext ⟨And.right, fun q => ⟨rfl, q⟩⟩
theorem neD_int (i j : Int) : neD (.int i) (.int j) G Q = Q (.bl (!decide (i = j))) G := by
  have e : eqvD (.int i) (.int j) = decide (i = j) := by
    show PyData.eqv (.int i) (.int j) = _
    unfold PyData.eqv
    rw [Bool.eq_iff_iff]
    simp
  unfold neD
  rw [e]
  exact propext ⟨And.right, fun q => ⟨rfl, q⟩⟩
theorem eqD_str (i j : Str) : eqD (.str i) (.str j) G Q = Q (.bl (decide (i = j))) G := by
  have e : eqvD (.str i) (.str j) = decide (i = j) := by
    show PyData.eqv (.str i) (.str j) = _
    unfold PyData.eqv
    rw [Bool.eq_iff_iff]
    simp
  unfold eqD
  rw [e]
  exact propext ⟨And.right, fun q => ⟨rfl, q⟩⟩
theorem neD_str (i j : Str) : neD (.str i) (.str j) G Q = Q (.bl (!decide (i = j))) G := by
  have e : eqvD (.str i) (.str j) = decide (i = j) := by
    show PyData.eqv (.str i) (.str j) = _
    unfold PyData.eqv
    rw [Bool.eq_iff_iff]
    simp
  unfold neD
  rw [e]
  exact propext ⟨And.right, fun q => ⟨rfl, q⟩⟩
/-- .. of pairs of ints -/
theorem eqD_p (a b c d : Int) : eqD (.tup [.int a, .int b]) (.tup [.int c, .int d]) G Q = Q (.bl (decide (a = c ∧ b = d))) G := by
  have e : eqvD (.tup [.int a, .int b]) (.tup [.int c, .int d]) = decide (a = c ∧ b = d) := by
    show PyData.eqv (.tuple [.int a, .int b]) (.tuple [.int c, .int d]) = _
    simp only [PyData.eqv, PyData.eqvAll]
    rw [Bool.eq_iff_iff]
    simp
  unfold eqD
  rw [e]
  exact propext ⟨And.right, fun q => ⟨rfl, q⟩⟩
theorem neD_p (a b c d : Int) : neD (.tup [.int a, .int b]) (.tup [.int c, .int d]) G Q = Q (.bl (!decide (a = c ∧ b = d))) G := by
  have e : eqvD (.tup [.int a, .int b]) (.tup [.int c, .int d]) = decide (a = c ∧ b = d) := by
    show PyData.eqv (.tuple [.int a, .int b]) (.tuple [.int c, .int d]) = _
    simp only [PyData.eqv, PyData.eqvAll]
    rw [Bool.eq_iff_iff]
    simp
  unfold neD
  rw [e]
  exact propext ⟨And.right, fun q => ⟨rfl, q⟩⟩
/-! ### places -/
theorem ix_p0 (a b : D) : ixQ (.tup [a, b]) (.int 0) G Q = Q a G := propext ⟨fun h => h, fun h => h⟩
theorem ix_p1 (a b : D) : ixQ (.tup [a, b]) (.int 1) G Q = Q b G := propext ⟨fun h => h, fun h => h⟩
theorem ix_t0 (a b c : D) : ixQ (.tup [a, b, c]) (.int 0) G Q = Q a G := propext ⟨fun h => h, fun h => h⟩
theorem ix_t1 (a b c : D) : ixQ (.tup [a, b, c]) (.int 1) G Q = Q b G := propext ⟨fun h => h, fun h => h⟩
theorem ix_t2 (a b c : D) : ixQ (.tup [a, b, c]) (.int 2) G Q = Q c G := propext ⟨fun h => h, fun h => h⟩
theorem ix_num {n k : Nat} {i : Int} (h : G[n]? = some (.nums k)) (hi : 0 ≤ i ∧ i < k) (q : ∀ z : Int, Q (.int z) G) : ixQ (.ref n) (.int i) G Q := by
  have e : numsAt G (.ref n) = some k := by
    show (match G[n]? with | some (.nums k) => some k | _ => none) = some k
    rw [h]
  unfold ixQ
  rw [e]
  exact ⟨hi, q⟩
theorem set_num {n k : Nat} {i z : Int} {R : GP → Prop} (h : G[n]? = some (.nums k)) (hi : 0 ≤ i ∧ i < k) (q : R G) : setD (.ref n) (.int i) (.int z) G R := by
  show (match G[n]? with
    | some (.nums k) => (0 ≤ i ∧ i < k) ∧ R G
    | some (.lst ds) => (match ixN ds.length i with
      | some j => R (G.set n (.lst (ds.set j (.int z))))
      | none => False)
    | none => False)
  rw [h]
  exact ⟨hi, q⟩
/-- a place of a sequence -/
theorem ix_seq {x : D} {ds : List D} {i : Nat} {d : D} (h : seqOf G x = some ds) (hs : numsAt G x = none) (hx : ∀ z, x ≠ .str z) (hi : ds[i]? = some d) (q : Q d G) : ixQ x (.int (i : Nat)) G Q := by
  unfold ixQ
  rw [hs]
  show ixD x (.int (i : Nat)) G Q
  have hlt := (List.getElem?_eq_some_iff.mp hi).1
  have e : L2.atI ds ((i : Nat) : Int) = some d := by
    unfold L2.atI
    rw [ixN_in (by omega) (by omega)]
    exact hi
  cases x with
  | str z => exact absurd rfl (hx z)
  | tup es => obtain rfl : es = ds := Option.some.inj h; show (match L2.atI es ((i : Nat) : Int) with | some d => Q d G | none => False); rw [e]; exact q
  | lst es => obtain rfl : es = ds := Option.some.inj h; show (match L2.atI es ((i : Nat) : Int) with | some d => Q d G | none => False); rw [e]; exact q
  | fz es => obtain rfl : es = ds := Option.some.inj h; show (match L2.atI es ((i : Nat) : Int) with | some d => Q d G | none => False); rw [e]; exact q
  | ref n =>
    have h : cellL G n = some ds := h
    show (match cellL G n with | some ds => (match L2.atI ds ((i : Nat) : Int) with | some d => Q d G | none => False) | none => False)
    rw [h]
    show (match L2.atI ds ((i : Nat) : Int) with | some d => Q d G | none => False)
    rw [e]
    exact q
  | _ => cases h
end
theorem mulOk {x y : Int} {a b : Nat} (hx : x.natAbs < 2 ^ a) (hy : y.natAbs < 2 ^ b) (h : a + b ≤ 134217728) : IntMulOk x y :=
  IntMulOk.of_le (intBits_le_iff.mpr hx) (intBits_le_iff.mpr hy) h
theorem mulOkL {x y : Int} (hx : x.natAbs < 2 ^ 64) : IntMulOk x y := IntMulOk.of_left (intBits_le_iff.mpr hx)
theorem mulOkR {x y : Int} (hx : y.natAbs < 2 ^ 64) : IntMulOk x y := IntMulOk.of_right (intBits_le_iff.mpr hx)
theorem divOk {x y : Int} {a : Nat} (h0 : y ≠ 0) (hy : y.natAbs < 2 ^ a) (ha : a ≤ 9000) : DivOk x y := by
  refine ⟨h0, PyProof.noPylong_of_log2 ?_⟩
  have h1 : y.natAbs ≠ 0 := by omega
  have := (Nat.log2_lt h1).mpr hy
  omega
end Dy
namespace Dy
open PySem PySem.Spec PyProof.Rows L2
section
variable {G : GP} {Q : KD}
theorem eq_i {i j : Int} (q : Q (.bl (decide (i = j))) G) : eqD (.int i) (.int j) G Q := by rw [eqD_int]; exact q
theorem ne_i {i j : Int} (q : Q (.bl (!decide (i = j))) G) : neD (.int i) (.int j) G Q := by rw [neD_int]; exact q
theorem eq_s {i j : Str} (q : Q (.bl (decide (i = j))) G) : eqD (.str i) (.str j) G Q := by rw [eqD_str]; exact q
theorem ne_s {i j : Str} (q : Q (.bl (!decide (i = j))) G) : neD (.str i) (.str j) G Q := by rw [neD_str]; exact q
theorem eq_p {a b c d : Int} (q : Q (.bl (decide (a = c ∧ b = d))) G) : eqD (.tup [.int a, .int b]) (.tup [.int c, .int d]) G Q := by rw [eqD_p]; exact q
theorem ne_p {a b c d : Int} (q : Q (.bl (!decide (a = c ∧ b = d))) G) : neD (.tup [.int a, .int b]) (.tup [.int c, .int d]) G Q := by rw [neD_p]; exact q
end
end Dy
namespace Dy
open PySem PySem.Spec PyProof.Rows L2
theorem ite_b {b : Bool} {A B : Prop} (h1 : b = true → A) (h2 : b = false → B) : if b = true then A else B := by
  cases b with
  | true => exact h1 rfl
  | false => exact h2 rfl
theorem ite_d {c : Prop} [Decidable c] {A B : Prop} (h1 : c → A) (h2 : ¬c → B) : if decide c = true then A else B := ite_b (fun h => h1 (of_decide_eq_true h)) fun h => h2 (of_decide_eq_false h)
theorem ite_d' {c : Prop} [Decidable c] {A B : Prop} (h1 : c → A) (h2 : ¬c → B) : if c then A else B := by
  by_cases h : c
  · rw [if_pos h]; exact h1 h
  · rw [if_neg h]; exact h2 h
theorem ite_n {c : Prop} [Decidable c] {A B : Prop} (h1 : ¬c → A) (h2 : c → B) : if (!decide c) = true then A else B := ite_b (fun h => h1 (of_decide_eq_false (by simpa using h))) fun h => h2 (of_decide_eq_true (by simpa using h))
theorem ite_no {c : Prop} [Decidable c] {A B : Prop} (h : c) (h2 : B) : if (!decide c) = true then A else B := ite_n (fun z => absurd h z) fun _ => h2
theorem sz1 : 1 ≤ sizeLine := by decide
theorem sz2 : 2 ≤ sizeLine := by decide
theorem sz3 : 3 ≤ sizeLine := by decide
theorem sz4 : 4 ≤ sizeLine := by decide
theorem sz5 : 5 ≤ sizeLine := by decide
theorem sz6 : 6 ≤ sizeLine := by decide
end Dy
namespace Dy
open PySem PySem.Spec PyProof.Rows L2
section
variable {G : GP} {Q : KD}
theorem ne_same {a b : Int} (q : Q (.bl false) G) : neD (.tup [.int a, .int b]) (.tup [.int a, .int b]) G Q := by
  refine ne_p ?_
  rw [decide_eq_true (⟨rfl, rfl⟩ : a = a ∧ b = b)]
  exact q
theorem ne_sameI {a : Int} (q : Q (.bl false) G) : neD (.int a) (.int a) G Q := by
  refine ne_i ?_
  rw [decide_eq_true (rfl : a = a)]
  exact q
theorem ne_sameS {a : Str} (q : Q (.bl false) G) : neD (.str a) (.str a) G Q := by
  refine ne_s ?_
  rw [decide_eq_true (rfl : a = a)]
  exact q
end
end Dy
namespace Dy
open PySem PySem.Spec PyProof.Rows L2
/-! ### an expression's value, where nothing changes -/
def Ev (w : WE) (ρ : RHO) (G : GP) (d : D) : Prop := ∀ Q : KD, Q d G → w ρ G Q
def Et (w : WT) (ρ : RHO) (G : GP) (b : Bool) : Prop := ∀ Q : Bool → GP → Prop, Q b G → w ρ G Q
section
variable {wa wb : WE} {ρ : RHO} {G : GP} {i j : Int} {x y d : D}
theorem Ev.var {n : Nat} (h : look ρ n = some d) : Ev (wVar n) ρ G d := fun Q q => by
  unfold wVar
  rw [h]
  exact q
theorem Ev.c : Ev (wC d) ρ G d := fun Q q => q
theorem Ev.op {bd : D → D → GP → KD → Prop} (ha : Ev wa ρ G x) (hb : Ev wb ρ G y) (h : ∀ Q : KD, Q d G → bd x y G Q) : Ev (yOp bd wa wb) ρ G d := fun Q q => ha _ (hb _ (h Q q))
theorem Ev.add (ha : Ev wa ρ G (.int i)) (hb : Ev wb ρ G (.int j)) : Ev (yOp addD wa wb) ρ G (.int (i + j)) := .op ha hb fun Q q => q
theorem Ev.sub (ha : Ev wa ρ G (.int i)) (hb : Ev wb ρ G (.int j)) : Ev (yOp subD wa wb) ρ G (.int (i - j)) := .op ha hb fun Q q => q
theorem Ev.mul (ha : Ev wa ρ G (.int i)) (hb : Ev wb ρ G (.int j)) (h : IntMulOk i j) : Ev (yOp mulD wa wb) ρ G (.int (i * j)) := .op ha hb fun Q q => ⟨h, q⟩
theorem Ev.fdiv (ha : Ev wa ρ G (.int i)) (hb : Ev wb ρ G (.int j)) (h : DivOk i j) : Ev (yOp fdivD wa wb) ρ G (.int (i.fdiv j)) := .op ha hb fun Q q => ⟨h, q⟩
theorem Ev.mod (ha : Ev wa ρ G (.int i)) (hb : Ev wb ρ G (.int j)) (h : j ≠ 0) : Ev (yOp modD wa wb) ρ G (.int (i.fmod j)) := .op ha hb fun Q q => ⟨h, q⟩
theorem Ev.pow (ha : Ev wa ρ G (.int i)) (hb : Ev wb ρ G (.int j)) (h : 0 ≤ j ∧ (Builtin.Int.intBits i : Int) * j ≤ 2 ^ 27) : Ev (yOp powD wa wb) ρ G (.int (i ^ j.toNat)) := .op ha hb fun Q q => ⟨h, q⟩
theorem Ev.lt (ha : Ev wa ρ G (.int i)) (hb : Ev wb ρ G (.int j)) : Ev (yOp ltD wa wb) ρ G (.bl (decide (i < j))) := .op ha hb fun Q q => q
theorem Ev.neg (ha : Ev wa ρ G (.int i)) : Ev (yUn negD wa) ρ G (.int (-i)) := fun Q q => ha _ q
theorem Ev.bl1 {cd : List D → GP → KD → Prop} (ha : Ev wa ρ G x) (h : ∀ Q : KD, Q d G → cd [x] G Q) : Ev (yBl cd (aCons wa aNil)) ρ G d := fun Q q => ha _ (h Q q)
theorem Ev.intB {b : Bool} (ha : Ev wa ρ G (.bl b)) : Ev (yBl intC (aCons wa aNil)) ρ G (.int (if b then 1 else 0)) := .bl1 ha fun Q q => q
theorem Ev.intI (ha : Ev wa ρ G (.int i)) : Ev (yBl intC (aCons wa aNil)) ρ G (.int i) := .bl1 ha fun Q q => q
theorem Ev.abs (ha : Ev wa ρ G (.int i)) : Ev (yBl absC (aCons wa aNil)) ρ G (.int (i.natAbs : Nat)) := .bl1 ha fun Q q => q
theorem Ev.t0 {a b c : D} (ha : Ev wa ρ G (.tup [a, b, c])) : Ev (yOp ixQ wa (wC (.int 0))) ρ G a := .op ha .c fun Q q => q
theorem Ev.t1 {a b c : D} (ha : Ev wa ρ G (.tup [a, b, c])) : Ev (yOp ixQ wa (wC (.int 1))) ρ G b := .op ha .c fun Q q => q
theorem Ev.t2 {a b c : D} (ha : Ev wa ρ G (.tup [a, b, c])) : Ev (yOp ixQ wa (wC (.int 2))) ρ G c := .op ha .c fun Q q => q
theorem Et.neI (ha : Ev wa ρ G (.int i)) (hb : Ev wb ρ G (.int i)) : Et (yCmT neD wa wb) ρ G false := fun Q q => ha _ (hb _ (ne_sameI q))
theorem Ev.set {De : DEnds} {n : Nat} (ha : Ev wa ρ G d) (k : De.nx (ρ.set n (some d)) G) : sSet n wa De ρ G := ha _ k
theorem Et.ff {wt : WT} {t u : WS} {De : DEnds} (h : Et wt ρ G false) (k : u De ρ G) : sIf wt t u De ρ G := h _ k
end
end Dy
namespace Dy
open PySem PySem.Spec PyProof.Rows L2
/-- a statement, then the others -/
theorem sq {t u : WS} {De : DEnds} {ρ : RHO} {G : GP} (h : t { De with nx := u De } ρ G) : wSeq t u De ρ G := h
end Dy

/-! text Head76 -/
set_option maxHeartbeats 0
namespace K
open PySem PySem.Spec PyProof.Rows L2
def top (i : Nat) : Stmt := PySem.Challenge.pw_gridturns_k76_whole_fractions_and_diviso.main.body.getD i (.Pass ⟨0, 0, 0, 0⟩)
def d_is_integer : He.DefD := ⟨("is_integer", none), "is_integer", "is_integer", defArgs (top 11), defBody (top 11), defScope (top 11), [], []⟩
def d_common_divisor : He.DefD := ⟨("common_divisor", none), "common_divisor", "common_divisor", defArgs (top 12), defBody (top 12), defScope (top 12), [], []⟩
def d_is_fraction : He.DefD := ⟨("is_fraction", none), "is_fraction", "is_fraction", defArgs (top 13), defBody (top 13), defScope (top 13), [], []⟩
def d_reduced : He.DefD := ⟨("reduced", none), "reduced", "reduced", defArgs (top 14), defBody (top 14), defScope (top 14), [], []⟩
def d_fraction : He.DefD := ⟨("fraction", none), "fraction", "fraction", defArgs (top 15), defBody (top 15), defScope (top 15), [.int 1], []⟩
def d_require_fraction : He.DefD := ⟨("require_fraction", none), "require_fraction", "require_fraction", defArgs (top 16), defBody (top 16), defScope (top 16), [], []⟩
def d_require_count : He.DefD := ⟨("require_count", none), "require_count", "require_count", defArgs (top 17), defBody (top 17), defScope (top 17), [.int 0, .int 400], []⟩
def d_added : He.DefD := ⟨("added", none), "added", "added", defArgs (top 18), defBody (top 18), defScope (top 18), [], []⟩
def d_multiplied : He.DefD := ⟨("multiplied", none), "multiplied", "multiplied", defArgs (top 19), defBody (top 19), defScope (top 19), [], []⟩
def d_opposite : He.DefD := ⟨("opposite", none), "opposite", "opposite", defArgs (top 20), defBody (top 20), defScope (top 20), [], []⟩
def d_divided : He.DefD := ⟨("divided", none), "divided", "divided", defArgs (top 21), defBody (top 21), defScope (top 21), [], []⟩
def d_sum_of : He.DefD := ⟨("sum_of", none), "sum_of", "sum_of", defArgs (top 22), defBody (top 22), defScope (top 22), [], []⟩
def d_plus : He.DefD := ⟨("plus", none), "plus", "plus", defArgs (top 23), defBody (top 23), defScope (top 23), [], []⟩
def d_minus : He.DefD := ⟨("minus", none), "minus", "minus", defArgs (top 24), defBody (top 24), defScope (top 24), [], []⟩
def d_times : He.DefD := ⟨("times", none), "times", "times", defArgs (top 25), defBody (top 25), defScope (top 25), [], []⟩
def d_over : He.DefD := ⟨("over", none), "over", "over", defArgs (top 26), defBody (top 26), defScope (top 26), [], []⟩
def d_compared : He.DefD := ⟨("compared", none), "compared", "compared", defArgs (top 27), defBody (top 27), defScope (top 27), [], []⟩
def d_total : He.DefD := ⟨("total", none), "total", "total", defArgs (top 28), defBody (top 28), defScope (top 28), [], []⟩
def d_power : He.DefD := ⟨("power", none), "power", "power", defArgs (top 29), defBody (top 29), defScope (top 29), [], []⟩
def d_require_integers : He.DefD := ⟨("require_integers", none), "require_integers", "require_integers", defArgs (top 30), defBody (top 30), defScope (top 30), [], []⟩
def d_divisor_of : He.DefD := ⟨("divisor_of", none), "divisor_of", "divisor_of", defArgs (top 31), defBody (top 31), defScope (top 31), [], []⟩
def d_greatest_divisor : He.DefD := ⟨("greatest_divisor", none), "greatest_divisor", "greatest_divisor", defArgs (top 32), defBody (top 32), defScope (top 32), [], []⟩
def d_multiple_of : He.DefD := ⟨("multiple_of", none), "multiple_of", "multiple_of", defArgs (top 33), defBody (top 33), defScope (top 33), [], []⟩
def d_least_multiple_of : He.DefD := ⟨("least_multiple_of", none), "least_multiple_of", "least_multiple_of", defArgs (top 34), defBody (top 34), defScope (top 34), [], []⟩
def d_combined : He.DefD := ⟨("combined", none), "combined", "combined", defArgs (top 35), defBody (top 35), defScope (top 35), [], []⟩
def d_bezout : He.DefD := ⟨("bezout", none), "bezout", "bezout", defArgs (top 36), defBody (top 36), defScope (top 36), [], []⟩
def d__law_dice : He.DefD := ⟨("_law_dice", none), "_law_dice", "_law_dice", defArgs (top 38), defBody (top 38), defScope (top 38), [], []⟩
def d__law_roll : He.DefD := ⟨("_law_roll", none), "_law_roll", "_law_roll", defArgs (top 39), defBody (top 39), defScope (top 39), [], []⟩
def d__law_pick : He.DefD := ⟨("_law_pick", none), "_law_pick", "_law_pick", defArgs (top 40), defBody (top 40), defScope (top 40), [], []⟩
def d__law_fr : He.DefD := ⟨("_law_fr", none), "_law_fr", "_law_fr", defArgs (top 41), defBody (top 41), defScope (top 41), [], []⟩
def d__law_plus : He.DefD := ⟨("_law_plus", none), "_law_plus", "_law_plus", defArgs (top 42), defBody (top 42), defScope (top 42), [], []⟩
def d__law_times : He.DefD := ⟨("_law_times", none), "_law_times", "_law_times", defArgs (top 43), defBody (top 43), defScope (top 43), [], []⟩
def d__law_minus : He.DefD := ⟨("_law_minus", none), "_law_minus", "_law_minus", defArgs (top 44), defBody (top 44), defScope (top 44), [], []⟩
def d__law_integer : He.DefD := ⟨("_law_integer", none), "_law_integer", "_law_integer", defArgs (top 45), defBody (top 45), defScope (top 45), [], []⟩
def d__law_drawn : He.DefD := ⟨("_law_drawn", none), "_law_drawn", "_law_drawn", defArgs (top 46), defBody (top 46), defScope (top 46), [], []⟩
def d__law_divisor : He.DefD := ⟨("_law_divisor", none), "_law_divisor", "_law_divisor", defArgs (top 47), defBody (top 47), defScope (top 47), [], []⟩
def d__law_multiple : He.DefD := ⟨("_law_multiple", none), "_law_multiple", "_law_multiple", defArgs (top 48), defBody (top 48), defScope (top 48), [], []⟩
def d__law_fractions_right : He.DefD := ⟨("_law_fractions_right", none), "_law_fractions_right", "_law_fractions_right", defArgs (top 49), defBody (top 49), defScope (top 49), [], []⟩
def d__law_divisors_right : He.DefD := ⟨("_law_divisors_right", none), "_law_divisors_right", "_law_divisors_right", defArgs (top 50), defBody (top 50), defScope (top 50), [], []⟩
def d_law : He.DefD := ⟨("law", none), "law", "law", defArgs (top 51), defBody (top 51), defScope (top 51), [], []⟩
def fn : List He.DefD := ([d_is_integer, d_common_divisor, d_is_fraction, d_reduced, d_fraction, d_require_fraction, d_require_count, d_added, d_multiplied, d_opposite, d_divided, d_sum_of, d_plus, d_minus, d_times] : List He.DefD) ++ ([d_over, d_compared, d_total, d_power, d_require_integers, d_divisor_of, d_greatest_divisor, d_multiple_of, d_least_multiple_of, d_combined, d_bezout, d__law_dice, d__law_roll, d__law_pick, d__law_fr] : List He.DefD) ++ ([d__law_plus, d__law_times, d__law_minus, d__law_integer, d__law_drawn, d__law_divisor, d__law_multiple, d__law_fractions_right, d__law_divisors_right, d_law] : List He.DefD)
def fa : List He.Fa := ([.glo "is_integer", .glo "common_divisor", .glo "is_fraction", .glo "reduced", .glo "fraction", .glo "require_fraction", .glo "require_count", .glo "added", .glo "multiplied", .glo "opposite", .glo "divided", .glo "sum_of", .glo "plus", .glo "minus", .glo "times"] : List He.Fa) ++ ([.glo "over", .glo "compared", .glo "total", .glo "power", .glo "require_integers", .glo "divisor_of", .glo "greatest_divisor", .glo "multiple_of", .glo "least_multiple_of", .glo "combined", .glo "bezout", .glo "_law_dice", .glo "_law_roll", .glo "_law_pick", .glo "_law_fr"] : List He.Fa) ++ ([.glo "_law_plus", .glo "_law_times", .glo "_law_minus", .glo "_law_integer", .glo "_law_drawn", .glo "_law_divisor", .glo "_law_multiple", .glo "_law_fractions_right", .glo "_law_divisors_right", .glo "law", .free "ArithmeticError", .free "IndexError", .free "ValueError", .free "abs", .free "all"] : List He.Fa) ++ ([.free "bool", .free "int", .free "isinstance", .free "len", .free "max", .free "min", .free "range", .free "repr", .free "super", .free "tuple", .free "zip"] : List He.Fa)
abbrev R : PySem.W.OpenRow := PySem.W.OpenLaw.row PySem.Challenge.rw_gridturns_k76_whole_fractions_and_diviso
def gs : List (Str × Dy.D) := ([("NOUGHT", (.tup [(.int 0), (.int 1)])), ("ONE", (.tup [(.int 1), (.int 1)])), ("MAX_COUNT", (.int 400)), ("MOST_PASSED", (.int 10000000000000000000000000000000000000000))] : List (Str × Dy.D))
abbrev hk : PySem.W.Hook := Dy.hookX 5 fa fn gs
def ob (s : PySem.W.SharedT) : He.AlD := Dy.obX 5 fa fn gs (HandSHeadRun.getT s)
theorem ob_eq (s : PySem.W.SharedT) : ob s = hk.obs s.abs := Dy.obX_eq (HandSHeadRun.getT_eq s)
def names : List Str := (["WholeError", "InvalidFraction", "InvalidOperation", "InvalidCount", "Refused", "NOUGHT", "ONE", "MAX_COUNT", "MOST_PASSED", "is_integer", "common_divisor", "is_fraction", "reduced", "fraction", "require_fraction"] : List Str) ++ (["require_count", "added", "multiplied", "opposite", "divided", "sum_of", "plus", "minus", "times", "over", "compared", "total", "power", "require_integers", "divisor_of"] : List Str) ++ (["greatest_divisor", "multiple_of", "least_multiple_of", "combined", "bezout", "_law_dice", "_law_roll", "_law_pick", "_law_fr", "_law_plus", "_law_times", "_law_minus", "_law_integer", "_law_drawn", "_law_divisor"] : List Str) ++ (["_law_multiple", "_law_fractions_right", "_law_divisors_right"] : List Str)
theorem run (w : World) : HandSHeadRun.RunEq R (PySem.W.view R.prog [51]) hk ob 3000 names w := by
  intro os
  kernel_rfl
end K

/-! text W76 -/
set_option maxHeartbeats 4000000
namespace Kw
open PySem PySem.Spec PyProof.Rows L2 Dy K
/-- the built-in names that no global hides -/
structure Bl (mg : Str → Option Value) : Prop where
  abs : mg "abs" = none
  all : mg "all" = none
  bool : mg "bool" = none
  int : mg "int" = none
  isinstance : mg "isinstance" = none
  len : mg "len" = none
  max : mg "max" = none
  min : mg "min" = none
  range : mg "range" = none
  repr : mg "repr" = none
  tuple : mg "tuple" = none
  zip : mg "zip" = none
/-- the constants -/
structure Cs (K : PySem.W.Frag) (mg : Str → Option Value) : Prop where
  MOST_PASSED : GlC K mg "MOST_PASSED" (.int 10000000000000000000000000000000000000000)
  NOUGHT : GlC K mg "NOUGHT" (.tup [(.int 0), (.int 1)])
  ONE : GlC K mg "ONE" (.tup [(.int 1), (.int 1)])
variable {P : Program} {w : World} {K : PySem.W.Frag} {mg : Str → Option Value} {base : Heap} {f : Addr} {fd : FuncData}
def N_is_integer : List Str := ["value"]
theorem sc_is_integer : FnScope N_is_integer ["value"] (defScope (top 11)) := ⟨rfl, rfl, rfl, by decide +kernel, rfl, by decide +kernel, by decide +kernel⟩
def W_is_integer : WS := (sRet (yAnd (yBl isiC (aCons (wVar 0) (aCons (wC (.ty .int)) aNil))) (yNot (yBl isiC (aCons (wVar 0) (aCons (wC (.ty .bool)) aNil))))))
@[irreducible] def Q_is_integer : DSp := qOf 1 1 W_is_integer
theorem bd_is_integer (B : Bl mg) (C : Cs K mg) (cdv : Value) (A : Around) (out : List Env) (s : Shared) (H : Hp) (E : XK) (hr : Room 0 (A.deeper (envOfC "is_integer" (defScope (top 11)) s.heap.objs.size f cdv))) (hgu : A.guards = some []) :
    PSs (cxOf C8.CX0 P w K mg base N_is_integer "is_integer" (defScope (top 11)) f cdv A out s H E).nox (defBody (top 11)) (lS K W_is_integer) :=
      (s_one (q_ret (r_and (r_blt (c_isi) rfl B.isinstance bt_isinstance (a_cons (e_var (i := 0) rfl (by first | exact .inl rfl | exact .inr (.inl rfl) | exact .inr (.inr rfl)) rfl rfl) (a_cons (e_tyn (c := .int) rfl B.int bt_int (by decide) rfl) a_nil rfl) rfl) (by decide) rfl rfl rfl) (r_one (r_not (r_blt (c_isi) rfl B.isinstance bt_isinstance (a_cons (e_var (i := 0) rfl (by first | exact .inl rfl | exact .inr (.inl rfl) | exact .inr (.inr rfl)) rfl rfl) (a_cons (e_tyn (c := .bool) rfl B.bool bt_bool (by decide) rfl) a_nil rfl) rfl) (by decide) rfl rfl rfl))))))
theorem df_is_integer (B : Bl mg) (C : Cs K mg) (F : FunD K "is_integer" "is_integer" (defArgs (top 11)) (defBody (top 11)) (defScope (top 11)) [] [] f fd) (gm : mg "is_integer" = some (.ref f)) : Df P w K mg base 1 "is_integer" 1 Q_is_integer [] := by
  unfold Q_is_integer
  exact Df.of F gm sc_is_integer rfl ⟨[], .nil, F.bindsN fun _ _ _ _ _ _ us hl => match us, hl with | [_], _ => rfl⟩ (fun _ _ => rfl) fun cdv A out s H E hr hgu => bd_is_integer B C  cdv A out s H E hr hgu
def N_common_divisor : List Str := ["one", "other"]
theorem sc_common_divisor : FnScope N_common_divisor ["one", "other"] (defScope (top 12)) := ⟨rfl, rfl, rfl, by decide +kernel, rfl, by decide +kernel, by decide +kernel⟩
def W_common_divisor : WS := (wSeq (wPar 0 1 (aCons (yBl absC (aCons (wVar 0) aNil)) (aCons (yBl absC (aCons (wVar 1) aNil)) aNil)))
  (wSeq (wWh (yCmT gtD (wVar 1) (wC (.int 0))) (wPar 0 1 (aCons (wVar 1) (aCons (yOp modD (wVar 0) (wVar 1)) aNil))))
  (sRet (wVar 0))))
@[irreducible] def Q_common_divisor : DSp := qOf 2 2 W_common_divisor
theorem bd_common_divisor (B : Bl mg) (C : Cs K mg) (cdv : Value) (A : Around) (out : List Env) (s : Shared) (H : Hp) (E : XK) (hr : Room 0 (A.deeper (envOfC "common_divisor" (defScope (top 12)) s.heap.objs.size f cdv))) (hgu : A.guards = some []) :
    PSs (cxOf C8.CX0 P w K mg base N_common_divisor "common_divisor" (defScope (top 12)) f cdv A out s H E).nox (defBody (top 12)) (lS K W_common_divisor) :=
      (s_cons (s_par (i := 0) (j := 1) rfl sc_common_divisor.nd rfl rfl (by decide) rfl rfl (a_cons (r_blt (c_abs) rfl B.abs bt_abs (a_cons (e_var (i := 0) rfl (by first | exact .inl rfl | exact .inr (.inl rfl) | exact .inr (.inr rfl)) rfl rfl) a_nil rfl) (by decide) rfl rfl rfl) (a_cons (r_blt (c_abs) rfl B.abs bt_abs (a_cons (e_var (i := 1) rfl (by first | exact .inl rfl | exact .inr (.inl rfl) | exact .inr (.inr rfl)) rfl rfl) a_nil rfl) (by decide) rfl rfl rfl) a_nil rfl) rfl) rfl rfl)
      (s_cons (s_while PassesOwn.never (r_cmpT o_gt (e_var (i := 1) rfl (by first | exact .inl rfl | exact .inr (.inl rfl) | exact .inr (.inr rfl)) rfl rfl) e_int rfl) (s_one (s_par (i := 0) (j := 1) rfl sc_common_divisor.nd rfl rfl (by decide) rfl rfl (a_cons (e_var (i := 1) rfl (by first | exact .inl rfl | exact .inr (.inl rfl) | exact .inr (.inr rfl)) rfl rfl) (a_cons (r_op o_mod (e_var (i := 0) rfl (by first | exact .inl rfl | exact .inr (.inl rfl) | exact .inr (.inr rfl)) rfl rfl) (e_var (i := 1) rfl (by first | exact .inl rfl | exact .inr (.inl rfl) | exact .inr (.inr rfl)) rfl rfl)) a_nil rfl) rfl) rfl rfl)))
      (s_one (q_ret (e_var (i := 0) rfl (by first | exact .inl rfl | exact .inr (.inl rfl) | exact .inr (.inr rfl)) rfl rfl)))))
theorem df_common_divisor (B : Bl mg) (C : Cs K mg) (F : FunD K "common_divisor" "common_divisor" (defArgs (top 12)) (defBody (top 12)) (defScope (top 12)) [] [] f fd) (gm : mg "common_divisor" = some (.ref f)) : Df P w K mg base 1 "common_divisor" 2 Q_common_divisor [] := by
  unfold Q_common_divisor
  exact Df.of F gm sc_common_divisor rfl ⟨[], .nil, F.bindsN fun _ _ _ _ _ _ us hl => match us, hl with | [_, _], _ => rfl⟩ (fun _ _ => rfl) fun cdv A out s H E hr hgu => bd_common_divisor B C  cdv A out s H E hr hgu
def N_is_fraction : List Str := ["value", "one"]
theorem sc_is_fraction : FnScope N_is_fraction ["value"] (defScope (top 13)) := ⟨rfl, rfl, rfl, by decide +kernel, rfl, by decide +kernel, by decide +kernel⟩
def W_is_fraction : WS := (wSeq (sIf (yOrT (yNotT (yVal (yBl isiC (aCons (wVar 0) (aCons (wC (.ty .tuple)) aNil))))) (yOrT (yCmT neD (yBl lenC (aCons (wVar 0) aNil)) (wC (.int 2))) (yNotT (yVal (yBl allC (aCons (wLc (wiS (wVar 0)) (.nm 1) wYes (yCall Q_is_integer [] (aCons (wVar 1) aNil)) [1]) aNil)))))) (sRet (wC (.bl false))) wNext)
  (sRet (yAnd (yOp geD (yOp ixQ (wVar 0) (wC (.int 1))) (wC (.int 1))) (yOp eqD (yCall Q_common_divisor [] (aCons (yOp ixQ (wVar 0) (wC (.int 0))) (aCons (yOp ixQ (wVar 0) (wC (.int 1))) aNil))) (wC (.int 1))))))
@[irreducible] def Q_is_fraction : DSp := qOf 1 2 W_is_fraction
theorem bd_is_fraction (B : Bl mg) (C : Cs K mg) (D_common_divisor : Df P w K mg base 1 "common_divisor" 2 Q_common_divisor []) (D_is_integer : Df P w K mg base 1 "is_integer" 1 Q_is_integer []) (cdv : Value) (A : Around) (out : List Env) (s : Shared) (H : Hp) (E : XK) (hr : Room 1 (A.deeper (envOfC "is_fraction" (defScope (top 13)) s.heap.objs.size f cdv))) (hgu : A.guards = some []) :
    PSs (cxOf C8.CX0 P w K mg base N_is_fraction "is_fraction" (defScope (top 13)) f cdv A out s H E).nox (defBody (top 13)) (lS K W_is_fraction) :=
      (s_cons (q_if (r_pw (r_orT (r_notT (r_val (r_blt (c_isi) rfl B.isinstance bt_isinstance (a_cons (e_var (i := 0) rfl (by first | exact .inl rfl | exact .inr (.inl rfl) | exact .inr (.inr rfl)) rfl rfl) (a_cons (e_tyn (c := .tuple) rfl B.tuple bt_tuple (by decide) rfl) a_nil rfl) rfl) (by decide) rfl rfl rfl) fun _ => rfl)) (r_orT (r_cmpT (o_ne hr.units) (r_blt (c_len) rfl B.len bt_len (a_cons (e_var (i := 0) rfl (by first | exact .inl rfl | exact .inr (.inl rfl) | exact .inr (.inr rfl)) rfl rfl) a_nil rfl) (by decide) rfl rfl rfl) e_int rfl) (r_or1T (r_notT (r_val (r_blt (c_all rfl) rfl B.all bt_all (a_cons (e_lc (own := [("one", 1)]) (g := (.nm 1)) rfl sc_is_fraction.nd (i_seq (e_var (i := 0) rfl (by first | exact .inl rfl | exact .inr (.inl rfl) | exact .inr (.inr rfl)) rfl rfl)) (by kernel_rfl) (fun _ _ _ _ _ => (g_nm sc_is_fraction.nd rfl (by first | exact .inl rfl | exact .inr rfl) (by first | exact .inl rfl | exact .inr rfl))) (fun _ _ _ _ _ => t_yes) (fun _ _ _ _ _ => (r_call D_is_integer (by decide) hr hgu rfl (a_cons (e_var (i := 1) rfl (by first | exact .inl rfl | exact .inr (.inl rfl) | exact .inr (.inr rfl)) rfl rfl) a_nil rfl) rfl rfl rfl)) (by decide) (fun _ => rfl)) a_nil rfl) (by decide) rfl rfl rfl) fun _ => rfl)))))) (s_one (q_ret e_bl)) s_nil)
      (s_one (q_ret (r_and (r_cmp o_ge (r_ix (e_var (i := 0) rfl (by first | exact .inl rfl | exact .inr (.inl rfl) | exact .inr (.inr rfl)) rfl rfl) e_int fun _ _ => rfl) e_int rfl) (r_one (r_cmp (o_eq hr.units) (r_call D_common_divisor (by decide) hr hgu rfl (a_cons (r_ix (e_var (i := 0) rfl (by first | exact .inl rfl | exact .inr (.inl rfl) | exact .inr (.inr rfl)) rfl rfl) e_int fun _ _ => rfl) (a_cons (r_ix (e_var (i := 0) rfl (by first | exact .inl rfl | exact .inr (.inl rfl) | exact .inr (.inr rfl)) rfl rfl) e_int fun _ _ => rfl) a_nil rfl) rfl) rfl rfl rfl) e_int rfl))))))
theorem df_is_fraction (B : Bl mg) (C : Cs K mg) (D_common_divisor : Df P w K mg base 1 "common_divisor" 2 Q_common_divisor []) (D_is_integer : Df P w K mg base 1 "is_integer" 1 Q_is_integer []) (F : FunD K "is_fraction" "is_fraction" (defArgs (top 13)) (defBody (top 13)) (defScope (top 13)) [] [] f fd) (gm : mg "is_fraction" = some (.ref f)) : Df P w K mg base 2 "is_fraction" 1 Q_is_fraction [] := by
  unfold Q_is_fraction
  exact Df.of F gm sc_is_fraction rfl ⟨[], .nil, F.bindsN fun _ _ _ _ _ _ us hl => match us, hl with | [_], _ => rfl⟩ (fun _ _ => rfl) fun cdv A out s H E hr hgu => bd_is_fraction B C D_common_divisor D_is_integer cdv A out s H E hr hgu
def N_reduced : List Str := ["top", "bottom", "divisor"]
theorem sc_reduced : FnScope N_reduced ["top", "bottom"] (defScope (top 14)) := ⟨rfl, rfl, rfl, by decide +kernel, rfl, by decide +kernel, by decide +kernel⟩
def W_reduced : WS := (wSeq (sIf (yCmT ltD (wVar 1) (wC (.int 0))) (wPar 0 1 (aCons (yOp subD (wC (.int 0)) (wVar 0)) (aCons (yOp subD (wC (.int 0)) (wVar 1)) aNil))) wNext)
  (wSeq (sSet 2 (yCall Q_common_divisor [] (aCons (wVar 0) (aCons (wVar 1) aNil))))
  (sRet (yTup (aCons (yOp fdivD (wVar 0) (wVar 2)) (aCons (yOp fdivD (wVar 1) (wVar 2)) aNil))))))
@[irreducible] def Q_reduced : DSp := qOf 2 3 W_reduced
theorem bd_reduced (B : Bl mg) (C : Cs K mg) (D_common_divisor : Df P w K mg base 1 "common_divisor" 2 Q_common_divisor []) (cdv : Value) (A : Around) (out : List Env) (s : Shared) (H : Hp) (E : XK) (hr : Room 1 (A.deeper (envOfC "reduced" (defScope (top 14)) s.heap.objs.size f cdv))) (hgu : A.guards = some []) :
    PSs (cxOf C8.CX0 P w K mg base N_reduced "reduced" (defScope (top 14)) f cdv A out s H E).nox (defBody (top 14)) (lS K W_reduced) :=
      (s_cons (q_if (r_cmpT o_lt (e_var (i := 1) rfl (by first | exact .inl rfl | exact .inr (.inl rfl) | exact .inr (.inr rfl)) rfl rfl) e_int rfl) (s_one (s_par (i := 0) (j := 1) rfl sc_reduced.nd rfl rfl (by decide) rfl rfl (a_cons (r_op o_sub e_int (e_var (i := 0) rfl (by first | exact .inl rfl | exact .inr (.inl rfl) | exact .inr (.inr rfl)) rfl rfl)) (a_cons (r_op o_sub e_int (e_var (i := 1) rfl (by first | exact .inl rfl | exact .inr (.inl rfl) | exact .inr (.inr rfl)) rfl rfl)) a_nil rfl) rfl) rfl rfl)) s_nil)
      (s_cons (q_set (i := 2) sc_reduced.nd rfl (by first | exact .inl rfl | exact .inr rfl) (r_call D_common_divisor (by decide) hr hgu rfl (a_cons (e_var (i := 0) rfl (by first | exact .inl rfl | exact .inr (.inl rfl) | exact .inr (.inr rfl)) rfl rfl) (a_cons (e_var (i := 1) rfl (by first | exact .inl rfl | exact .inr (.inl rfl) | exact .inr (.inr rfl)) rfl rfl) a_nil rfl) rfl) rfl rfl rfl) rfl (by first | exact .inl rfl | exact .inr rfl))
      (s_one (q_ret (r_tup (a_cons (r_op o_fdiv (e_var (i := 0) rfl (by first | exact .inl rfl | exact .inr (.inl rfl) | exact .inr (.inr rfl)) rfl rfl) (e_var (i := 2) rfl (by first | exact .inl rfl | exact .inr (.inl rfl) | exact .inr (.inr rfl)) rfl rfl)) (a_cons (r_op o_fdiv (e_var (i := 1) rfl (by first | exact .inl rfl | exact .inr (.inl rfl) | exact .inr (.inr rfl)) rfl rfl) (e_var (i := 2) rfl (by first | exact .inl rfl | exact .inr (.inl rfl) | exact .inr (.inr rfl)) rfl rfl)) a_nil rfl) rfl))))))
theorem df_reduced (B : Bl mg) (C : Cs K mg) (D_common_divisor : Df P w K mg base 1 "common_divisor" 2 Q_common_divisor []) (F : FunD K "reduced" "reduced" (defArgs (top 14)) (defBody (top 14)) (defScope (top 14)) [] [] f fd) (gm : mg "reduced" = some (.ref f)) : Df P w K mg base 2 "reduced" 2 Q_reduced [] := by
  unfold Q_reduced
  exact Df.of F gm sc_reduced rfl ⟨[], .nil, F.bindsN fun _ _ _ _ _ _ us hl => match us, hl with | [_, _], _ => rfl⟩ (fun _ _ => rfl) fun cdv A out s H E hr hgu => bd_reduced B C D_common_divisor cdv A out s H E hr hgu
def N_fraction : List Str := ["top", "bottom"]
theorem sc_fraction : FnScope N_fraction ["top", "bottom"] (defScope (top 15)) := ⟨rfl, rfl, rfl, by decide +kernel, rfl, by decide +kernel, by decide +kernel⟩
def W_fraction : WS := (wSeq (sIf (yOrT (yNotT (yVal (yCall Q_is_integer [] (aCons (wVar 0) aNil)))) (yCmT geD (yBl absC (aCons (wVar 0) aNil)) (wC (.int 10000000000000000000000000000000000000000)))) sNev wNext)
  (wSeq (sIf (yOrT (yNotT (yVal (yCall Q_is_integer [] (aCons (wVar 1) aNil)))) (yOrT (yCmT geD (yBl absC (aCons (wVar 1) aNil)) (wC (.int 10000000000000000000000000000000000000000))) (yCmT eqD (wVar 1) (wC (.int 0))))) sNev wNext)
  (sRet (yCall Q_reduced [] (aCons (wVar 0) (aCons (wVar 1) aNil))))))
@[irreducible] def Q_fraction : DSp := qOf 2 2 W_fraction
theorem bd_fraction (B : Bl mg) (C : Cs K mg) (D_is_integer : Df P w K mg base 1 "is_integer" 1 Q_is_integer []) (D_reduced : Df P w K mg base 2 "reduced" 2 Q_reduced []) (cdv : Value) (A : Around) (out : List Env) (s : Shared) (H : Hp) (E : XK) (hr : Room 2 (A.deeper (envOfC "fraction" (defScope (top 15)) s.heap.objs.size f cdv))) (hgu : A.guards = some []) :
    PSs (cxOf C8.CX0 P w K mg base N_fraction "fraction" (defScope (top 15)) f cdv A out s H E).nox (defBody (top 15)) (lS K W_fraction) :=
      (s_cons (q_if (r_pw (r_orT (r_notT (r_val (r_call D_is_integer (by decide) hr hgu rfl (a_cons (e_var (i := 0) rfl (by first | exact .inl rfl | exact .inr (.inl rfl) | exact .inr (.inr rfl)) rfl rfl) a_nil rfl) rfl rfl rfl) fun _ => rfl)) (r_or1T (r_cmpT o_ge (r_blt (c_abs) rfl B.abs bt_abs (a_cons (e_var (i := 0) rfl (by first | exact .inl rfl | exact .inr (.inl rfl) | exact .inr (.inr rfl)) rfl rfl) a_nil rfl) (by decide) rfl rfl rfl) (r_glo C.MOST_PASSED rfl rfl) rfl)))) (s_one q_nev) s_nil)
      (s_cons (q_if (r_pw (r_orT (r_notT (r_val (r_call D_is_integer (by decide) hr hgu rfl (a_cons (e_var (i := 1) rfl (by first | exact .inl rfl | exact .inr (.inl rfl) | exact .inr (.inr rfl)) rfl rfl) a_nil rfl) rfl rfl rfl) fun _ => rfl)) (r_orT (r_cmpT o_ge (r_blt (c_abs) rfl B.abs bt_abs (a_cons (e_var (i := 1) rfl (by first | exact .inl rfl | exact .inr (.inl rfl) | exact .inr (.inr rfl)) rfl rfl) a_nil rfl) (by decide) rfl rfl rfl) (r_glo C.MOST_PASSED rfl rfl) rfl) (r_or1T (r_cmpT (o_eq hr.units) (e_var (i := 1) rfl (by first | exact .inl rfl | exact .inr (.inl rfl) | exact .inr (.inr rfl)) rfl rfl) e_int rfl))))) (s_one q_nev) s_nil)
      (s_one (q_ret (r_call D_reduced (by decide) hr hgu rfl (a_cons (e_var (i := 0) rfl (by first | exact .inl rfl | exact .inr (.inl rfl) | exact .inr (.inr rfl)) rfl rfl) (a_cons (e_var (i := 1) rfl (by first | exact .inl rfl | exact .inr (.inl rfl) | exact .inr (.inr rfl)) rfl rfl) a_nil rfl) rfl) rfl rfl rfl)))))
theorem df_fraction (B : Bl mg) (C : Cs K mg) (D_is_integer : Df P w K mg base 1 "is_integer" 1 Q_is_integer []) (D_reduced : Df P w K mg base 2 "reduced" 2 Q_reduced []) (F : FunD K "fraction" "fraction" (defArgs (top 15)) (defBody (top 15)) (defScope (top 15)) [.int 1] [] f fd) (gm : mg "fraction" = some (.ref f)) : Df P w K mg base 3 "fraction" 2 Q_fraction [] := by
  unfold Q_fraction
  exact Df.of F gm sc_fraction rfl (F.binds1 2 1 (by simp) rfl fun _ _ _ _ _ _ _ us its hl hi => match us, its, hl, hi with | [_, _], [_], _, _ => ⟨_, rfl, rfl⟩) (fun _ _ => rfl) fun cdv A out s H E hr hgu => bd_fraction B C D_is_integer D_reduced cdv A out s H E hr hgu
theorem df_fraction_1 (B : Bl mg) (C : Cs K mg) (D_is_integer : Df P w K mg base 1 "is_integer" 1 Q_is_integer []) (D_reduced : Df P w K mg base 2 "reduced" 2 Q_reduced []) (F : FunD K "fraction" "fraction" (defArgs (top 15)) (defBody (top 15)) (defScope (top 15)) [.int 1] [] f fd) (gm : mg "fraction" = some (.ref f)) : Df P w K mg base 3 "fraction" 2 Q_fraction [(.int 1)] := by
  unfold Q_fraction
  exact Df.of F gm sc_fraction rfl (F.binds1 1 0 (by simp) rfl fun _ _ _ _ _ _ _ us its hl hi => match us, its, hl, hi with | [_], [_], _, _ => ⟨_, rfl, rfl⟩) (fun _ _ => ⟨_, _, rfl, rfl, rfl⟩) fun cdv A out s H E hr hgu => bd_fraction B C D_is_integer D_reduced cdv A out s H E hr hgu
def N_require_fraction : List Str := ["value"]
theorem sc_require_fraction : FnScope N_require_fraction ["value"] (defScope (top 16)) := ⟨rfl, rfl, rfl, by decide +kernel, rfl, by decide +kernel, by decide +kernel⟩
def W_require_fraction : WS := (sIf (yNotT (yVal (yCall Q_is_fraction [] (aCons (wVar 0) aNil)))) sNev wNext)
@[irreducible] def Q_require_fraction : DSp := qOf 1 1 W_require_fraction
theorem bd_require_fraction (B : Bl mg) (C : Cs K mg) (D_is_fraction : Df P w K mg base 2 "is_fraction" 1 Q_is_fraction []) (cdv : Value) (A : Around) (out : List Env) (s : Shared) (H : Hp) (E : XK) (hr : Room 2 (A.deeper (envOfC "require_fraction" (defScope (top 16)) s.heap.objs.size f cdv))) (hgu : A.guards = some []) :
    PSs (cxOf C8.CX0 P w K mg base N_require_fraction "require_fraction" (defScope (top 16)) f cdv A out s H E).nox (defBody (top 16)) (lS K W_require_fraction) :=
      (s_one (q_if (r_notT (r_val (r_call D_is_fraction (by decide) hr hgu rfl (a_cons (e_var (i := 0) rfl (by first | exact .inl rfl | exact .inr (.inl rfl) | exact .inr (.inr rfl)) rfl rfl) a_nil rfl) rfl rfl rfl) fun _ => rfl)) (s_one q_nev) s_nil))
theorem df_require_fraction (B : Bl mg) (C : Cs K mg) (D_is_fraction : Df P w K mg base 2 "is_fraction" 1 Q_is_fraction []) (F : FunD K "require_fraction" "require_fraction" (defArgs (top 16)) (defBody (top 16)) (defScope (top 16)) [] [] f fd) (gm : mg "require_fraction" = some (.ref f)) : Df P w K mg base 3 "require_fraction" 1 Q_require_fraction [] := by
  unfold Q_require_fraction
  exact Df.of F gm sc_require_fraction rfl ⟨[], .nil, F.bindsN fun _ _ _ _ _ _ us hl => match us, hl with | [_], _ => rfl⟩ (fun _ _ => rfl) fun cdv A out s H E hr hgu => bd_require_fraction B C D_is_fraction cdv A out s H E hr hgu
def N_require_count : List Str := ["value", "least", "most"]
theorem sc_require_count : FnScope N_require_count ["value", "least", "most"] (defScope (top 17)) := ⟨rfl, rfl, rfl, by decide +kernel, rfl, by decide +kernel, by decide +kernel⟩
def W_require_count : WS := (sIf (yOrT (yNotT (yVal (yCall Q_is_integer [] (aCons (wVar 0) aNil)))) (yNotT (yChT leD leD (wVar 1) (wVar 0) (wVar 2)))) sNev wNext)
@[irreducible] def Q_require_count : DSp := qOf 3 3 W_require_count
theorem bd_require_count (B : Bl mg) (C : Cs K mg) (D_is_integer : Df P w K mg base 1 "is_integer" 1 Q_is_integer []) (cdv : Value) (A : Around) (out : List Env) (s : Shared) (H : Hp) (E : XK) (hr : Room 1 (A.deeper (envOfC "require_count" (defScope (top 17)) s.heap.objs.size f cdv))) (hgu : A.guards = some []) :
    PSs (cxOf C8.CX0 P w K mg base N_require_count "require_count" (defScope (top 17)) f cdv A out s H E).nox (defBody (top 17)) (lS K W_require_count) :=
      (s_one (q_if (r_pw (r_orT (r_notT (r_val (r_call D_is_integer (by decide) hr hgu rfl (a_cons (e_var (i := 0) rfl (by first | exact .inl rfl | exact .inr (.inl rfl) | exact .inr (.inr rfl)) rfl rfl) a_nil rfl) rfl rfl rfl) fun _ => rfl)) (r_or1T (r_notT (r_chT o_le o_le (e_var (i := 1) rfl (by first | exact .inl rfl | exact .inr (.inl rfl) | exact .inr (.inr rfl)) rfl rfl) (e_var (i := 0) rfl (by first | exact .inl rfl | exact .inr (.inl rfl) | exact .inr (.inr rfl)) rfl rfl) (e_var (i := 2) rfl (by first | exact .inl rfl | exact .inr (.inl rfl) | exact .inr (.inr rfl)) rfl rfl) rfl))))) (s_one q_nev) s_nil))
theorem df_require_count (B : Bl mg) (C : Cs K mg) (D_is_integer : Df P w K mg base 1 "is_integer" 1 Q_is_integer []) (F : FunD K "require_count" "require_count" (defArgs (top 17)) (defBody (top 17)) (defScope (top 17)) [.int 0, .int 400] [] f fd) (gm : mg "require_count" = some (.ref f)) : Df P w K mg base 2 "require_count" 3 Q_require_count [] := by
  unfold Q_require_count
  exact Df.of F gm sc_require_count rfl (F.binds1 3 2 (by simp) rfl fun _ _ _ _ _ _ _ us its hl hi => match us, its, hl, hi with | [_, _, _], [_, _], _, _ => ⟨_, rfl, rfl⟩) (fun _ _ => rfl) fun cdv A out s H E hr hgu => bd_require_count B C D_is_integer cdv A out s H E hr hgu
theorem df_require_count_2 (B : Bl mg) (C : Cs K mg) (D_is_integer : Df P w K mg base 1 "is_integer" 1 Q_is_integer []) (F : FunD K "require_count" "require_count" (defArgs (top 17)) (defBody (top 17)) (defScope (top 17)) [.int 0, .int 400] [] f fd) (gm : mg "require_count" = some (.ref f)) : Df P w K mg base 2 "require_count" 3 Q_require_count [(.int 400)] := by
  unfold Q_require_count
  exact Df.of F gm sc_require_count rfl (F.binds1 2 1 (by simp) rfl fun _ _ _ _ _ _ _ us its hl hi => match us, its, hl, hi with | [_, _], [_, _], _, _ => ⟨_, rfl, rfl⟩) (fun _ _ => ⟨_, _, rfl, rfl, rfl⟩) fun cdv A out s H E hr hgu => bd_require_count B C D_is_integer cdv A out s H E hr hgu
theorem df_require_count_1 (B : Bl mg) (C : Cs K mg) (D_is_integer : Df P w K mg base 1 "is_integer" 1 Q_is_integer []) (F : FunD K "require_count" "require_count" (defArgs (top 17)) (defBody (top 17)) (defScope (top 17)) [.int 0, .int 400] [] f fd) (gm : mg "require_count" = some (.ref f)) : Df P w K mg base 2 "require_count" 3 Q_require_count [(.int 0), (.int 400)] := by
  unfold Q_require_count
  exact Df.of F gm sc_require_count rfl (F.binds1 1 0 (by simp) rfl fun _ _ _ _ _ _ _ us its hl hi => match us, its, hl, hi with | [_], [_, _], _, _ => ⟨_, rfl, rfl⟩) (fun _ _ => ⟨_, _, rfl, rfl, ⟨_, _, rfl, rfl, rfl⟩⟩) fun cdv A out s H E hr hgu => bd_require_count B C D_is_integer cdv A out s H E hr hgu
def N_added : List Str := ["one", "other"]
theorem sc_added : FnScope N_added ["one", "other"] (defScope (top 18)) := ⟨rfl, rfl, rfl, by decide +kernel, rfl, by decide +kernel, by decide +kernel⟩
def W_added : WS := (wSeq (sIf (yChT eqD eqD (yOp ixQ (wVar 0) (wC (.int 1))) (yOp ixQ (wVar 1) (wC (.int 1))) (wC (.int 1))) (sRet (yTup (aCons (yOp addD (yOp ixQ (wVar 0) (wC (.int 0))) (yOp ixQ (wVar 1) (wC (.int 0)))) (aCons (wC (.int 1)) aNil)))) wNext)
  (sRet (yCall Q_reduced [] (aCons (yOp addD (yOp mulD (yOp ixQ (wVar 0) (wC (.int 0))) (yOp ixQ (wVar 1) (wC (.int 1)))) (yOp mulD (yOp ixQ (wVar 1) (wC (.int 0))) (yOp ixQ (wVar 0) (wC (.int 1))))) (aCons (yOp mulD (yOp ixQ (wVar 0) (wC (.int 1))) (yOp ixQ (wVar 1) (wC (.int 1)))) aNil)))))
@[irreducible] def Q_added : DSp := qOf 2 2 W_added
theorem bd_added (B : Bl mg) (C : Cs K mg) (D_reduced : Df P w K mg base 2 "reduced" 2 Q_reduced []) (cdv : Value) (A : Around) (out : List Env) (s : Shared) (H : Hp) (E : XK) (hr : Room 2 (A.deeper (envOfC "added" (defScope (top 18)) s.heap.objs.size f cdv))) (hgu : A.guards = some []) :
    PSs (cxOf C8.CX0 P w K mg base N_added "added" (defScope (top 18)) f cdv A out s H E).nox (defBody (top 18)) (lS K W_added) :=
      (s_cons (q_if (r_chT (o_eq hr.units) (o_eq hr.units) (r_ix (e_var (i := 0) rfl (by first | exact .inl rfl | exact .inr (.inl rfl) | exact .inr (.inr rfl)) rfl rfl) e_int fun _ _ => rfl) (r_ix (e_var (i := 1) rfl (by first | exact .inl rfl | exact .inr (.inl rfl) | exact .inr (.inr rfl)) rfl rfl) e_int fun _ _ => rfl) e_int rfl) (s_one (q_ret (r_tup (a_cons (r_op o_add (r_ix (e_var (i := 0) rfl (by first | exact .inl rfl | exact .inr (.inl rfl) | exact .inr (.inr rfl)) rfl rfl) e_int fun _ _ => rfl) (r_ix (e_var (i := 1) rfl (by first | exact .inl rfl | exact .inr (.inl rfl) | exact .inr (.inr rfl)) rfl rfl) e_int fun _ _ => rfl)) (a_cons e_int a_nil rfl) rfl)))) s_nil)
      (s_one (q_ret (r_call D_reduced (by decide) hr hgu rfl (a_cons (r_op o_add (r_op o_mul (r_ix (e_var (i := 0) rfl (by first | exact .inl rfl | exact .inr (.inl rfl) | exact .inr (.inr rfl)) rfl rfl) e_int fun _ _ => rfl) (r_ix (e_var (i := 1) rfl (by first | exact .inl rfl | exact .inr (.inl rfl) | exact .inr (.inr rfl)) rfl rfl) e_int fun _ _ => rfl)) (r_op o_mul (r_ix (e_var (i := 1) rfl (by first | exact .inl rfl | exact .inr (.inl rfl) | exact .inr (.inr rfl)) rfl rfl) e_int fun _ _ => rfl) (r_ix (e_var (i := 0) rfl (by first | exact .inl rfl | exact .inr (.inl rfl) | exact .inr (.inr rfl)) rfl rfl) e_int fun _ _ => rfl))) (a_cons (r_op o_mul (r_ix (e_var (i := 0) rfl (by first | exact .inl rfl | exact .inr (.inl rfl) | exact .inr (.inr rfl)) rfl rfl) e_int fun _ _ => rfl) (r_ix (e_var (i := 1) rfl (by first | exact .inl rfl | exact .inr (.inl rfl) | exact .inr (.inr rfl)) rfl rfl) e_int fun _ _ => rfl)) a_nil rfl) rfl) rfl rfl rfl))))
theorem df_added (B : Bl mg) (C : Cs K mg) (D_reduced : Df P w K mg base 2 "reduced" 2 Q_reduced []) (F : FunD K "added" "added" (defArgs (top 18)) (defBody (top 18)) (defScope (top 18)) [] [] f fd) (gm : mg "added" = some (.ref f)) : Df P w K mg base 3 "added" 2 Q_added [] := by
  unfold Q_added
  exact Df.of F gm sc_added rfl ⟨[], .nil, F.bindsN fun _ _ _ _ _ _ us hl => match us, hl with | [_, _], _ => rfl⟩ (fun _ _ => rfl) fun cdv A out s H E hr hgu => bd_added B C D_reduced cdv A out s H E hr hgu
def N_multiplied : List Str := ["one", "other"]
theorem sc_multiplied : FnScope N_multiplied ["one", "other"] (defScope (top 19)) := ⟨rfl, rfl, rfl, by decide +kernel, rfl, by decide +kernel, by decide +kernel⟩
def W_multiplied : WS := (wSeq (sIf (yChT eqD eqD (yOp ixQ (wVar 0) (wC (.int 1))) (yOp ixQ (wVar 1) (wC (.int 1))) (wC (.int 1))) (sRet (yTup (aCons (yOp mulD (yOp ixQ (wVar 0) (wC (.int 0))) (yOp ixQ (wVar 1) (wC (.int 0)))) (aCons (wC (.int 1)) aNil)))) wNext)
  (sRet (yCall Q_reduced [] (aCons (yOp mulD (yOp ixQ (wVar 0) (wC (.int 0))) (yOp ixQ (wVar 1) (wC (.int 0)))) (aCons (yOp mulD (yOp ixQ (wVar 0) (wC (.int 1))) (yOp ixQ (wVar 1) (wC (.int 1)))) aNil)))))
@[irreducible] def Q_multiplied : DSp := qOf 2 2 W_multiplied
theorem bd_multiplied (B : Bl mg) (C : Cs K mg) (D_reduced : Df P w K mg base 2 "reduced" 2 Q_reduced []) (cdv : Value) (A : Around) (out : List Env) (s : Shared) (H : Hp) (E : XK) (hr : Room 2 (A.deeper (envOfC "multiplied" (defScope (top 19)) s.heap.objs.size f cdv))) (hgu : A.guards = some []) :
    PSs (cxOf C8.CX0 P w K mg base N_multiplied "multiplied" (defScope (top 19)) f cdv A out s H E).nox (defBody (top 19)) (lS K W_multiplied) :=
      (s_cons (q_if (r_chT (o_eq hr.units) (o_eq hr.units) (r_ix (e_var (i := 0) rfl (by first | exact .inl rfl | exact .inr (.inl rfl) | exact .inr (.inr rfl)) rfl rfl) e_int fun _ _ => rfl) (r_ix (e_var (i := 1) rfl (by first | exact .inl rfl | exact .inr (.inl rfl) | exact .inr (.inr rfl)) rfl rfl) e_int fun _ _ => rfl) e_int rfl) (s_one (q_ret (r_tup (a_cons (r_op o_mul (r_ix (e_var (i := 0) rfl (by first | exact .inl rfl | exact .inr (.inl rfl) | exact .inr (.inr rfl)) rfl rfl) e_int fun _ _ => rfl) (r_ix (e_var (i := 1) rfl (by first | exact .inl rfl | exact .inr (.inl rfl) | exact .inr (.inr rfl)) rfl rfl) e_int fun _ _ => rfl)) (a_cons e_int a_nil rfl) rfl)))) s_nil)
      (s_one (q_ret (r_call D_reduced (by decide) hr hgu rfl (a_cons (r_op o_mul (r_ix (e_var (i := 0) rfl (by first | exact .inl rfl | exact .inr (.inl rfl) | exact .inr (.inr rfl)) rfl rfl) e_int fun _ _ => rfl) (r_ix (e_var (i := 1) rfl (by first | exact .inl rfl | exact .inr (.inl rfl) | exact .inr (.inr rfl)) rfl rfl) e_int fun _ _ => rfl)) (a_cons (r_op o_mul (r_ix (e_var (i := 0) rfl (by first | exact .inl rfl | exact .inr (.inl rfl) | exact .inr (.inr rfl)) rfl rfl) e_int fun _ _ => rfl) (r_ix (e_var (i := 1) rfl (by first | exact .inl rfl | exact .inr (.inl rfl) | exact .inr (.inr rfl)) rfl rfl) e_int fun _ _ => rfl)) a_nil rfl) rfl) rfl rfl rfl))))
theorem df_multiplied (B : Bl mg) (C : Cs K mg) (D_reduced : Df P w K mg base 2 "reduced" 2 Q_reduced []) (F : FunD K "multiplied" "multiplied" (defArgs (top 19)) (defBody (top 19)) (defScope (top 19)) [] [] f fd) (gm : mg "multiplied" = some (.ref f)) : Df P w K mg base 3 "multiplied" 2 Q_multiplied [] := by
  unfold Q_multiplied
  exact Df.of F gm sc_multiplied rfl ⟨[], .nil, F.bindsN fun _ _ _ _ _ _ us hl => match us, hl with | [_, _], _ => rfl⟩ (fun _ _ => rfl) fun cdv A out s H E hr hgu => bd_multiplied B C D_reduced cdv A out s H E hr hgu
def N_opposite : List Str := ["one"]
theorem sc_opposite : FnScope N_opposite ["one"] (defScope (top 20)) := ⟨rfl, rfl, rfl, by decide +kernel, rfl, by decide +kernel, by decide +kernel⟩
def W_opposite : WS := (sRet (yTup (aCons (yOp subD (wC (.int 0)) (yOp ixQ (wVar 0) (wC (.int 0)))) (aCons (yOp ixQ (wVar 0) (wC (.int 1))) aNil))))
@[irreducible] def Q_opposite : DSp := qOf 1 1 W_opposite
theorem bd_opposite (B : Bl mg) (C : Cs K mg) (cdv : Value) (A : Around) (out : List Env) (s : Shared) (H : Hp) (E : XK) (hr : Room 0 (A.deeper (envOfC "opposite" (defScope (top 20)) s.heap.objs.size f cdv))) (hgu : A.guards = some []) :
    PSs (cxOf C8.CX0 P w K mg base N_opposite "opposite" (defScope (top 20)) f cdv A out s H E).nox (defBody (top 20)) (lS K W_opposite) :=
      (s_one (q_ret (r_tup (a_cons (r_op o_sub e_int (r_ix (e_var (i := 0) rfl (by first | exact .inl rfl | exact .inr (.inl rfl) | exact .inr (.inr rfl)) rfl rfl) e_int fun _ _ => rfl)) (a_cons (r_ix (e_var (i := 0) rfl (by first | exact .inl rfl | exact .inr (.inl rfl) | exact .inr (.inr rfl)) rfl rfl) e_int fun _ _ => rfl) a_nil rfl) rfl))))
theorem df_opposite (B : Bl mg) (C : Cs K mg) (F : FunD K "opposite" "opposite" (defArgs (top 20)) (defBody (top 20)) (defScope (top 20)) [] [] f fd) (gm : mg "opposite" = some (.ref f)) : Df P w K mg base 1 "opposite" 1 Q_opposite [] := by
  unfold Q_opposite
  exact Df.of F gm sc_opposite rfl ⟨[], .nil, F.bindsN fun _ _ _ _ _ _ us hl => match us, hl with | [_], _ => rfl⟩ (fun _ _ => rfl) fun cdv A out s H E hr hgu => bd_opposite B C  cdv A out s H E hr hgu
def N_divided : List Str := ["one", "other"]
theorem sc_divided : FnScope N_divided ["one", "other"] (defScope (top 21)) := ⟨rfl, rfl, rfl, by decide +kernel, rfl, by decide +kernel, by decide +kernel⟩
def W_divided : WS := (sRet (yCall Q_reduced [] (aCons (yOp mulD (yOp ixQ (wVar 0) (wC (.int 0))) (yOp ixQ (wVar 1) (wC (.int 1)))) (aCons (yOp mulD (yOp ixQ (wVar 0) (wC (.int 1))) (yOp ixQ (wVar 1) (wC (.int 0)))) aNil))))
@[irreducible] def Q_divided : DSp := qOf 2 2 W_divided
theorem bd_divided (B : Bl mg) (C : Cs K mg) (D_reduced : Df P w K mg base 2 "reduced" 2 Q_reduced []) (cdv : Value) (A : Around) (out : List Env) (s : Shared) (H : Hp) (E : XK) (hr : Room 2 (A.deeper (envOfC "divided" (defScope (top 21)) s.heap.objs.size f cdv))) (hgu : A.guards = some []) :
    PSs (cxOf C8.CX0 P w K mg base N_divided "divided" (defScope (top 21)) f cdv A out s H E).nox (defBody (top 21)) (lS K W_divided) :=
      (s_one (q_ret (r_call D_reduced (by decide) hr hgu rfl (a_cons (r_op o_mul (r_ix (e_var (i := 0) rfl (by first | exact .inl rfl | exact .inr (.inl rfl) | exact .inr (.inr rfl)) rfl rfl) e_int fun _ _ => rfl) (r_ix (e_var (i := 1) rfl (by first | exact .inl rfl | exact .inr (.inl rfl) | exact .inr (.inr rfl)) rfl rfl) e_int fun _ _ => rfl)) (a_cons (r_op o_mul (r_ix (e_var (i := 0) rfl (by first | exact .inl rfl | exact .inr (.inl rfl) | exact .inr (.inr rfl)) rfl rfl) e_int fun _ _ => rfl) (r_ix (e_var (i := 1) rfl (by first | exact .inl rfl | exact .inr (.inl rfl) | exact .inr (.inr rfl)) rfl rfl) e_int fun _ _ => rfl)) a_nil rfl) rfl) rfl rfl rfl)))
theorem df_divided (B : Bl mg) (C : Cs K mg) (D_reduced : Df P w K mg base 2 "reduced" 2 Q_reduced []) (F : FunD K "divided" "divided" (defArgs (top 21)) (defBody (top 21)) (defScope (top 21)) [] [] f fd) (gm : mg "divided" = some (.ref f)) : Df P w K mg base 3 "divided" 2 Q_divided [] := by
  unfold Q_divided
  exact Df.of F gm sc_divided rfl ⟨[], .nil, F.bindsN fun _ _ _ _ _ _ us hl => match us, hl with | [_, _], _ => rfl⟩ (fun _ _ => rfl) fun cdv A out s H E hr hgu => bd_divided B C D_reduced cdv A out s H E hr hgu
def N_sum_of : List Str := ["numbers", "found", "one"]
theorem sc_sum_of : FnScope N_sum_of ["numbers"] (defScope (top 22)) := ⟨rfl, rfl, rfl, by decide +kernel, rfl, by decide +kernel, by decide +kernel⟩
def W_sum_of : WS := (wSeq (sSet 1 (wC (.tup [(.int 0), (.int 1)])))
  (wSeq (wFor (wiS (wVar 0)) (.nm 2) (sSet 1 (yCall Q_added [] (aCons (wVar 1) (aCons (wVar 2) aNil)))))
  (sRet (wVar 1))))
@[irreducible] def Q_sum_of : DSp := qOf 1 3 W_sum_of
theorem bd_sum_of (B : Bl mg) (C : Cs K mg) (D_added : Df P w K mg base 3 "added" 2 Q_added []) (cdv : Value) (A : Around) (out : List Env) (s : Shared) (H : Hp) (E : XK) (hr : Room 3 (A.deeper (envOfC "sum_of" (defScope (top 22)) s.heap.objs.size f cdv))) (hgu : A.guards = some []) :
    PSs (cxOf C8.CX0 P w K mg base N_sum_of "sum_of" (defScope (top 22)) f cdv A out s H E).nox (defBody (top 22)) (lS K W_sum_of) :=
      (s_cons (q_set (i := 1) sc_sum_of.nd rfl (by first | exact .inl rfl | exact .inr rfl) (r_glo C.NOUGHT rfl rfl) rfl (by first | exact .inl rfl | exact .inr rfl))
      (s_cons (s_for (g := (.nm 2)) PassesOwn.never rfl (i_seq (e_var (i := 0) rfl (by first | exact .inl rfl | exact .inr (.inl rfl) | exact .inr (.inr rfl)) rfl rfl)) (g_nm sc_sum_of.nd rfl (by first | exact .inl rfl | exact .inr rfl) (by first | exact .inl rfl | exact .inr rfl)) (s_one (q_set (i := 1) sc_sum_of.nd rfl (by first | exact .inl rfl | exact .inr rfl) (r_call D_added (by decide) hr hgu rfl (a_cons (e_var (i := 1) rfl (by first | exact .inl rfl | exact .inr (.inl rfl) | exact .inr (.inr rfl)) rfl rfl) (a_cons (e_var (i := 2) rfl (by first | exact .inl rfl | exact .inr (.inl rfl) | exact .inr (.inr rfl)) rfl rfl) a_nil rfl) rfl) rfl rfl rfl) rfl (by first | exact .inl rfl | exact .inr rfl))) fun _ => rfl)
      (s_one (q_ret (e_var (i := 1) rfl (by first | exact .inl rfl | exact .inr (.inl rfl) | exact .inr (.inr rfl)) rfl rfl)))))
theorem df_sum_of (B : Bl mg) (C : Cs K mg) (D_added : Df P w K mg base 3 "added" 2 Q_added []) (F : FunD K "sum_of" "sum_of" (defArgs (top 22)) (defBody (top 22)) (defScope (top 22)) [] [] f fd) (gm : mg "sum_of" = some (.ref f)) : Df P w K mg base 4 "sum_of" 1 Q_sum_of [] := by
  unfold Q_sum_of
  exact Df.of F gm sc_sum_of rfl ⟨[], .nil, F.bindsN fun _ _ _ _ _ _ us hl => match us, hl with | [_], _ => rfl⟩ (fun _ _ => rfl) fun cdv A out s H E hr hgu => bd_sum_of B C D_added cdv A out s H E hr hgu
def N_plus : List Str := ["one", "other"]
theorem sc_plus : FnScope N_plus ["one", "other"] (defScope (top 23)) := ⟨rfl, rfl, rfl, by decide +kernel, rfl, by decide +kernel, by decide +kernel⟩
def W_plus : WS := (wSeq (sExp (yCall Q_require_fraction [] (aCons (wVar 0) aNil)))
  (wSeq (sExp (yCall Q_require_fraction [] (aCons (wVar 1) aNil)))
  (sRet (yCall Q_added [] (aCons (wVar 0) (aCons (wVar 1) aNil))))))
@[irreducible] def Q_plus : DSp := qOf 2 2 W_plus
theorem bd_plus (B : Bl mg) (C : Cs K mg) (D_added : Df P w K mg base 3 "added" 2 Q_added []) (D_require_fraction : Df P w K mg base 3 "require_fraction" 1 Q_require_fraction []) (cdv : Value) (A : Around) (out : List Env) (s : Shared) (H : Hp) (E : XK) (hr : Room 3 (A.deeper (envOfC "plus" (defScope (top 23)) s.heap.objs.size f cdv))) (hgu : A.guards = some []) :
    PSs (cxOf C8.CX0 P w K mg base N_plus "plus" (defScope (top 23)) f cdv A out s H E).nox (defBody (top 23)) (lS K W_plus) :=
      (s_cons (q_exp (r_call D_require_fraction (by decide) hr hgu rfl (a_cons (e_var (i := 0) rfl (by first | exact .inl rfl | exact .inr (.inl rfl) | exact .inr (.inr rfl)) rfl rfl) a_nil rfl) rfl rfl rfl) rfl)
      (s_cons (q_exp (r_call D_require_fraction (by decide) hr hgu rfl (a_cons (e_var (i := 1) rfl (by first | exact .inl rfl | exact .inr (.inl rfl) | exact .inr (.inr rfl)) rfl rfl) a_nil rfl) rfl rfl rfl) rfl)
      (s_one (q_ret (r_call D_added (by decide) hr hgu rfl (a_cons (e_var (i := 0) rfl (by first | exact .inl rfl | exact .inr (.inl rfl) | exact .inr (.inr rfl)) rfl rfl) (a_cons (e_var (i := 1) rfl (by first | exact .inl rfl | exact .inr (.inl rfl) | exact .inr (.inr rfl)) rfl rfl) a_nil rfl) rfl) rfl rfl rfl)))))
theorem df_plus (B : Bl mg) (C : Cs K mg) (D_added : Df P w K mg base 3 "added" 2 Q_added []) (D_require_fraction : Df P w K mg base 3 "require_fraction" 1 Q_require_fraction []) (F : FunD K "plus" "plus" (defArgs (top 23)) (defBody (top 23)) (defScope (top 23)) [] [] f fd) (gm : mg "plus" = some (.ref f)) : Df P w K mg base 4 "plus" 2 Q_plus [] := by
  unfold Q_plus
  exact Df.of F gm sc_plus rfl ⟨[], .nil, F.bindsN fun _ _ _ _ _ _ us hl => match us, hl with | [_, _], _ => rfl⟩ (fun _ _ => rfl) fun cdv A out s H E hr hgu => bd_plus B C D_added D_require_fraction cdv A out s H E hr hgu
def N_minus : List Str := ["one", "other"]
theorem sc_minus : FnScope N_minus ["one", "other"] (defScope (top 24)) := ⟨rfl, rfl, rfl, by decide +kernel, rfl, by decide +kernel, by decide +kernel⟩
def W_minus : WS := (wSeq (sExp (yCall Q_require_fraction [] (aCons (wVar 0) aNil)))
  (wSeq (sExp (yCall Q_require_fraction [] (aCons (wVar 1) aNil)))
  (sRet (yCall Q_added [] (aCons (wVar 0) (aCons (yCall Q_opposite [] (aCons (wVar 1) aNil)) aNil))))))
@[irreducible] def Q_minus : DSp := qOf 2 2 W_minus
theorem bd_minus (B : Bl mg) (C : Cs K mg) (D_added : Df P w K mg base 3 "added" 2 Q_added []) (D_opposite : Df P w K mg base 1 "opposite" 1 Q_opposite []) (D_require_fraction : Df P w K mg base 3 "require_fraction" 1 Q_require_fraction []) (cdv : Value) (A : Around) (out : List Env) (s : Shared) (H : Hp) (E : XK) (hr : Room 3 (A.deeper (envOfC "minus" (defScope (top 24)) s.heap.objs.size f cdv))) (hgu : A.guards = some []) :
    PSs (cxOf C8.CX0 P w K mg base N_minus "minus" (defScope (top 24)) f cdv A out s H E).nox (defBody (top 24)) (lS K W_minus) :=
      (s_cons (q_exp (r_call D_require_fraction (by decide) hr hgu rfl (a_cons (e_var (i := 0) rfl (by first | exact .inl rfl | exact .inr (.inl rfl) | exact .inr (.inr rfl)) rfl rfl) a_nil rfl) rfl rfl rfl) rfl)
      (s_cons (q_exp (r_call D_require_fraction (by decide) hr hgu rfl (a_cons (e_var (i := 1) rfl (by first | exact .inl rfl | exact .inr (.inl rfl) | exact .inr (.inr rfl)) rfl rfl) a_nil rfl) rfl rfl rfl) rfl)
      (s_one (q_ret (r_call D_added (by decide) hr hgu rfl (a_cons (e_var (i := 0) rfl (by first | exact .inl rfl | exact .inr (.inl rfl) | exact .inr (.inr rfl)) rfl rfl) (a_cons (r_call D_opposite (by decide) hr hgu rfl (a_cons (e_var (i := 1) rfl (by first | exact .inl rfl | exact .inr (.inl rfl) | exact .inr (.inr rfl)) rfl rfl) a_nil rfl) rfl rfl rfl) a_nil rfl) rfl) rfl rfl rfl)))))
theorem df_minus (B : Bl mg) (C : Cs K mg) (D_added : Df P w K mg base 3 "added" 2 Q_added []) (D_opposite : Df P w K mg base 1 "opposite" 1 Q_opposite []) (D_require_fraction : Df P w K mg base 3 "require_fraction" 1 Q_require_fraction []) (F : FunD K "minus" "minus" (defArgs (top 24)) (defBody (top 24)) (defScope (top 24)) [] [] f fd) (gm : mg "minus" = some (.ref f)) : Df P w K mg base 4 "minus" 2 Q_minus [] := by
  unfold Q_minus
  exact Df.of F gm sc_minus rfl ⟨[], .nil, F.bindsN fun _ _ _ _ _ _ us hl => match us, hl with | [_, _], _ => rfl⟩ (fun _ _ => rfl) fun cdv A out s H E hr hgu => bd_minus B C D_added D_opposite D_require_fraction cdv A out s H E hr hgu
def N_times : List Str := ["one", "other"]
theorem sc_times : FnScope N_times ["one", "other"] (defScope (top 25)) := ⟨rfl, rfl, rfl, by decide +kernel, rfl, by decide +kernel, by decide +kernel⟩
def W_times : WS := (wSeq (sExp (yCall Q_require_fraction [] (aCons (wVar 0) aNil)))
  (wSeq (sExp (yCall Q_require_fraction [] (aCons (wVar 1) aNil)))
  (sRet (yCall Q_multiplied [] (aCons (wVar 0) (aCons (wVar 1) aNil))))))
@[irreducible] def Q_times : DSp := qOf 2 2 W_times
theorem bd_times (B : Bl mg) (C : Cs K mg) (D_multiplied : Df P w K mg base 3 "multiplied" 2 Q_multiplied []) (D_require_fraction : Df P w K mg base 3 "require_fraction" 1 Q_require_fraction []) (cdv : Value) (A : Around) (out : List Env) (s : Shared) (H : Hp) (E : XK) (hr : Room 3 (A.deeper (envOfC "times" (defScope (top 25)) s.heap.objs.size f cdv))) (hgu : A.guards = some []) :
    PSs (cxOf C8.CX0 P w K mg base N_times "times" (defScope (top 25)) f cdv A out s H E).nox (defBody (top 25)) (lS K W_times) :=
      (s_cons (q_exp (r_call D_require_fraction (by decide) hr hgu rfl (a_cons (e_var (i := 0) rfl (by first | exact .inl rfl | exact .inr (.inl rfl) | exact .inr (.inr rfl)) rfl rfl) a_nil rfl) rfl rfl rfl) rfl)
      (s_cons (q_exp (r_call D_require_fraction (by decide) hr hgu rfl (a_cons (e_var (i := 1) rfl (by first | exact .inl rfl | exact .inr (.inl rfl) | exact .inr (.inr rfl)) rfl rfl) a_nil rfl) rfl rfl rfl) rfl)
      (s_one (q_ret (r_call D_multiplied (by decide) hr hgu rfl (a_cons (e_var (i := 0) rfl (by first | exact .inl rfl | exact .inr (.inl rfl) | exact .inr (.inr rfl)) rfl rfl) (a_cons (e_var (i := 1) rfl (by first | exact .inl rfl | exact .inr (.inl rfl) | exact .inr (.inr rfl)) rfl rfl) a_nil rfl) rfl) rfl rfl rfl)))))
theorem df_times (B : Bl mg) (C : Cs K mg) (D_multiplied : Df P w K mg base 3 "multiplied" 2 Q_multiplied []) (D_require_fraction : Df P w K mg base 3 "require_fraction" 1 Q_require_fraction []) (F : FunD K "times" "times" (defArgs (top 25)) (defBody (top 25)) (defScope (top 25)) [] [] f fd) (gm : mg "times" = some (.ref f)) : Df P w K mg base 4 "times" 2 Q_times [] := by
  unfold Q_times
  exact Df.of F gm sc_times rfl ⟨[], .nil, F.bindsN fun _ _ _ _ _ _ us hl => match us, hl with | [_, _], _ => rfl⟩ (fun _ _ => rfl) fun cdv A out s H E hr hgu => bd_times B C D_multiplied D_require_fraction cdv A out s H E hr hgu
def N_over : List Str := ["one", "other"]
theorem sc_over : FnScope N_over ["one", "other"] (defScope (top 26)) := ⟨rfl, rfl, rfl, by decide +kernel, rfl, by decide +kernel, by decide +kernel⟩
def W_over : WS := (wSeq (sExp (yCall Q_require_fraction [] (aCons (wVar 0) aNil)))
  (wSeq (sExp (yCall Q_require_fraction [] (aCons (wVar 1) aNil)))
  (wSeq (sIf (yCmT eqD (wVar 1) (wC (.tup [(.int 0), (.int 1)]))) sNev wNext)
  (sRet (yCall Q_divided [] (aCons (wVar 0) (aCons (wVar 1) aNil)))))))
@[irreducible] def Q_over : DSp := qOf 2 2 W_over
theorem bd_over (B : Bl mg) (C : Cs K mg) (D_divided : Df P w K mg base 3 "divided" 2 Q_divided []) (D_require_fraction : Df P w K mg base 3 "require_fraction" 1 Q_require_fraction []) (cdv : Value) (A : Around) (out : List Env) (s : Shared) (H : Hp) (E : XK) (hr : Room 3 (A.deeper (envOfC "over" (defScope (top 26)) s.heap.objs.size f cdv))) (hgu : A.guards = some []) :
    PSs (cxOf C8.CX0 P w K mg base N_over "over" (defScope (top 26)) f cdv A out s H E).nox (defBody (top 26)) (lS K W_over) :=
      (s_cons (q_exp (r_call D_require_fraction (by decide) hr hgu rfl (a_cons (e_var (i := 0) rfl (by first | exact .inl rfl | exact .inr (.inl rfl) | exact .inr (.inr rfl)) rfl rfl) a_nil rfl) rfl rfl rfl) rfl)
      (s_cons (q_exp (r_call D_require_fraction (by decide) hr hgu rfl (a_cons (e_var (i := 1) rfl (by first | exact .inl rfl | exact .inr (.inl rfl) | exact .inr (.inr rfl)) rfl rfl) a_nil rfl) rfl rfl rfl) rfl)
      (s_cons (q_if (r_cmpT (o_eq hr.units) (e_var (i := 1) rfl (by first | exact .inl rfl | exact .inr (.inl rfl) | exact .inr (.inr rfl)) rfl rfl) (r_glo C.NOUGHT rfl rfl) rfl) (s_one q_nev) s_nil)
      (s_one (q_ret (r_call D_divided (by decide) hr hgu rfl (a_cons (e_var (i := 0) rfl (by first | exact .inl rfl | exact .inr (.inl rfl) | exact .inr (.inr rfl)) rfl rfl) (a_cons (e_var (i := 1) rfl (by first | exact .inl rfl | exact .inr (.inl rfl) | exact .inr (.inr rfl)) rfl rfl) a_nil rfl) rfl) rfl rfl rfl))))))
theorem df_over (B : Bl mg) (C : Cs K mg) (D_divided : Df P w K mg base 3 "divided" 2 Q_divided []) (D_require_fraction : Df P w K mg base 3 "require_fraction" 1 Q_require_fraction []) (F : FunD K "over" "over" (defArgs (top 26)) (defBody (top 26)) (defScope (top 26)) [] [] f fd) (gm : mg "over" = some (.ref f)) : Df P w K mg base 4 "over" 2 Q_over [] := by
  unfold Q_over
  exact Df.of F gm sc_over rfl ⟨[], .nil, F.bindsN fun _ _ _ _ _ _ us hl => match us, hl with | [_, _], _ => rfl⟩ (fun _ _ => rfl) fun cdv A out s H E hr hgu => bd_over B C D_divided D_require_fraction cdv A out s H E hr hgu
def N_compared : List Str := ["one", "other", "left", "right"]
theorem sc_compared : FnScope N_compared ["one", "other"] (defScope (top 27)) := ⟨rfl, rfl, rfl, by decide +kernel, rfl, by decide +kernel, by decide +kernel⟩
def W_compared : WS := (wSeq (sExp (yCall Q_require_fraction [] (aCons (wVar 0) aNil)))
  (wSeq (sExp (yCall Q_require_fraction [] (aCons (wVar 1) aNil)))
  (wSeq (wPar 2 3 (aCons (yOp mulD (yOp ixQ (wVar 0) (wC (.int 0))) (yOp ixQ (wVar 1) (wC (.int 1)))) (aCons (yOp mulD (yOp ixQ (wVar 1) (wC (.int 0))) (yOp ixQ (wVar 0) (wC (.int 1)))) aNil)))
  (sRet (yOp subD (yBl intC (aCons (yOp gtD (wVar 2) (wVar 3)) aNil)) (yBl intC (aCons (yOp ltD (wVar 2) (wVar 3)) aNil)))))))
@[irreducible] def Q_compared : DSp := qOf 2 4 W_compared
theorem bd_compared (B : Bl mg) (C : Cs K mg) (D_require_fraction : Df P w K mg base 3 "require_fraction" 1 Q_require_fraction []) (cdv : Value) (A : Around) (out : List Env) (s : Shared) (H : Hp) (E : XK) (hr : Room 3 (A.deeper (envOfC "compared" (defScope (top 27)) s.heap.objs.size f cdv))) (hgu : A.guards = some []) :
    PSs (cxOf C8.CX0 P w K mg base N_compared "compared" (defScope (top 27)) f cdv A out s H E).nox (defBody (top 27)) (lS K W_compared) :=
      (s_cons (q_exp (r_call D_require_fraction (by decide) hr hgu rfl (a_cons (e_var (i := 0) rfl (by first | exact .inl rfl | exact .inr (.inl rfl) | exact .inr (.inr rfl)) rfl rfl) a_nil rfl) rfl rfl rfl) rfl)
      (s_cons (q_exp (r_call D_require_fraction (by decide) hr hgu rfl (a_cons (e_var (i := 1) rfl (by first | exact .inl rfl | exact .inr (.inl rfl) | exact .inr (.inr rfl)) rfl rfl) a_nil rfl) rfl rfl rfl) rfl)
      (s_cons (s_par (i := 2) (j := 3) rfl sc_compared.nd rfl rfl (by decide) rfl rfl (a_cons (r_op o_mul (r_ix (e_var (i := 0) rfl (by first | exact .inl rfl | exact .inr (.inl rfl) | exact .inr (.inr rfl)) rfl rfl) e_int fun _ _ => rfl) (r_ix (e_var (i := 1) rfl (by first | exact .inl rfl | exact .inr (.inl rfl) | exact .inr (.inr rfl)) rfl rfl) e_int fun _ _ => rfl)) (a_cons (r_op o_mul (r_ix (e_var (i := 1) rfl (by first | exact .inl rfl | exact .inr (.inl rfl) | exact .inr (.inr rfl)) rfl rfl) e_int fun _ _ => rfl) (r_ix (e_var (i := 0) rfl (by first | exact .inl rfl | exact .inr (.inl rfl) | exact .inr (.inr rfl)) rfl rfl) e_int fun _ _ => rfl)) a_nil rfl) rfl) rfl rfl)
      (s_one (q_ret (r_op o_sub (r_typ c_int rfl B.int bt_int (a_cons (r_cmp o_gt (e_var (i := 2) rfl (by first | exact .inl rfl | exact .inr (.inl rfl) | exact .inr (.inr rfl)) rfl rfl) (e_var (i := 3) rfl (by first | exact .inl rfl | exact .inr (.inl rfl) | exact .inr (.inr rfl)) rfl rfl) rfl) a_nil rfl) (by decide) rfl rfl rfl) (r_typ c_int rfl B.int bt_int (a_cons (r_cmp o_lt (e_var (i := 2) rfl (by first | exact .inl rfl | exact .inr (.inl rfl) | exact .inr (.inr rfl)) rfl rfl) (e_var (i := 3) rfl (by first | exact .inl rfl | exact .inr (.inl rfl) | exact .inr (.inr rfl)) rfl rfl) rfl) a_nil rfl) (by decide) rfl rfl rfl)))))))
theorem df_compared (B : Bl mg) (C : Cs K mg) (D_require_fraction : Df P w K mg base 3 "require_fraction" 1 Q_require_fraction []) (F : FunD K "compared" "compared" (defArgs (top 27)) (defBody (top 27)) (defScope (top 27)) [] [] f fd) (gm : mg "compared" = some (.ref f)) : Df P w K mg base 4 "compared" 2 Q_compared [] := by
  unfold Q_compared
  exact Df.of F gm sc_compared rfl ⟨[], .nil, F.bindsN fun _ _ _ _ _ _ us hl => match us, hl with | [_, _], _ => rfl⟩ (fun _ _ => rfl) fun cdv A out s H E hr hgu => bd_compared B C D_require_fraction cdv A out s H E hr hgu
def N_total : List Str := ["numbers", "one"]
theorem sc_total : FnScope N_total ["numbers"] (defScope (top 28)) := ⟨rfl, rfl, rfl, by decide +kernel, rfl, by decide +kernel, by decide +kernel⟩
def W_total : WS := (wSeq (sIf (yOrT (yNotT (yVal (yBl isiC (aCons (wVar 0) (aCons (wC (.ty .tuple)) aNil))))) (yNotT (yVal (yBl allC (aCons (wLc (wiS (wVar 0)) (.nm 1) wYes (yCall Q_is_fraction [] (aCons (wVar 1) aNil)) [1]) aNil))))) sNev wNext)
  (sRet (yCall Q_sum_of [] (aCons (wVar 0) aNil))))
@[irreducible] def Q_total : DSp := qOf 1 2 W_total
theorem bd_total (B : Bl mg) (C : Cs K mg) (D_is_fraction : Df P w K mg base 2 "is_fraction" 1 Q_is_fraction []) (D_sum_of : Df P w K mg base 4 "sum_of" 1 Q_sum_of []) (cdv : Value) (A : Around) (out : List Env) (s : Shared) (H : Hp) (E : XK) (hr : Room 4 (A.deeper (envOfC "total" (defScope (top 28)) s.heap.objs.size f cdv))) (hgu : A.guards = some []) :
    PSs (cxOf C8.CX0 P w K mg base N_total "total" (defScope (top 28)) f cdv A out s H E).nox (defBody (top 28)) (lS K W_total) :=
      (s_cons (q_if (r_pw (r_orT (r_notT (r_val (r_blt (c_isi) rfl B.isinstance bt_isinstance (a_cons (e_var (i := 0) rfl (by first | exact .inl rfl | exact .inr (.inl rfl) | exact .inr (.inr rfl)) rfl rfl) (a_cons (e_tyn (c := .tuple) rfl B.tuple bt_tuple (by decide) rfl) a_nil rfl) rfl) (by decide) rfl rfl rfl) fun _ => rfl)) (r_or1T (r_notT (r_val (r_blt (c_all rfl) rfl B.all bt_all (a_cons (e_lc (own := [("one", 1)]) (g := (.nm 1)) rfl sc_total.nd (i_seq (e_var (i := 0) rfl (by first | exact .inl rfl | exact .inr (.inl rfl) | exact .inr (.inr rfl)) rfl rfl)) (by kernel_rfl) (fun _ _ _ _ _ => (g_nm sc_total.nd rfl (by first | exact .inl rfl | exact .inr rfl) (by first | exact .inl rfl | exact .inr rfl))) (fun _ _ _ _ _ => t_yes) (fun _ _ _ _ _ => (r_call D_is_fraction (by decide) hr hgu rfl (a_cons (e_var (i := 1) rfl (by first | exact .inl rfl | exact .inr (.inl rfl) | exact .inr (.inr rfl)) rfl rfl) a_nil rfl) rfl rfl rfl)) (by decide) (fun _ => rfl)) a_nil rfl) (by decide) rfl rfl rfl) fun _ => rfl))))) (s_one q_nev) s_nil)
      (s_one (q_ret (r_call D_sum_of (by decide) hr hgu rfl (a_cons (e_var (i := 0) rfl (by first | exact .inl rfl | exact .inr (.inl rfl) | exact .inr (.inr rfl)) rfl rfl) a_nil rfl) rfl rfl rfl))))
theorem df_total (B : Bl mg) (C : Cs K mg) (D_is_fraction : Df P w K mg base 2 "is_fraction" 1 Q_is_fraction []) (D_sum_of : Df P w K mg base 4 "sum_of" 1 Q_sum_of []) (F : FunD K "total" "total" (defArgs (top 28)) (defBody (top 28)) (defScope (top 28)) [] [] f fd) (gm : mg "total" = some (.ref f)) : Df P w K mg base 5 "total" 1 Q_total [] := by
  unfold Q_total
  exact Df.of F gm sc_total rfl ⟨[], .nil, F.bindsN fun _ _ _ _ _ _ us hl => match us, hl with | [_], _ => rfl⟩ (fun _ _ => rfl) fun cdv A out s H E hr hgu => bd_total B C D_is_fraction D_sum_of cdv A out s H E hr hgu
def N_power : List Str := ["one", "many", "found", "_"]
theorem sc_power : FnScope N_power ["one", "many"] (defScope (top 29)) := ⟨rfl, rfl, rfl, by decide +kernel, rfl, by decide +kernel, by decide +kernel⟩
def W_power : WS := (wSeq (sExp (yCall Q_require_fraction [] (aCons (wVar 0) aNil)))
  (wSeq (sExp (yCall Q_require_count [(.int 0), (.int 400)] (aCons (wVar 1) aNil)))
  (wSeq (sSet 2 (wC (.tup [(.int 1), (.int 1)])))
  (wSeq (wFor (wiR1 (aCons (wVar 1) aNil)) (.nm 3) (sSet 2 (yCall Q_multiplied [] (aCons (wVar 2) (aCons (wVar 0) aNil)))))
  (sRet (wVar 2))))))
@[irreducible] def Q_power : DSp := qOf 2 4 W_power
theorem bd_power (B : Bl mg) (C : Cs K mg) (D_multiplied : Df P w K mg base 3 "multiplied" 2 Q_multiplied []) (D_require_count_1 : Df P w K mg base 2 "require_count" 3 Q_require_count [(.int 0), (.int 400)]) (D_require_fraction : Df P w K mg base 3 "require_fraction" 1 Q_require_fraction []) (cdv : Value) (A : Around) (out : List Env) (s : Shared) (H : Hp) (E : XK) (hr : Room 3 (A.deeper (envOfC "power" (defScope (top 29)) s.heap.objs.size f cdv))) (hgu : A.guards = some []) :
    PSs (cxOf C8.CX0 P w K mg base N_power "power" (defScope (top 29)) f cdv A out s H E).nox (defBody (top 29)) (lS K W_power) :=
      (s_cons (q_exp (r_call D_require_fraction (by decide) hr hgu rfl (a_cons (e_var (i := 0) rfl (by first | exact .inl rfl | exact .inr (.inl rfl) | exact .inr (.inr rfl)) rfl rfl) a_nil rfl) rfl rfl rfl) rfl)
      (s_cons (q_exp (r_call D_require_count_1 (by decide) hr hgu rfl (a_cons (e_var (i := 1) rfl (by first | exact .inl rfl | exact .inr (.inl rfl) | exact .inr (.inr rfl)) rfl rfl) a_nil rfl) rfl rfl rfl) rfl)
      (s_cons (q_set (i := 2) sc_power.nd rfl (by first | exact .inl rfl | exact .inr rfl) (r_glo C.ONE rfl rfl) rfl (by first | exact .inl rfl | exact .inr rfl))
      (s_cons (s_for (g := (.nm 3)) PassesOwn.never rfl (i_rng1 rfl B.range (a_cons (e_var (i := 1) rfl (by first | exact .inl rfl | exact .inr (.inl rfl) | exact .inr (.inr rfl)) rfl rfl) a_nil rfl) rfl) (g_nm sc_power.nd rfl (by first | exact .inl rfl | exact .inr rfl) (by first | exact .inl rfl | exact .inr rfl)) (s_one (q_set (i := 2) sc_power.nd rfl (by first | exact .inl rfl | exact .inr rfl) (r_call D_multiplied (by decide) hr hgu rfl (a_cons (e_var (i := 2) rfl (by first | exact .inl rfl | exact .inr (.inl rfl) | exact .inr (.inr rfl)) rfl rfl) (a_cons (e_var (i := 0) rfl (by first | exact .inl rfl | exact .inr (.inl rfl) | exact .inr (.inr rfl)) rfl rfl) a_nil rfl) rfl) rfl rfl rfl) rfl (by first | exact .inl rfl | exact .inr rfl))) fun _ => rfl)
      (s_one (q_ret (e_var (i := 2) rfl (by first | exact .inl rfl | exact .inr (.inl rfl) | exact .inr (.inr rfl)) rfl rfl)))))))
theorem df_power (B : Bl mg) (C : Cs K mg) (D_multiplied : Df P w K mg base 3 "multiplied" 2 Q_multiplied []) (D_require_count_1 : Df P w K mg base 2 "require_count" 3 Q_require_count [(.int 0), (.int 400)]) (D_require_fraction : Df P w K mg base 3 "require_fraction" 1 Q_require_fraction []) (F : FunD K "power" "power" (defArgs (top 29)) (defBody (top 29)) (defScope (top 29)) [] [] f fd) (gm : mg "power" = some (.ref f)) : Df P w K mg base 4 "power" 2 Q_power [] := by
  unfold Q_power
  exact Df.of F gm sc_power rfl ⟨[], .nil, F.bindsN fun _ _ _ _ _ _ us hl => match us, hl with | [_, _], _ => rfl⟩ (fun _ _ => rfl) fun cdv A out s H E hr hgu => bd_power B C D_multiplied D_require_count_1 D_require_fraction cdv A out s H E hr hgu
def N_require_integers : List Str := ["numbers", "one"]
theorem sc_require_integers : FnScope N_require_integers ["numbers"] (defScope (top 30)) := ⟨rfl, rfl, rfl, by decide +kernel, rfl, by decide +kernel, by decide +kernel⟩
def W_require_integers : WS := (sIf (yOrT (yNotT (yVal (yBl isiC (aCons (wVar 0) (aCons (wC (.ty .tuple)) aNil))))) (yNotT (yVal (yBl allC (aCons (wLc (wiS (wVar 0)) (.nm 1) wYes (yCall Q_is_integer [] (aCons (wVar 1) aNil)) [1]) aNil))))) sNev wNext)
@[irreducible] def Q_require_integers : DSp := qOf 1 2 W_require_integers
theorem bd_require_integers (B : Bl mg) (C : Cs K mg) (D_is_integer : Df P w K mg base 1 "is_integer" 1 Q_is_integer []) (cdv : Value) (A : Around) (out : List Env) (s : Shared) (H : Hp) (E : XK) (hr : Room 1 (A.deeper (envOfC "require_integers" (defScope (top 30)) s.heap.objs.size f cdv))) (hgu : A.guards = some []) :
    PSs (cxOf C8.CX0 P w K mg base N_require_integers "require_integers" (defScope (top 30)) f cdv A out s H E).nox (defBody (top 30)) (lS K W_require_integers) :=
      (s_one (q_if (r_pw (r_orT (r_notT (r_val (r_blt (c_isi) rfl B.isinstance bt_isinstance (a_cons (e_var (i := 0) rfl (by first | exact .inl rfl | exact .inr (.inl rfl) | exact .inr (.inr rfl)) rfl rfl) (a_cons (e_tyn (c := .tuple) rfl B.tuple bt_tuple (by decide) rfl) a_nil rfl) rfl) (by decide) rfl rfl rfl) fun _ => rfl)) (r_or1T (r_notT (r_val (r_blt (c_all rfl) rfl B.all bt_all (a_cons (e_lc (own := [("one", 1)]) (g := (.nm 1)) rfl sc_require_integers.nd (i_seq (e_var (i := 0) rfl (by first | exact .inl rfl | exact .inr (.inl rfl) | exact .inr (.inr rfl)) rfl rfl)) (by kernel_rfl) (fun _ _ _ _ _ => (g_nm sc_require_integers.nd rfl (by first | exact .inl rfl | exact .inr rfl) (by first | exact .inl rfl | exact .inr rfl))) (fun _ _ _ _ _ => t_yes) (fun _ _ _ _ _ => (r_call D_is_integer (by decide) hr hgu rfl (a_cons (e_var (i := 1) rfl (by first | exact .inl rfl | exact .inr (.inl rfl) | exact .inr (.inr rfl)) rfl rfl) a_nil rfl) rfl rfl rfl)) (by decide) (fun _ => rfl)) a_nil rfl) (by decide) rfl rfl rfl) fun _ => rfl))))) (s_one q_nev) s_nil))
theorem df_require_integers (B : Bl mg) (C : Cs K mg) (D_is_integer : Df P w K mg base 1 "is_integer" 1 Q_is_integer []) (F : FunD K "require_integers" "require_integers" (defArgs (top 30)) (defBody (top 30)) (defScope (top 30)) [] [] f fd) (gm : mg "require_integers" = some (.ref f)) : Df P w K mg base 2 "require_integers" 1 Q_require_integers [] := by
  unfold Q_require_integers
  exact Df.of F gm sc_require_integers rfl ⟨[], .nil, F.bindsN fun _ _ _ _ _ _ us hl => match us, hl with | [_], _ => rfl⟩ (fun _ _ => rfl) fun cdv A out s H E hr hgu => bd_require_integers B C D_is_integer cdv A out s H E hr hgu
def N_divisor_of : List Str := ["numbers", "found", "one"]
theorem sc_divisor_of : FnScope N_divisor_of ["numbers"] (defScope (top 31)) := ⟨rfl, rfl, rfl, by decide +kernel, rfl, by decide +kernel, by decide +kernel⟩
def W_divisor_of : WS := (wSeq (sSet 1 (wC (.int 0)))
  (wSeq (wFor (wiS (wVar 0)) (.nm 2) (sSet 1 (yCall Q_common_divisor [] (aCons (wVar 1) (aCons (wVar 2) aNil)))))
  (sRet (wVar 1))))
@[irreducible] def Q_divisor_of : DSp := qOf 1 3 W_divisor_of
theorem bd_divisor_of (B : Bl mg) (C : Cs K mg) (D_common_divisor : Df P w K mg base 1 "common_divisor" 2 Q_common_divisor []) (cdv : Value) (A : Around) (out : List Env) (s : Shared) (H : Hp) (E : XK) (hr : Room 1 (A.deeper (envOfC "divisor_of" (defScope (top 31)) s.heap.objs.size f cdv))) (hgu : A.guards = some []) :
    PSs (cxOf C8.CX0 P w K mg base N_divisor_of "divisor_of" (defScope (top 31)) f cdv A out s H E).nox (defBody (top 31)) (lS K W_divisor_of) :=
      (s_cons (q_set (i := 1) sc_divisor_of.nd rfl (by first | exact .inl rfl | exact .inr rfl) e_int rfl (by first | exact .inl rfl | exact .inr rfl))
      (s_cons (s_for (g := (.nm 2)) PassesOwn.never rfl (i_seq (e_var (i := 0) rfl (by first | exact .inl rfl | exact .inr (.inl rfl) | exact .inr (.inr rfl)) rfl rfl)) (g_nm sc_divisor_of.nd rfl (by first | exact .inl rfl | exact .inr rfl) (by first | exact .inl rfl | exact .inr rfl)) (s_one (q_set (i := 1) sc_divisor_of.nd rfl (by first | exact .inl rfl | exact .inr rfl) (r_call D_common_divisor (by decide) hr hgu rfl (a_cons (e_var (i := 1) rfl (by first | exact .inl rfl | exact .inr (.inl rfl) | exact .inr (.inr rfl)) rfl rfl) (a_cons (e_var (i := 2) rfl (by first | exact .inl rfl | exact .inr (.inl rfl) | exact .inr (.inr rfl)) rfl rfl) a_nil rfl) rfl) rfl rfl rfl) rfl (by first | exact .inl rfl | exact .inr rfl))) fun _ => rfl)
      (s_one (q_ret (e_var (i := 1) rfl (by first | exact .inl rfl | exact .inr (.inl rfl) | exact .inr (.inr rfl)) rfl rfl)))))
theorem df_divisor_of (B : Bl mg) (C : Cs K mg) (D_common_divisor : Df P w K mg base 1 "common_divisor" 2 Q_common_divisor []) (F : FunD K "divisor_of" "divisor_of" (defArgs (top 31)) (defBody (top 31)) (defScope (top 31)) [] [] f fd) (gm : mg "divisor_of" = some (.ref f)) : Df P w K mg base 2 "divisor_of" 1 Q_divisor_of [] := by
  unfold Q_divisor_of
  exact Df.of F gm sc_divisor_of rfl ⟨[], .nil, F.bindsN fun _ _ _ _ _ _ us hl => match us, hl with | [_], _ => rfl⟩ (fun _ _ => rfl) fun cdv A out s H E hr hgu => bd_divisor_of B C D_common_divisor cdv A out s H E hr hgu
def N_greatest_divisor : List Str := ["numbers"]
theorem sc_greatest_divisor : FnScope N_greatest_divisor ["numbers"] (defScope (top 32)) := ⟨rfl, rfl, rfl, by decide +kernel, rfl, by decide +kernel, by decide +kernel⟩
def W_greatest_divisor : WS := (wSeq (sExp (yCall Q_require_integers [] (aCons (wVar 0) aNil)))
  (sRet (yCall Q_divisor_of [] (aCons (wVar 0) aNil))))
@[irreducible] def Q_greatest_divisor : DSp := qOf 1 1 W_greatest_divisor
theorem bd_greatest_divisor (B : Bl mg) (C : Cs K mg) (D_divisor_of : Df P w K mg base 2 "divisor_of" 1 Q_divisor_of []) (D_require_integers : Df P w K mg base 2 "require_integers" 1 Q_require_integers []) (cdv : Value) (A : Around) (out : List Env) (s : Shared) (H : Hp) (E : XK) (hr : Room 2 (A.deeper (envOfC "greatest_divisor" (defScope (top 32)) s.heap.objs.size f cdv))) (hgu : A.guards = some []) :
    PSs (cxOf C8.CX0 P w K mg base N_greatest_divisor "greatest_divisor" (defScope (top 32)) f cdv A out s H E).nox (defBody (top 32)) (lS K W_greatest_divisor) :=
      (s_cons (q_exp (r_call D_require_integers (by decide) hr hgu rfl (a_cons (e_var (i := 0) rfl (by first | exact .inl rfl | exact .inr (.inl rfl) | exact .inr (.inr rfl)) rfl rfl) a_nil rfl) rfl rfl rfl) rfl)
      (s_one (q_ret (r_call D_divisor_of (by decide) hr hgu rfl (a_cons (e_var (i := 0) rfl (by first | exact .inl rfl | exact .inr (.inl rfl) | exact .inr (.inr rfl)) rfl rfl) a_nil rfl) rfl rfl rfl))))
theorem df_greatest_divisor (B : Bl mg) (C : Cs K mg) (D_divisor_of : Df P w K mg base 2 "divisor_of" 1 Q_divisor_of []) (D_require_integers : Df P w K mg base 2 "require_integers" 1 Q_require_integers []) (F : FunD K "greatest_divisor" "greatest_divisor" (defArgs (top 32)) (defBody (top 32)) (defScope (top 32)) [] [] f fd) (gm : mg "greatest_divisor" = some (.ref f)) : Df P w K mg base 3 "greatest_divisor" 1 Q_greatest_divisor [] := by
  unfold Q_greatest_divisor
  exact Df.of F gm sc_greatest_divisor rfl ⟨[], .nil, F.bindsN fun _ _ _ _ _ _ us hl => match us, hl with | [_], _ => rfl⟩ (fun _ _ => rfl) fun cdv A out s H E hr hgu => bd_greatest_divisor B C D_divisor_of D_require_integers cdv A out s H E hr hgu
def N_multiple_of : List Str := ["numbers", "found", "one"]
theorem sc_multiple_of : FnScope N_multiple_of ["numbers"] (defScope (top 33)) := ⟨rfl, rfl, rfl, by decide +kernel, rfl, by decide +kernel, by decide +kernel⟩
def W_multiple_of : WS := (wSeq (sSet 1 (wC (.int 1)))
  (wSeq (wFor (wiS (wVar 0)) (.nm 2) (wSeq (sIf (yCmT eqD (wVar 2) (wC (.int 0))) (sRet (wC (.int 0))) wNext)
  (sSet 1 (yOp mulD (yOp fdivD (wVar 1) (yCall Q_common_divisor [] (aCons (wVar 1) (aCons (wVar 2) aNil)))) (yBl absC (aCons (wVar 2) aNil))))))
  (sRet (wVar 1))))
@[irreducible] def Q_multiple_of : DSp := qOf 1 3 W_multiple_of
theorem bd_multiple_of (B : Bl mg) (C : Cs K mg) (D_common_divisor : Df P w K mg base 1 "common_divisor" 2 Q_common_divisor []) (cdv : Value) (A : Around) (out : List Env) (s : Shared) (H : Hp) (E : XK) (hr : Room 1 (A.deeper (envOfC "multiple_of" (defScope (top 33)) s.heap.objs.size f cdv))) (hgu : A.guards = some []) :
    PSs (cxOf C8.CX0 P w K mg base N_multiple_of "multiple_of" (defScope (top 33)) f cdv A out s H E).nox (defBody (top 33)) (lS K W_multiple_of) :=
      (s_cons (q_set (i := 1) sc_multiple_of.nd rfl (by first | exact .inl rfl | exact .inr rfl) e_int rfl (by first | exact .inl rfl | exact .inr rfl))
      (s_cons (s_for (g := (.nm 2)) PassesOwn.never rfl (i_seq (e_var (i := 0) rfl (by first | exact .inl rfl | exact .inr (.inl rfl) | exact .inr (.inr rfl)) rfl rfl)) (g_nm sc_multiple_of.nd rfl (by first | exact .inl rfl | exact .inr rfl) (by first | exact .inl rfl | exact .inr rfl)) (s_cons (q_if (r_cmpT (o_eq hr.units) (e_var (i := 2) rfl (by first | exact .inl rfl | exact .inr (.inl rfl) | exact .inr (.inr rfl)) rfl rfl) e_int rfl) (s_one (q_ret e_int)) s_nil)
      (s_one (q_set (i := 1) sc_multiple_of.nd rfl (by first | exact .inl rfl | exact .inr rfl) (r_op o_mul (r_op o_fdiv (e_var (i := 1) rfl (by first | exact .inl rfl | exact .inr (.inl rfl) | exact .inr (.inr rfl)) rfl rfl) (r_call D_common_divisor (by decide) hr hgu rfl (a_cons (e_var (i := 1) rfl (by first | exact .inl rfl | exact .inr (.inl rfl) | exact .inr (.inr rfl)) rfl rfl) (a_cons (e_var (i := 2) rfl (by first | exact .inl rfl | exact .inr (.inl rfl) | exact .inr (.inr rfl)) rfl rfl) a_nil rfl) rfl) rfl rfl rfl)) (r_blt (c_abs) rfl B.abs bt_abs (a_cons (e_var (i := 2) rfl (by first | exact .inl rfl | exact .inr (.inl rfl) | exact .inr (.inr rfl)) rfl rfl) a_nil rfl) (by decide) rfl rfl rfl)) rfl (by first | exact .inl rfl | exact .inr rfl)))) fun _ => rfl)
      (s_one (q_ret (e_var (i := 1) rfl (by first | exact .inl rfl | exact .inr (.inl rfl) | exact .inr (.inr rfl)) rfl rfl)))))
theorem df_multiple_of (B : Bl mg) (C : Cs K mg) (D_common_divisor : Df P w K mg base 1 "common_divisor" 2 Q_common_divisor []) (F : FunD K "multiple_of" "multiple_of" (defArgs (top 33)) (defBody (top 33)) (defScope (top 33)) [] [] f fd) (gm : mg "multiple_of" = some (.ref f)) : Df P w K mg base 2 "multiple_of" 1 Q_multiple_of [] := by
  unfold Q_multiple_of
  exact Df.of F gm sc_multiple_of rfl ⟨[], .nil, F.bindsN fun _ _ _ _ _ _ us hl => match us, hl with | [_], _ => rfl⟩ (fun _ _ => rfl) fun cdv A out s H E hr hgu => bd_multiple_of B C D_common_divisor cdv A out s H E hr hgu
def N_least_multiple_of : List Str := ["numbers"]
theorem sc_least_multiple_of : FnScope N_least_multiple_of ["numbers"] (defScope (top 34)) := ⟨rfl, rfl, rfl, by decide +kernel, rfl, by decide +kernel, by decide +kernel⟩
def W_least_multiple_of : WS := (wSeq (sExp (yCall Q_require_integers [] (aCons (wVar 0) aNil)))
  (sRet (yCall Q_multiple_of [] (aCons (wVar 0) aNil))))
@[irreducible] def Q_least_multiple_of : DSp := qOf 1 1 W_least_multiple_of
theorem bd_least_multiple_of (B : Bl mg) (C : Cs K mg) (D_multiple_of : Df P w K mg base 2 "multiple_of" 1 Q_multiple_of []) (D_require_integers : Df P w K mg base 2 "require_integers" 1 Q_require_integers []) (cdv : Value) (A : Around) (out : List Env) (s : Shared) (H : Hp) (E : XK) (hr : Room 2 (A.deeper (envOfC "least_multiple_of" (defScope (top 34)) s.heap.objs.size f cdv))) (hgu : A.guards = some []) :
    PSs (cxOf C8.CX0 P w K mg base N_least_multiple_of "least_multiple_of" (defScope (top 34)) f cdv A out s H E).nox (defBody (top 34)) (lS K W_least_multiple_of) :=
      (s_cons (q_exp (r_call D_require_integers (by decide) hr hgu rfl (a_cons (e_var (i := 0) rfl (by first | exact .inl rfl | exact .inr (.inl rfl) | exact .inr (.inr rfl)) rfl rfl) a_nil rfl) rfl rfl rfl) rfl)
      (s_one (q_ret (r_call D_multiple_of (by decide) hr hgu rfl (a_cons (e_var (i := 0) rfl (by first | exact .inl rfl | exact .inr (.inl rfl) | exact .inr (.inr rfl)) rfl rfl) a_nil rfl) rfl rfl rfl))))
theorem df_least_multiple_of (B : Bl mg) (C : Cs K mg) (D_multiple_of : Df P w K mg base 2 "multiple_of" 1 Q_multiple_of []) (D_require_integers : Df P w K mg base 2 "require_integers" 1 Q_require_integers []) (F : FunD K "least_multiple_of" "least_multiple_of" (defArgs (top 34)) (defBody (top 34)) (defScope (top 34)) [] [] f fd) (gm : mg "least_multiple_of" = some (.ref f)) : Df P w K mg base 3 "least_multiple_of" 1 Q_least_multiple_of [] := by
  unfold Q_least_multiple_of
  exact Df.of F gm sc_least_multiple_of rfl ⟨[], .nil, F.bindsN fun _ _ _ _ _ _ us hl => match us, hl with | [_], _ => rfl⟩ (fun _ _ => rfl) fun cdv A out s H E hr hgu => bd_least_multiple_of B C D_multiple_of D_require_integers cdv A out s H E hr hgu
def N_combined : List Str := ["one", "other", "left", "right", "times", "number", "first", "second"]
theorem sc_combined : FnScope N_combined ["one", "other"] (defScope (top 35)) := ⟨rfl, rfl, rfl, by decide +kernel, rfl, by decide +kernel, by decide +kernel⟩
def W_combined : WS := (wSeq (wPar 2 3 (aCons (yTup (aCons (wVar 0) (aCons (wC (.int 1)) (aCons (wC (.int 0)) aNil)))) (aCons (yTup (aCons (wVar 1) (aCons (wC (.int 0)) (aCons (wC (.int 1)) aNil)))) aNil)))
  (wSeq (wWh (yCmT neD (yOp ixQ (wVar 3) (wC (.int 0))) (wC (.int 0))) (wSeq (sSet 4 (yOp fdivD (yOp ixQ (wVar 2) (wC (.int 0))) (yOp ixQ (wVar 3) (wC (.int 0)))))
  (wPar 2 3 (aCons (wVar 3) (aCons (yBl tupC (aCons (wLc (wiZ (aCons (wVar 2) (aCons (wVar 3) aNil))) (.tp [(.nm 6), (.nm 7)]) wYes (yOp subD (wVar 6) (yOp mulD (wVar 4) (wVar 7))) [6, 7]) aNil)) aNil)))))
  (sRet (yIf (yCmT geD (yOp ixQ (wVar 2) (wC (.int 0))) (wC (.int 0))) (wVar 2) (yBl tupC (aCons (wLc (wiS (wVar 2)) (.nm 5) wYes (yOp subD (wC (.int 0)) (wVar 5)) [5]) aNil))))))
@[irreducible] def Q_combined : DSp := qOf 2 8 W_combined
theorem bd_combined (B : Bl mg) (C : Cs K mg) (cdv : Value) (A : Around) (out : List Env) (s : Shared) (H : Hp) (E : XK) (hr : Room 0 (A.deeper (envOfC "combined" (defScope (top 35)) s.heap.objs.size f cdv))) (hgu : A.guards = some []) :
    PSs (cxOf C8.CX0 P w K mg base N_combined "combined" (defScope (top 35)) f cdv A out s H E).nox (defBody (top 35)) (lS K W_combined) :=
      (s_cons (s_par (i := 2) (j := 3) rfl sc_combined.nd rfl rfl (by decide) rfl rfl (a_cons (r_tup (a_cons (e_var (i := 0) rfl (by first | exact .inl rfl | exact .inr (.inl rfl) | exact .inr (.inr rfl)) rfl rfl) (a_cons e_int (a_cons e_int a_nil rfl) rfl) rfl)) (a_cons (r_tup (a_cons (e_var (i := 1) rfl (by first | exact .inl rfl | exact .inr (.inl rfl) | exact .inr (.inr rfl)) rfl rfl) (a_cons e_int (a_cons e_int a_nil rfl) rfl) rfl)) a_nil rfl) rfl) rfl rfl)
      (s_cons (s_while PassesOwn.never (r_cmpT (o_ne hr.units) (r_ix (e_var (i := 3) rfl (by first | exact .inl rfl | exact .inr (.inl rfl) | exact .inr (.inr rfl)) rfl rfl) e_int fun _ _ => rfl) e_int rfl) (s_cons (q_set (i := 4) sc_combined.nd rfl (by first | exact .inl rfl | exact .inr rfl) (r_op o_fdiv (r_ix (e_var (i := 2) rfl (by first | exact .inl rfl | exact .inr (.inl rfl) | exact .inr (.inr rfl)) rfl rfl) e_int fun _ _ => rfl) (r_ix (e_var (i := 3) rfl (by first | exact .inl rfl | exact .inr (.inl rfl) | exact .inr (.inr rfl)) rfl rfl) e_int fun _ _ => rfl)) rfl (by first | exact .inl rfl | exact .inr rfl))
      (s_one (s_par (i := 2) (j := 3) rfl sc_combined.nd rfl rfl (by decide) rfl rfl (a_cons (e_var (i := 3) rfl (by first | exact .inl rfl | exact .inr (.inl rfl) | exact .inr (.inr rfl)) rfl rfl) (a_cons (r_typ c_tup rfl B.tuple bt_tuple (a_cons (e_lc (own := [("first", 6), ("second", 7)]) (g := (.tp [(.nm 6), (.nm 7)])) rfl sc_combined.nd (i_zip rfl B.zip (a_cons (e_var (i := 2) rfl (by first | exact .inl rfl | exact .inr (.inl rfl) | exact .inr (.inr rfl)) rfl rfl) (a_cons (e_var (i := 3) rfl (by first | exact .inl rfl | exact .inr (.inl rfl) | exact .inr (.inr rfl)) rfl rfl) a_nil rfl) rfl) rfl rfl) (by kernel_rfl) (fun _ _ _ _ _ => (g_tp rfl (g_cons (g_nm sc_combined.nd rfl (by first | exact .inl rfl | exact .inr rfl) (by first | exact .inl rfl | exact .inr rfl)) (g_cons (g_nm sc_combined.nd rfl (by first | exact .inl rfl | exact .inr rfl) (by first | exact .inl rfl | exact .inr rfl)) g_nil rfl) rfl) rfl rfl)) (fun _ _ _ _ _ => t_yes) (fun _ _ _ _ _ => (r_op o_sub (e_var (i := 6) rfl (by first | exact .inl rfl | exact .inr (.inl rfl) | exact .inr (.inr rfl)) rfl rfl) (r_op o_mul (e_var (i := 4) rfl (by first | exact .inl rfl | exact .inr (.inl rfl) | exact .inr (.inr rfl)) rfl rfl) (e_var (i := 7) rfl (by first | exact .inl rfl | exact .inr (.inl rfl) | exact .inr (.inr rfl)) rfl rfl)))) (by decide) (fun _ => rfl)) a_nil rfl) (by decide) rfl rfl rfl) a_nil rfl) rfl) rfl rfl))))
      (s_one (q_ret (r_if (r_cmpT o_ge (r_ix (e_var (i := 2) rfl (by first | exact .inl rfl | exact .inr (.inl rfl) | exact .inr (.inr rfl)) rfl rfl) e_int fun _ _ => rfl) e_int rfl) (e_var (i := 2) rfl (by first | exact .inl rfl | exact .inr (.inl rfl) | exact .inr (.inr rfl)) rfl rfl) (r_typ c_tup rfl B.tuple bt_tuple (a_cons (e_lc (own := [("number", 5)]) (g := (.nm 5)) rfl sc_combined.nd (i_seq (e_var (i := 2) rfl (by first | exact .inl rfl | exact .inr (.inl rfl) | exact .inr (.inr rfl)) rfl rfl)) (by kernel_rfl) (fun _ _ _ _ _ => (g_nm sc_combined.nd rfl (by first | exact .inl rfl | exact .inr rfl) (by first | exact .inl rfl | exact .inr rfl))) (fun _ _ _ _ _ => t_yes) (fun _ _ _ _ _ => (r_op o_sub e_int (e_var (i := 5) rfl (by first | exact .inl rfl | exact .inr (.inl rfl) | exact .inr (.inr rfl)) rfl rfl))) (by decide) (fun _ => rfl)) a_nil rfl) (by decide) rfl rfl rfl))))))
theorem df_combined (B : Bl mg) (C : Cs K mg) (F : FunD K "combined" "combined" (defArgs (top 35)) (defBody (top 35)) (defScope (top 35)) [] [] f fd) (gm : mg "combined" = some (.ref f)) : Df P w K mg base 1 "combined" 2 Q_combined [] := by
  unfold Q_combined
  exact Df.of F gm sc_combined rfl ⟨[], .nil, F.bindsN fun _ _ _ _ _ _ us hl => match us, hl with | [_, _], _ => rfl⟩ (fun _ _ => rfl) fun cdv A out s H E hr hgu => bd_combined B C  cdv A out s H E hr hgu
def N_bezout : List Str := ["one", "other", "value"]
theorem sc_bezout : FnScope N_bezout ["one", "other"] (defScope (top 36)) := ⟨rfl, rfl, rfl, by decide +kernel, rfl, by decide +kernel, by decide +kernel⟩
def W_bezout : WS := (wSeq (wFor (wiS (yTup (aCons (wVar 0) (aCons (wVar 1) aNil)))) (.nm 2) (sIf (yNotT (yVal (yCall Q_is_integer [] (aCons (wVar 2) aNil)))) sNev wNext))
  (sRet (yCall Q_combined [] (aCons (wVar 0) (aCons (wVar 1) aNil)))))
@[irreducible] def Q_bezout : DSp := qOf 2 3 W_bezout
theorem bd_bezout (B : Bl mg) (C : Cs K mg) (D_combined : Df P w K mg base 1 "combined" 2 Q_combined []) (D_is_integer : Df P w K mg base 1 "is_integer" 1 Q_is_integer []) (cdv : Value) (A : Around) (out : List Env) (s : Shared) (H : Hp) (E : XK) (hr : Room 1 (A.deeper (envOfC "bezout" (defScope (top 36)) s.heap.objs.size f cdv))) (hgu : A.guards = some []) :
    PSs (cxOf C8.CX0 P w K mg base N_bezout "bezout" (defScope (top 36)) f cdv A out s H E).nox (defBody (top 36)) (lS K W_bezout) :=
      (s_cons (s_for (g := (.nm 2)) PassesOwn.never rfl (i_seq (r_tup (a_cons (e_var (i := 0) rfl (by first | exact .inl rfl | exact .inr (.inl rfl) | exact .inr (.inr rfl)) rfl rfl) (a_cons (e_var (i := 1) rfl (by first | exact .inl rfl | exact .inr (.inl rfl) | exact .inr (.inr rfl)) rfl rfl) a_nil rfl) rfl))) (g_nm sc_bezout.nd rfl (by first | exact .inl rfl | exact .inr rfl) (by first | exact .inl rfl | exact .inr rfl)) (s_one (q_if (r_notT (r_val (r_call D_is_integer (by decide) hr hgu rfl (a_cons (e_var (i := 2) rfl (by first | exact .inl rfl | exact .inr (.inl rfl) | exact .inr (.inr rfl)) rfl rfl) a_nil rfl) rfl rfl rfl) fun _ => rfl)) (s_one q_nev) s_nil)) fun _ => rfl)
      (s_one (q_ret (r_call D_combined (by decide) hr hgu rfl (a_cons (e_var (i := 0) rfl (by first | exact .inl rfl | exact .inr (.inl rfl) | exact .inr (.inr rfl)) rfl rfl) (a_cons (e_var (i := 1) rfl (by first | exact .inl rfl | exact .inr (.inl rfl) | exact .inr (.inr rfl)) rfl rfl) a_nil rfl) rfl) rfl rfl rfl))))
theorem df_bezout (B : Bl mg) (C : Cs K mg) (D_combined : Df P w K mg base 1 "combined" 2 Q_combined []) (D_is_integer : Df P w K mg base 1 "is_integer" 1 Q_is_integer []) (F : FunD K "bezout" "bezout" (defArgs (top 36)) (defBody (top 36)) (defScope (top 36)) [] [] f fd) (gm : mg "bezout" = some (.ref f)) : Df P w K mg base 2 "bezout" 2 Q_bezout [] := by
  unfold Q_bezout
  exact Df.of F gm sc_bezout rfl ⟨[], .nil, F.bindsN fun _ _ _ _ _ _ us hl => match us, hl with | [_, _], _ => rfl⟩ (fun _ _ => rfl) fun cdv A out s H E hr hgu => bd_bezout B C D_combined D_is_integer cdv A out s H E hr hgu
def N__law_dice : List Str := ["script", "spot", "cell", "great", "seed"]
theorem sc__law_dice : FnScope N__law_dice ["script", "spot"] (defScope (top 38)) := ⟨rfl, rfl, rfl, by decide +kernel, rfl, by decide +kernel, by decide +kernel⟩
def W__law_dice : WS := (wSeq (sSet 2 (yIf (yCmT ltD (wVar 1) (yBl lenC (aCons (wVar 0) aNil))) (yBl intC (aCons (yOp ixQ (wVar 0) (wVar 1)) aNil)) (yOp addD (yOp mulD (wC (.int 131)) (wVar 1)) (wC (.int 37)))))
  (wSeq (sSet 3 (yOp modD (yBl intC (aCons (yBl absC (aCons (wVar 2) aNil)) aNil)) (yOp powD (yOp powD (wC (.int 10)) (wC (.int 53))) (wC (.int 6)))))
  (wSeq (sSet 4 (yOp addD (yOp addD (yOp addD (yOp mulD (yOp modD (wVar 3) (wC (.int 2305843009213693907))) (wC (.int 73))) (yOp mulD (wC (.int 619)) (wVar 1))) (yOp mulD (wC (.int 41)) (yBl intC (aCons (yOp ltD (wVar 2) (wC (.int 0))) aNil)))) (wC (.int 17))))
  (sRet (yNum (aCons (yBl maxC (aCons (wC (.int 0)) (aCons (yOp subD (wVar 3) (yOp powD (wC (.int 10)) (wC (.int 16)))) aNil))) (aCons (wVar 4) (aCons (wC (.int 0)) aNil))))))))
@[irreducible] def Q__law_dice : DSp := qOf 2 5 W__law_dice
theorem bd__law_dice (B : Bl mg) (C : Cs K mg) (cdv : Value) (A : Around) (out : List Env) (s : Shared) (H : Hp) (E : XK) (hr : Room 0 (A.deeper (envOfC "_law_dice" (defScope (top 38)) s.heap.objs.size f cdv))) (hgu : A.guards = some []) :
    PSs (cxOf C8.CX0 P w K mg base N__law_dice "_law_dice" (defScope (top 38)) f cdv A out s H E).nox (defBody (top 38)) (lS K W__law_dice) :=
      (s_cons (q_set (i := 2) sc__law_dice.nd rfl (by first | exact .inl rfl | exact .inr rfl) (r_if (r_cmpT o_lt (e_var (i := 1) rfl (by first | exact .inl rfl | exact .inr (.inl rfl) | exact .inr (.inr rfl)) rfl rfl) (r_blt (c_len) rfl B.len bt_len (a_cons (e_var (i := 0) rfl (by first | exact .inl rfl | exact .inr (.inl rfl) | exact .inr (.inr rfl)) rfl rfl) a_nil rfl) (by decide) rfl rfl rfl) rfl) (r_typ c_int rfl B.int bt_int (a_cons (r_ix (e_var (i := 0) rfl (by first | exact .inl rfl | exact .inr (.inl rfl) | exact .inr (.inr rfl)) rfl rfl) (e_var (i := 1) rfl (by first | exact .inl rfl | exact .inr (.inl rfl) | exact .inr (.inr rfl)) rfl rfl) fun _ _ => rfl) a_nil rfl) (by decide) rfl rfl rfl) (r_op o_add (r_op o_mul e_int (e_var (i := 1) rfl (by first | exact .inl rfl | exact .inr (.inl rfl) | exact .inr (.inr rfl)) rfl rfl)) e_int)) rfl (by first | exact .inl rfl | exact .inr rfl))
      (s_cons (q_set (i := 3) sc__law_dice.nd rfl (by first | exact .inl rfl | exact .inr rfl) (r_op o_mod (r_typ c_int rfl B.int bt_int (a_cons (r_blt (c_abs) rfl B.abs bt_abs (a_cons (e_var (i := 2) rfl (by first | exact .inl rfl | exact .inr (.inl rfl) | exact .inr (.inr rfl)) rfl rfl) a_nil rfl) (by decide) rfl rfl rfl) a_nil rfl) (by decide) rfl rfl rfl) (r_op o_pow (r_op o_pow e_int e_int) e_int)) rfl (by first | exact .inl rfl | exact .inr rfl))
      (s_cons (q_set (i := 4) sc__law_dice.nd rfl (by first | exact .inl rfl | exact .inr rfl) (r_op o_add (r_op o_add (r_op o_add (r_op o_mul (r_op o_mod (e_var (i := 3) rfl (by first | exact .inl rfl | exact .inr (.inl rfl) | exact .inr (.inr rfl)) rfl rfl) e_int) e_int) (r_op o_mul e_int (e_var (i := 1) rfl (by first | exact .inl rfl | exact .inr (.inl rfl) | exact .inr (.inr rfl)) rfl rfl))) (r_op o_mul e_int (r_typ c_int rfl B.int bt_int (a_cons (r_cmp o_lt (e_var (i := 2) rfl (by first | exact .inl rfl | exact .inr (.inl rfl) | exact .inr (.inr rfl)) rfl rfl) e_int rfl) a_nil rfl) (by decide) rfl rfl rfl))) e_int) rfl (by first | exact .inl rfl | exact .inr rfl))
      (s_one (q_ret (r_num (a_cons (r_blt (c_max rfl) rfl B.max bt_max (a_cons e_int (a_cons (r_op o_sub (e_var (i := 3) rfl (by first | exact .inl rfl | exact .inr (.inl rfl) | exact .inr (.inr rfl)) rfl rfl) (r_op o_pow e_int e_int)) a_nil rfl) rfl) (by decide) rfl rfl rfl) (a_cons (e_var (i := 4) rfl (by first | exact .inl rfl | exact .inr (.inl rfl) | exact .inr (.inr rfl)) rfl rfl) (a_cons e_int a_nil rfl) rfl) rfl)))))))
theorem df__law_dice (B : Bl mg) (C : Cs K mg) (F : FunD K "_law_dice" "_law_dice" (defArgs (top 38)) (defBody (top 38)) (defScope (top 38)) [] [] f fd) (gm : mg "_law_dice" = some (.ref f)) : Df P w K mg base 1 "_law_dice" 2 Q__law_dice [] := by
  unfold Q__law_dice
  exact Df.of F gm sc__law_dice rfl ⟨[], .nil, F.bindsN fun _ _ _ _ _ _ us hl => match us, hl with | [_, _], _ => rfl⟩ (fun _ _ => rfl) fun cdv A out s H E hr hgu => bd__law_dice B C  cdv A out s H E hr hgu
def N__law_roll : List Str := ["dice", "size", "one", "two", "found"]
theorem sc__law_roll : FnScope N__law_roll ["dice", "size"] (defScope (top 39)) := ⟨rfl, rfl, rfl, by decide +kernel, rfl, by decide +kernel, by decide +kernel⟩
def W__law_roll : WS := (wSeq (sIf (yCmT gtD (yOp ixQ (wVar 0) (wC (.int 0))) (wC (.int 0))) (wSeq (sSet 4 (yOp modD (yOp ixQ (wVar 0) (wC (.int 0))) (wVar 1)))
  (wSeq (wSub (yOp fdivD (yOp ixQ (wVar 0) (wC (.int 0))) (wVar 1)) (wVar 0) (wC (.int 0)))
  (sRet (yBl intC (aCons (wVar 4) aNil))))) wNext)
  (wSeq (wSub (yOp addD (yOp ixQ (wVar 0) (wC (.int 2))) (wC (.int 1))) (wVar 0) (wC (.int 2)))
  (wSeq (sSet 2 (yOp modD (yOp addD (yOp ixQ (wVar 0) (wC (.int 1))) (yOp mulD (wC (.int 49979687)) (yOp ixQ (wVar 0) (wC (.int 2))))) (wC (.int 2305843009213693951))))
  (wSeq (sSet 3 (yOp addD (yOp mulD (yOp modD (yOp addD (yOp mulD (wVar 2) (wVar 2)) (yOp mulD (wC (.int 131)) (yOp ixQ (wVar 0) (wC (.int 2))))) (wC (.int 2305843009213693921))) (wC (.int 32452843))) (wVar 2)))
  (sRet (yOp modD (yBl intC (aCons (yOp fdivD (wVar 3) (wC (.int 65587))) aNil)) (wVar 1)))))))
@[irreducible] def Q__law_roll : DSp := qOf 2 5 W__law_roll
theorem bd__law_roll (B : Bl mg) (C : Cs K mg) (cdv : Value) (A : Around) (out : List Env) (s : Shared) (H : Hp) (E : XK) (hr : Room 0 (A.deeper (envOfC "_law_roll" (defScope (top 39)) s.heap.objs.size f cdv))) (hgu : A.guards = some []) :
    PSs (cxOf C8.CX0 P w K mg base N__law_roll "_law_roll" (defScope (top 39)) f cdv A out s H E).nox (defBody (top 39)) (lS K W__law_roll) :=
      (s_cons (q_if (r_cmpT o_gt (r_ix (e_var (i := 0) rfl (by first | exact .inl rfl | exact .inr (.inl rfl) | exact .inr (.inr rfl)) rfl rfl) e_int fun _ _ => rfl) e_int rfl) (s_cons (q_set (i := 4) sc__law_roll.nd rfl (by first | exact .inl rfl | exact .inr rfl) (r_op o_mod (r_ix (e_var (i := 0) rfl (by first | exact .inl rfl | exact .inr (.inl rfl) | exact .inr (.inr rfl)) rfl rfl) e_int fun _ _ => rfl) (e_var (i := 1) rfl (by first | exact .inl rfl | exact .inr (.inl rfl) | exact .inr (.inr rfl)) rfl rfl)) rfl (by first | exact .inl rfl | exact .inr rfl))
      (s_cons (s_sub (r_op o_fdiv (r_ix (e_var (i := 0) rfl (by first | exact .inl rfl | exact .inr (.inl rfl) | exact .inr (.inr rfl)) rfl rfl) e_int fun _ _ => rfl) (e_var (i := 1) rfl (by first | exact .inl rfl | exact .inr (.inl rfl) | exact .inr (.inr rfl)) rfl rfl)) (e_var (i := 0) rfl (by first | exact .inl rfl | exact .inr (.inl rfl) | exact .inr (.inr rfl)) rfl rfl) e_int (fun _ => rfl) rfl rfl rfl)
      (s_one (q_ret (r_typ c_int rfl B.int bt_int (a_cons (e_var (i := 4) rfl (by first | exact .inl rfl | exact .inr (.inl rfl) | exact .inr (.inr rfl)) rfl rfl) a_nil rfl) (by decide) rfl rfl rfl))))) s_nil)
      (s_cons (s_sub (r_op o_add (r_ix (e_var (i := 0) rfl (by first | exact .inl rfl | exact .inr (.inl rfl) | exact .inr (.inr rfl)) rfl rfl) e_int fun _ _ => rfl) e_int) (e_var (i := 0) rfl (by first | exact .inl rfl | exact .inr (.inl rfl) | exact .inr (.inr rfl)) rfl rfl) e_int (fun _ => rfl) rfl rfl rfl)
      (s_cons (q_set (i := 2) sc__law_roll.nd rfl (by first | exact .inl rfl | exact .inr rfl) (r_op o_mod (r_op o_add (r_ix (e_var (i := 0) rfl (by first | exact .inl rfl | exact .inr (.inl rfl) | exact .inr (.inr rfl)) rfl rfl) e_int fun _ _ => rfl) (r_op o_mul e_int (r_ix (e_var (i := 0) rfl (by first | exact .inl rfl | exact .inr (.inl rfl) | exact .inr (.inr rfl)) rfl rfl) e_int fun _ _ => rfl))) e_int) rfl (by first | exact .inl rfl | exact .inr rfl))
      (s_cons (q_set (i := 3) sc__law_roll.nd rfl (by first | exact .inl rfl | exact .inr rfl) (r_op o_add (r_op o_mul (r_op o_mod (r_op o_add (r_op o_mul (e_var (i := 2) rfl (by first | exact .inl rfl | exact .inr (.inl rfl) | exact .inr (.inr rfl)) rfl rfl) (e_var (i := 2) rfl (by first | exact .inl rfl | exact .inr (.inl rfl) | exact .inr (.inr rfl)) rfl rfl)) (r_op o_mul e_int (r_ix (e_var (i := 0) rfl (by first | exact .inl rfl | exact .inr (.inl rfl) | exact .inr (.inr rfl)) rfl rfl) e_int fun _ _ => rfl))) e_int) e_int) (e_var (i := 2) rfl (by first | exact .inl rfl | exact .inr (.inl rfl) | exact .inr (.inr rfl)) rfl rfl)) rfl (by first | exact .inl rfl | exact .inr rfl))
      (s_one (q_ret (r_op o_mod (r_typ c_int rfl B.int bt_int (a_cons (r_op o_fdiv (e_var (i := 3) rfl (by first | exact .inl rfl | exact .inr (.inl rfl) | exact .inr (.inr rfl)) rfl rfl) e_int) a_nil rfl) (by decide) rfl rfl rfl) (e_var (i := 1) rfl (by first | exact .inl rfl | exact .inr (.inl rfl) | exact .inr (.inr rfl)) rfl rfl))))))))
theorem df__law_roll (B : Bl mg) (C : Cs K mg) (F : FunD K "_law_roll" "_law_roll" (defArgs (top 39)) (defBody (top 39)) (defScope (top 39)) [] [] f fd) (gm : mg "_law_roll" = some (.ref f)) : Df P w K mg base 1 "_law_roll" 2 Q__law_roll [] := by
  unfold Q__law_roll
  exact Df.of F gm sc__law_roll rfl ⟨[], .nil, F.bindsN fun _ _ _ _ _ _ us hl => match us, hl with | [_, _], _ => rfl⟩ (fun _ _ => rfl) fun cdv A out s H E hr hgu => bd__law_roll B C  cdv A out s H E hr hgu
def N__law_pick : List Str := ["dice", "things"]
theorem sc__law_pick : FnScope N__law_pick ["dice", "things"] (defScope (top 40)) := ⟨rfl, rfl, rfl, by decide +kernel, rfl, by decide +kernel, by decide +kernel⟩
def W__law_pick : WS := (sRet (yOp ixQ (wVar 1) (yCall Q__law_roll [] (aCons (wVar 0) (aCons (yBl lenC (aCons (wVar 1) aNil)) aNil)))))
@[irreducible] def Q__law_pick : DSp := qOf 2 2 W__law_pick
theorem bd__law_pick (B : Bl mg) (C : Cs K mg) (D__law_roll : Df P w K mg base 1 "_law_roll" 2 Q__law_roll []) (cdv : Value) (A : Around) (out : List Env) (s : Shared) (H : Hp) (E : XK) (hr : Room 1 (A.deeper (envOfC "_law_pick" (defScope (top 40)) s.heap.objs.size f cdv))) (hgu : A.guards = some []) :
    PSs (cxOf C8.CX0 P w K mg base N__law_pick "_law_pick" (defScope (top 40)) f cdv A out s H E).nox (defBody (top 40)) (lS K W__law_pick) :=
      (s_one (q_ret (r_ix (e_var (i := 1) rfl (by first | exact .inl rfl | exact .inr (.inl rfl) | exact .inr (.inr rfl)) rfl rfl) (r_call D__law_roll (by decide) hr hgu rfl (a_cons (e_var (i := 0) rfl (by first | exact .inl rfl | exact .inr (.inl rfl) | exact .inr (.inr rfl)) rfl rfl) (a_cons (r_blt (c_len) rfl B.len bt_len (a_cons (e_var (i := 1) rfl (by first | exact .inl rfl | exact .inr (.inl rfl) | exact .inr (.inr rfl)) rfl rfl) a_nil rfl) (by decide) rfl rfl rfl) a_nil rfl) rfl) rfl rfl rfl) fun _ _ => rfl)))
theorem df__law_pick (B : Bl mg) (C : Cs K mg) (D__law_roll : Df P w K mg base 1 "_law_roll" 2 Q__law_roll []) (F : FunD K "_law_pick" "_law_pick" (defArgs (top 40)) (defBody (top 40)) (defScope (top 40)) [] [] f fd) (gm : mg "_law_pick" = some (.ref f)) : Df P w K mg base 2 "_law_pick" 2 Q__law_pick [] := by
  unfold Q__law_pick
  exact Df.of F gm sc__law_pick rfl ⟨[], .nil, F.bindsN fun _ _ _ _ _ _ us hl => match us, hl with | [_, _], _ => rfl⟩ (fun _ _ => rfl) fun cdv A out s H E hr hgu => bd__law_pick B C D__law_roll cdv A out s H E hr hgu
def N__law_fr : List Str := ["top", "bottom", "sign", "one", "other"]
theorem sc__law_fr : FnScope N__law_fr ["top", "bottom"] (defScope (top 41)) := ⟨rfl, rfl, rfl, by decide +kernel, rfl, by decide +kernel, by decide +kernel⟩
def W__law_fr : WS := (wSeq (wPar 3 4 (aCons (yBl absC (aCons (wVar 0) aNil)) (aCons (yBl absC (aCons (wVar 1) aNil)) aNil)))
  (wSeq (wWh (yCmT gtD (wVar 4) (wC (.int 0))) (wPar 3 4 (aCons (wVar 4) (aCons (yOp modD (wVar 3) (wVar 4)) aNil))))
  (wSeq (sSet 2 (yIf (yCmT ltD (wVar 1) (wC (.int 0))) (yUn negD (wC (.int 1))) (wC (.int 1))))
  (sRet (yTup (aCons (yOp fdivD (yOp mulD (wVar 2) (wVar 0)) (wVar 3)) (aCons (yOp fdivD (yOp mulD (wVar 2) (wVar 1)) (wVar 3)) aNil)))))))
@[irreducible] def Q__law_fr : DSp := qOf 2 5 W__law_fr
theorem bd__law_fr (B : Bl mg) (C : Cs K mg) (cdv : Value) (A : Around) (out : List Env) (s : Shared) (H : Hp) (E : XK) (hr : Room 0 (A.deeper (envOfC "_law_fr" (defScope (top 41)) s.heap.objs.size f cdv))) (hgu : A.guards = some []) :
    PSs (cxOf C8.CX0 P w K mg base N__law_fr "_law_fr" (defScope (top 41)) f cdv A out s H E).nox (defBody (top 41)) (lS K W__law_fr) :=
      (s_cons (s_par (i := 3) (j := 4) rfl sc__law_fr.nd rfl rfl (by decide) rfl rfl (a_cons (r_blt (c_abs) rfl B.abs bt_abs (a_cons (e_var (i := 0) rfl (by first | exact .inl rfl | exact .inr (.inl rfl) | exact .inr (.inr rfl)) rfl rfl) a_nil rfl) (by decide) rfl rfl rfl) (a_cons (r_blt (c_abs) rfl B.abs bt_abs (a_cons (e_var (i := 1) rfl (by first | exact .inl rfl | exact .inr (.inl rfl) | exact .inr (.inr rfl)) rfl rfl) a_nil rfl) (by decide) rfl rfl rfl) a_nil rfl) rfl) rfl rfl)
      (s_cons (s_while PassesOwn.never (r_cmpT o_gt (e_var (i := 4) rfl (by first | exact .inl rfl | exact .inr (.inl rfl) | exact .inr (.inr rfl)) rfl rfl) e_int rfl) (s_one (s_par (i := 3) (j := 4) rfl sc__law_fr.nd rfl rfl (by decide) rfl rfl (a_cons (e_var (i := 4) rfl (by first | exact .inl rfl | exact .inr (.inl rfl) | exact .inr (.inr rfl)) rfl rfl) (a_cons (r_op o_mod (e_var (i := 3) rfl (by first | exact .inl rfl | exact .inr (.inl rfl) | exact .inr (.inr rfl)) rfl rfl) (e_var (i := 4) rfl (by first | exact .inl rfl | exact .inr (.inl rfl) | exact .inr (.inr rfl)) rfl rfl)) a_nil rfl) rfl) rfl rfl)))
      (s_cons (q_set (i := 2) sc__law_fr.nd rfl (by first | exact .inl rfl | exact .inr rfl) (r_if (r_cmpT o_lt (e_var (i := 1) rfl (by first | exact .inl rfl | exact .inr (.inl rfl) | exact .inr (.inr rfl)) rfl rfl) e_int rfl) (r_un u_neg e_int) e_int) rfl (by first | exact .inl rfl | exact .inr rfl))
      (s_one (q_ret (r_tup (a_cons (r_op o_fdiv (r_op o_mul (e_var (i := 2) rfl (by first | exact .inl rfl | exact .inr (.inl rfl) | exact .inr (.inr rfl)) rfl rfl) (e_var (i := 0) rfl (by first | exact .inl rfl | exact .inr (.inl rfl) | exact .inr (.inr rfl)) rfl rfl)) (e_var (i := 3) rfl (by first | exact .inl rfl | exact .inr (.inl rfl) | exact .inr (.inr rfl)) rfl rfl)) (a_cons (r_op o_fdiv (r_op o_mul (e_var (i := 2) rfl (by first | exact .inl rfl | exact .inr (.inl rfl) | exact .inr (.inr rfl)) rfl rfl) (e_var (i := 1) rfl (by first | exact .inl rfl | exact .inr (.inl rfl) | exact .inr (.inr rfl)) rfl rfl)) (e_var (i := 3) rfl (by first | exact .inl rfl | exact .inr (.inl rfl) | exact .inr (.inr rfl)) rfl rfl)) a_nil rfl) rfl)))))))
theorem df__law_fr (B : Bl mg) (C : Cs K mg) (F : FunD K "_law_fr" "_law_fr" (defArgs (top 41)) (defBody (top 41)) (defScope (top 41)) [] [] f fd) (gm : mg "_law_fr" = some (.ref f)) : Df P w K mg base 1 "_law_fr" 2 Q__law_fr [] := by
  unfold Q__law_fr
  exact Df.of F gm sc__law_fr rfl ⟨[], .nil, F.bindsN fun _ _ _ _ _ _ us hl => match us, hl with | [_, _], _ => rfl⟩ (fun _ _ => rfl) fun cdv A out s H E hr hgu => bd__law_fr B C  cdv A out s H E hr hgu
def N__law_plus : List Str := ["one", "other"]
theorem sc__law_plus : FnScope N__law_plus ["one", "other"] (defScope (top 42)) := ⟨rfl, rfl, rfl, by decide +kernel, rfl, by decide +kernel, by decide +kernel⟩
def W__law_plus : WS := (sRet (yCall Q__law_fr [] (aCons (yOp addD (yOp mulD (yOp ixQ (wVar 0) (wC (.int 0))) (yOp ixQ (wVar 1) (wC (.int 1)))) (yOp mulD (yOp ixQ (wVar 1) (wC (.int 0))) (yOp ixQ (wVar 0) (wC (.int 1))))) (aCons (yOp mulD (yOp ixQ (wVar 0) (wC (.int 1))) (yOp ixQ (wVar 1) (wC (.int 1)))) aNil))))
@[irreducible] def Q__law_plus : DSp := qOf 2 2 W__law_plus
theorem bd__law_plus (B : Bl mg) (C : Cs K mg) (D__law_fr : Df P w K mg base 1 "_law_fr" 2 Q__law_fr []) (cdv : Value) (A : Around) (out : List Env) (s : Shared) (H : Hp) (E : XK) (hr : Room 1 (A.deeper (envOfC "_law_plus" (defScope (top 42)) s.heap.objs.size f cdv))) (hgu : A.guards = some []) :
    PSs (cxOf C8.CX0 P w K mg base N__law_plus "_law_plus" (defScope (top 42)) f cdv A out s H E).nox (defBody (top 42)) (lS K W__law_plus) :=
      (s_one (q_ret (r_call D__law_fr (by decide) hr hgu rfl (a_cons (r_op o_add (r_op o_mul (r_ix (e_var (i := 0) rfl (by first | exact .inl rfl | exact .inr (.inl rfl) | exact .inr (.inr rfl)) rfl rfl) e_int fun _ _ => rfl) (r_ix (e_var (i := 1) rfl (by first | exact .inl rfl | exact .inr (.inl rfl) | exact .inr (.inr rfl)) rfl rfl) e_int fun _ _ => rfl)) (r_op o_mul (r_ix (e_var (i := 1) rfl (by first | exact .inl rfl | exact .inr (.inl rfl) | exact .inr (.inr rfl)) rfl rfl) e_int fun _ _ => rfl) (r_ix (e_var (i := 0) rfl (by first | exact .inl rfl | exact .inr (.inl rfl) | exact .inr (.inr rfl)) rfl rfl) e_int fun _ _ => rfl))) (a_cons (r_op o_mul (r_ix (e_var (i := 0) rfl (by first | exact .inl rfl | exact .inr (.inl rfl) | exact .inr (.inr rfl)) rfl rfl) e_int fun _ _ => rfl) (r_ix (e_var (i := 1) rfl (by first | exact .inl rfl | exact .inr (.inl rfl) | exact .inr (.inr rfl)) rfl rfl) e_int fun _ _ => rfl)) a_nil rfl) rfl) rfl rfl rfl)))
theorem df__law_plus (B : Bl mg) (C : Cs K mg) (D__law_fr : Df P w K mg base 1 "_law_fr" 2 Q__law_fr []) (F : FunD K "_law_plus" "_law_plus" (defArgs (top 42)) (defBody (top 42)) (defScope (top 42)) [] [] f fd) (gm : mg "_law_plus" = some (.ref f)) : Df P w K mg base 2 "_law_plus" 2 Q__law_plus [] := by
  unfold Q__law_plus
  exact Df.of F gm sc__law_plus rfl ⟨[], .nil, F.bindsN fun _ _ _ _ _ _ us hl => match us, hl with | [_, _], _ => rfl⟩ (fun _ _ => rfl) fun cdv A out s H E hr hgu => bd__law_plus B C D__law_fr cdv A out s H E hr hgu
def N__law_times : List Str := ["one", "other"]
theorem sc__law_times : FnScope N__law_times ["one", "other"] (defScope (top 43)) := ⟨rfl, rfl, rfl, by decide +kernel, rfl, by decide +kernel, by decide +kernel⟩
def W__law_times : WS := (sRet (yCall Q__law_fr [] (aCons (yOp mulD (yOp ixQ (wVar 0) (wC (.int 0))) (yOp ixQ (wVar 1) (wC (.int 0)))) (aCons (yOp mulD (yOp ixQ (wVar 0) (wC (.int 1))) (yOp ixQ (wVar 1) (wC (.int 1)))) aNil))))
@[irreducible] def Q__law_times : DSp := qOf 2 2 W__law_times
theorem bd__law_times (B : Bl mg) (C : Cs K mg) (D__law_fr : Df P w K mg base 1 "_law_fr" 2 Q__law_fr []) (cdv : Value) (A : Around) (out : List Env) (s : Shared) (H : Hp) (E : XK) (hr : Room 1 (A.deeper (envOfC "_law_times" (defScope (top 43)) s.heap.objs.size f cdv))) (hgu : A.guards = some []) :
    PSs (cxOf C8.CX0 P w K mg base N__law_times "_law_times" (defScope (top 43)) f cdv A out s H E).nox (defBody (top 43)) (lS K W__law_times) :=
      (s_one (q_ret (r_call D__law_fr (by decide) hr hgu rfl (a_cons (r_op o_mul (r_ix (e_var (i := 0) rfl (by first | exact .inl rfl | exact .inr (.inl rfl) | exact .inr (.inr rfl)) rfl rfl) e_int fun _ _ => rfl) (r_ix (e_var (i := 1) rfl (by first | exact .inl rfl | exact .inr (.inl rfl) | exact .inr (.inr rfl)) rfl rfl) e_int fun _ _ => rfl)) (a_cons (r_op o_mul (r_ix (e_var (i := 0) rfl (by first | exact .inl rfl | exact .inr (.inl rfl) | exact .inr (.inr rfl)) rfl rfl) e_int fun _ _ => rfl) (r_ix (e_var (i := 1) rfl (by first | exact .inl rfl | exact .inr (.inl rfl) | exact .inr (.inr rfl)) rfl rfl) e_int fun _ _ => rfl)) a_nil rfl) rfl) rfl rfl rfl)))
theorem df__law_times (B : Bl mg) (C : Cs K mg) (D__law_fr : Df P w K mg base 1 "_law_fr" 2 Q__law_fr []) (F : FunD K "_law_times" "_law_times" (defArgs (top 43)) (defBody (top 43)) (defScope (top 43)) [] [] f fd) (gm : mg "_law_times" = some (.ref f)) : Df P w K mg base 2 "_law_times" 2 Q__law_times [] := by
  unfold Q__law_times
  exact Df.of F gm sc__law_times rfl ⟨[], .nil, F.bindsN fun _ _ _ _ _ _ us hl => match us, hl with | [_, _], _ => rfl⟩ (fun _ _ => rfl) fun cdv A out s H E hr hgu => bd__law_times B C D__law_fr cdv A out s H E hr hgu
def N__law_minus : List Str := ["one", "other"]
theorem sc__law_minus : FnScope N__law_minus ["one", "other"] (defScope (top 44)) := ⟨rfl, rfl, rfl, by decide +kernel, rfl, by decide +kernel, by decide +kernel⟩
def W__law_minus : WS := (sRet (yCall Q__law_fr [] (aCons (yOp subD (yOp mulD (yOp ixQ (wVar 0) (wC (.int 0))) (yOp ixQ (wVar 1) (wC (.int 1)))) (yOp mulD (yOp ixQ (wVar 1) (wC (.int 0))) (yOp ixQ (wVar 0) (wC (.int 1))))) (aCons (yOp mulD (yOp ixQ (wVar 0) (wC (.int 1))) (yOp ixQ (wVar 1) (wC (.int 1)))) aNil))))
@[irreducible] def Q__law_minus : DSp := qOf 2 2 W__law_minus
theorem bd__law_minus (B : Bl mg) (C : Cs K mg) (D__law_fr : Df P w K mg base 1 "_law_fr" 2 Q__law_fr []) (cdv : Value) (A : Around) (out : List Env) (s : Shared) (H : Hp) (E : XK) (hr : Room 1 (A.deeper (envOfC "_law_minus" (defScope (top 44)) s.heap.objs.size f cdv))) (hgu : A.guards = some []) :
    PSs (cxOf C8.CX0 P w K mg base N__law_minus "_law_minus" (defScope (top 44)) f cdv A out s H E).nox (defBody (top 44)) (lS K W__law_minus) :=
      (s_one (q_ret (r_call D__law_fr (by decide) hr hgu rfl (a_cons (r_op o_sub (r_op o_mul (r_ix (e_var (i := 0) rfl (by first | exact .inl rfl | exact .inr (.inl rfl) | exact .inr (.inr rfl)) rfl rfl) e_int fun _ _ => rfl) (r_ix (e_var (i := 1) rfl (by first | exact .inl rfl | exact .inr (.inl rfl) | exact .inr (.inr rfl)) rfl rfl) e_int fun _ _ => rfl)) (r_op o_mul (r_ix (e_var (i := 1) rfl (by first | exact .inl rfl | exact .inr (.inl rfl) | exact .inr (.inr rfl)) rfl rfl) e_int fun _ _ => rfl) (r_ix (e_var (i := 0) rfl (by first | exact .inl rfl | exact .inr (.inl rfl) | exact .inr (.inr rfl)) rfl rfl) e_int fun _ _ => rfl))) (a_cons (r_op o_mul (r_ix (e_var (i := 0) rfl (by first | exact .inl rfl | exact .inr (.inl rfl) | exact .inr (.inr rfl)) rfl rfl) e_int fun _ _ => rfl) (r_ix (e_var (i := 1) rfl (by first | exact .inl rfl | exact .inr (.inl rfl) | exact .inr (.inr rfl)) rfl rfl) e_int fun _ _ => rfl)) a_nil rfl) rfl) rfl rfl rfl)))
theorem df__law_minus (B : Bl mg) (C : Cs K mg) (D__law_fr : Df P w K mg base 1 "_law_fr" 2 Q__law_fr []) (F : FunD K "_law_minus" "_law_minus" (defArgs (top 44)) (defBody (top 44)) (defScope (top 44)) [] [] f fd) (gm : mg "_law_minus" = some (.ref f)) : Df P w K mg base 2 "_law_minus" 2 Q__law_minus [] := by
  unfold Q__law_minus
  exact Df.of F gm sc__law_minus rfl ⟨[], .nil, F.bindsN fun _ _ _ _ _ _ us hl => match us, hl with | [_, _], _ => rfl⟩ (fun _ _ => rfl) fun cdv A out s H E hr hgu => bd__law_minus B C D__law_fr cdv A out s H E hr hgu
def N__law_integer : List Str := ["dice", "bound"]
theorem sc__law_integer : FnScope N__law_integer ["dice"] (defScope (top 45)) := ⟨rfl, rfl, rfl, by decide +kernel, rfl, by decide +kernel, by decide +kernel⟩
def W__law_integer : WS := (wSeq (sSet 1 (yCall Q__law_pick [] (aCons (wVar 0) (aCons (yLst (aCons (wC (.int 10)) (aCons (wC (.int 10)) (aCons (wC (.int 10)) (aCons (wC (.int 100)) (aCons (yOp powD (wC (.int 10)) (wC (.int 6))) (aCons (yOp powD (wC (.int 10)) (wC (.int 19))) aNil))))))) aNil))))
  (sRet (yOp mulD (yOp addD (wC (.int 1)) (yCall Q__law_roll [] (aCons (wVar 0) (aCons (wVar 1) aNil)))) (yCall Q__law_pick [] (aCons (wVar 0) (aCons (yLst (aCons (wC (.int 1)) (aCons (yUn negD (wC (.int 1))) aNil))) aNil))))))
@[irreducible] def Q__law_integer : DSp := qOf 1 2 W__law_integer
theorem bd__law_integer (B : Bl mg) (C : Cs K mg) (D__law_pick : Df P w K mg base 2 "_law_pick" 2 Q__law_pick []) (D__law_roll : Df P w K mg base 1 "_law_roll" 2 Q__law_roll []) (cdv : Value) (A : Around) (out : List Env) (s : Shared) (H : Hp) (E : XK) (hr : Room 2 (A.deeper (envOfC "_law_integer" (defScope (top 45)) s.heap.objs.size f cdv))) (hgu : A.guards = some []) :
    PSs (cxOf C8.CX0 P w K mg base N__law_integer "_law_integer" (defScope (top 45)) f cdv A out s H E).nox (defBody (top 45)) (lS K W__law_integer) :=
      (s_cons (q_set (i := 1) sc__law_integer.nd rfl (by first | exact .inl rfl | exact .inr rfl) (r_call D__law_pick (by decide) hr hgu rfl (a_cons (e_var (i := 0) rfl (by first | exact .inl rfl | exact .inr (.inl rfl) | exact .inr (.inr rfl)) rfl rfl) (a_cons (r_lst (a_cons e_int (a_cons e_int (a_cons e_int (a_cons e_int (a_cons (r_op o_pow e_int e_int) (a_cons (r_op o_pow e_int e_int) a_nil rfl) rfl) rfl) rfl) rfl) rfl)) a_nil rfl) rfl) rfl rfl rfl) rfl (by first | exact .inl rfl | exact .inr rfl))
      (s_one (q_ret (r_op o_mul (r_op o_add e_int (r_call D__law_roll (by decide) hr hgu rfl (a_cons (e_var (i := 0) rfl (by first | exact .inl rfl | exact .inr (.inl rfl) | exact .inr (.inr rfl)) rfl rfl) (a_cons (e_var (i := 1) rfl (by first | exact .inl rfl | exact .inr (.inl rfl) | exact .inr (.inr rfl)) rfl rfl) a_nil rfl) rfl) rfl rfl rfl)) (r_call D__law_pick (by decide) hr hgu rfl (a_cons (e_var (i := 0) rfl (by first | exact .inl rfl | exact .inr (.inl rfl) | exact .inr (.inr rfl)) rfl rfl) (a_cons (r_lst (a_cons e_int (a_cons (r_un u_neg e_int) a_nil rfl) rfl)) a_nil rfl) rfl) rfl rfl rfl)))))
theorem df__law_integer (B : Bl mg) (C : Cs K mg) (D__law_pick : Df P w K mg base 2 "_law_pick" 2 Q__law_pick []) (D__law_roll : Df P w K mg base 1 "_law_roll" 2 Q__law_roll []) (F : FunD K "_law_integer" "_law_integer" (defArgs (top 45)) (defBody (top 45)) (defScope (top 45)) [] [] f fd) (gm : mg "_law_integer" = some (.ref f)) : Df P w K mg base 3 "_law_integer" 1 Q__law_integer [] := by
  unfold Q__law_integer
  exact Df.of F gm sc__law_integer rfl ⟨[], .nil, F.bindsN fun _ _ _ _ _ _ us hl => match us, hl with | [_], _ => rfl⟩ (fun _ _ => rfl) fun cdv A out s H E hr hgu => bd__law_integer B C D__law_pick D__law_roll cdv A out s H E hr hgu
def N__law_drawn : List Str := ["dice"]
theorem sc__law_drawn : FnScope N__law_drawn ["dice"] (defScope (top 46)) := ⟨rfl, rfl, rfl, by decide +kernel, rfl, by decide +kernel, by decide +kernel⟩
def W__law_drawn : WS := (wSeq (sIf (yCmT eqD (yCall Q__law_roll [] (aCons (wVar 0) (aCons (wC (.int 6)) aNil))) (wC (.int 0))) (sRet (yTup (aCons (wC (.int 0)) (aCons (wC (.int 1)) aNil)))) wNext)
  (sRet (yCall Q__law_fr [] (aCons (yCall Q__law_integer [] (aCons (wVar 0) aNil)) (aCons (yBl absC (aCons (yCall Q__law_integer [] (aCons (wVar 0) aNil)) aNil)) aNil)))))
@[irreducible] def Q__law_drawn : DSp := qOf 1 1 W__law_drawn
theorem bd__law_drawn (B : Bl mg) (C : Cs K mg) (D__law_fr : Df P w K mg base 1 "_law_fr" 2 Q__law_fr []) (D__law_integer : Df P w K mg base 3 "_law_integer" 1 Q__law_integer []) (D__law_roll : Df P w K mg base 1 "_law_roll" 2 Q__law_roll []) (cdv : Value) (A : Around) (out : List Env) (s : Shared) (H : Hp) (E : XK) (hr : Room 3 (A.deeper (envOfC "_law_drawn" (defScope (top 46)) s.heap.objs.size f cdv))) (hgu : A.guards = some []) :
    PSs (cxOf C8.CX0 P w K mg base N__law_drawn "_law_drawn" (defScope (top 46)) f cdv A out s H E).nox (defBody (top 46)) (lS K W__law_drawn) :=
      (s_cons (q_if (r_cmpT (o_eq hr.units) (r_call D__law_roll (by decide) hr hgu rfl (a_cons (e_var (i := 0) rfl (by first | exact .inl rfl | exact .inr (.inl rfl) | exact .inr (.inr rfl)) rfl rfl) (a_cons e_int a_nil rfl) rfl) rfl rfl rfl) e_int rfl) (s_one (q_ret (r_tup (a_cons e_int (a_cons e_int a_nil rfl) rfl)))) s_nil)
      (s_one (q_ret (r_call D__law_fr (by decide) hr hgu rfl (a_cons (r_call D__law_integer (by decide) hr hgu rfl (a_cons (e_var (i := 0) rfl (by first | exact .inl rfl | exact .inr (.inl rfl) | exact .inr (.inr rfl)) rfl rfl) a_nil rfl) rfl rfl rfl) (a_cons (r_blt (c_abs) rfl B.abs bt_abs (a_cons (r_call D__law_integer (by decide) hr hgu rfl (a_cons (e_var (i := 0) rfl (by first | exact .inl rfl | exact .inr (.inl rfl) | exact .inr (.inr rfl)) rfl rfl) a_nil rfl) rfl rfl rfl) a_nil rfl) (by decide) rfl rfl rfl) a_nil rfl) rfl) rfl rfl rfl))))
theorem df__law_drawn (B : Bl mg) (C : Cs K mg) (D__law_fr : Df P w K mg base 1 "_law_fr" 2 Q__law_fr []) (D__law_integer : Df P w K mg base 3 "_law_integer" 1 Q__law_integer []) (D__law_roll : Df P w K mg base 1 "_law_roll" 2 Q__law_roll []) (F : FunD K "_law_drawn" "_law_drawn" (defArgs (top 46)) (defBody (top 46)) (defScope (top 46)) [] [] f fd) (gm : mg "_law_drawn" = some (.ref f)) : Df P w K mg base 4 "_law_drawn" 1 Q__law_drawn [] := by
  unfold Q__law_drawn
  exact Df.of F gm sc__law_drawn rfl ⟨[], .nil, F.bindsN fun _ _ _ _ _ _ us hl => match us, hl with | [_], _ => rfl⟩ (fun _ _ => rfl) fun cdv A out s H E hr hgu => bd__law_drawn B C D__law_fr D__law_integer D__law_roll cdv A out s H E hr hgu
def N__law_divisor : List Str := ["numbers", "found", "number", "one", "other"]
theorem sc__law_divisor : FnScope N__law_divisor ["numbers"] (defScope (top 47)) := ⟨rfl, rfl, rfl, by decide +kernel, rfl, by decide +kernel, by decide +kernel⟩
def W__law_divisor : WS := (wSeq (sSet 1 (wC (.int 0)))
  (wSeq (wFor (wiS (wVar 0)) (.nm 2) (wSeq (wPar 3 4 (aCons (wVar 1) (aCons (yBl absC (aCons (wVar 2) aNil)) aNil)))
  (wSeq (wWh (yCmT gtD (wVar 4) (wC (.int 0))) (wPar 3 4 (aCons (wVar 4) (aCons (yOp modD (wVar 3) (wVar 4)) aNil))))
  (sSet 1 (wVar 3)))))
  (sRet (wVar 1))))
@[irreducible] def Q__law_divisor : DSp := qOf 1 5 W__law_divisor
theorem bd__law_divisor (B : Bl mg) (C : Cs K mg) (cdv : Value) (A : Around) (out : List Env) (s : Shared) (H : Hp) (E : XK) (hr : Room 0 (A.deeper (envOfC "_law_divisor" (defScope (top 47)) s.heap.objs.size f cdv))) (hgu : A.guards = some []) :
    PSs (cxOf C8.CX0 P w K mg base N__law_divisor "_law_divisor" (defScope (top 47)) f cdv A out s H E).nox (defBody (top 47)) (lS K W__law_divisor) :=
      (s_cons (q_set (i := 1) sc__law_divisor.nd rfl (by first | exact .inl rfl | exact .inr rfl) e_int rfl (by first | exact .inl rfl | exact .inr rfl))
      (s_cons (s_for (g := (.nm 2)) PassesOwn.never rfl (i_seq (e_var (i := 0) rfl (by first | exact .inl rfl | exact .inr (.inl rfl) | exact .inr (.inr rfl)) rfl rfl)) (g_nm sc__law_divisor.nd rfl (by first | exact .inl rfl | exact .inr rfl) (by first | exact .inl rfl | exact .inr rfl)) (s_cons (s_par (i := 3) (j := 4) rfl sc__law_divisor.nd rfl rfl (by decide) rfl rfl (a_cons (e_var (i := 1) rfl (by first | exact .inl rfl | exact .inr (.inl rfl) | exact .inr (.inr rfl)) rfl rfl) (a_cons (r_blt (c_abs) rfl B.abs bt_abs (a_cons (e_var (i := 2) rfl (by first | exact .inl rfl | exact .inr (.inl rfl) | exact .inr (.inr rfl)) rfl rfl) a_nil rfl) (by decide) rfl rfl rfl) a_nil rfl) rfl) rfl rfl)
      (s_cons (s_while PassesOwn.never (r_cmpT o_gt (e_var (i := 4) rfl (by first | exact .inl rfl | exact .inr (.inl rfl) | exact .inr (.inr rfl)) rfl rfl) e_int rfl) (s_one (s_par (i := 3) (j := 4) rfl sc__law_divisor.nd rfl rfl (by decide) rfl rfl (a_cons (e_var (i := 4) rfl (by first | exact .inl rfl | exact .inr (.inl rfl) | exact .inr (.inr rfl)) rfl rfl) (a_cons (r_op o_mod (e_var (i := 3) rfl (by first | exact .inl rfl | exact .inr (.inl rfl) | exact .inr (.inr rfl)) rfl rfl) (e_var (i := 4) rfl (by first | exact .inl rfl | exact .inr (.inl rfl) | exact .inr (.inr rfl)) rfl rfl)) a_nil rfl) rfl) rfl rfl)))
      (s_one (q_set (i := 1) sc__law_divisor.nd rfl (by first | exact .inl rfl | exact .inr rfl) (e_var (i := 3) rfl (by first | exact .inl rfl | exact .inr (.inl rfl) | exact .inr (.inr rfl)) rfl rfl) rfl (by first | exact .inl rfl | exact .inr rfl))))) fun _ => rfl)
      (s_one (q_ret (e_var (i := 1) rfl (by first | exact .inl rfl | exact .inr (.inl rfl) | exact .inr (.inr rfl)) rfl rfl)))))
theorem df__law_divisor (B : Bl mg) (C : Cs K mg) (F : FunD K "_law_divisor" "_law_divisor" (defArgs (top 47)) (defBody (top 47)) (defScope (top 47)) [] [] f fd) (gm : mg "_law_divisor" = some (.ref f)) : Df P w K mg base 1 "_law_divisor" 1 Q__law_divisor [] := by
  unfold Q__law_divisor
  exact Df.of F gm sc__law_divisor rfl ⟨[], .nil, F.bindsN fun _ _ _ _ _ _ us hl => match us, hl with | [_], _ => rfl⟩ (fun _ _ => rfl) fun cdv A out s H E hr hgu => bd__law_divisor B C  cdv A out s H E hr hgu
def N__law_multiple : List Str := ["numbers", "found", "number"]
theorem sc__law_multiple : FnScope N__law_multiple ["numbers"] (defScope (top 48)) := ⟨rfl, rfl, rfl, by decide +kernel, rfl, by decide +kernel, by decide +kernel⟩
def W__law_multiple : WS := (wSeq (sSet 1 (wC (.int 1)))
  (wSeq (wFor (wiS (wVar 0)) (.nm 2) (wSeq (sIf (yCmT eqD (wVar 2) (wC (.int 0))) (sRet (wC (.int 0))) wNext)
  (sSet 1 (yOp fdivD (yOp mulD (wVar 1) (yBl absC (aCons (wVar 2) aNil))) (yCall Q__law_divisor [] (aCons (yLst (aCons (wVar 1) (aCons (wVar 2) aNil))) aNil))))))
  (sRet (wVar 1))))
@[irreducible] def Q__law_multiple : DSp := qOf 1 3 W__law_multiple
theorem bd__law_multiple (B : Bl mg) (C : Cs K mg) (D__law_divisor : Df P w K mg base 1 "_law_divisor" 1 Q__law_divisor []) (cdv : Value) (A : Around) (out : List Env) (s : Shared) (H : Hp) (E : XK) (hr : Room 1 (A.deeper (envOfC "_law_multiple" (defScope (top 48)) s.heap.objs.size f cdv))) (hgu : A.guards = some []) :
    PSs (cxOf C8.CX0 P w K mg base N__law_multiple "_law_multiple" (defScope (top 48)) f cdv A out s H E).nox (defBody (top 48)) (lS K W__law_multiple) :=
      (s_cons (q_set (i := 1) sc__law_multiple.nd rfl (by first | exact .inl rfl | exact .inr rfl) e_int rfl (by first | exact .inl rfl | exact .inr rfl))
      (s_cons (s_for (g := (.nm 2)) PassesOwn.never rfl (i_seq (e_var (i := 0) rfl (by first | exact .inl rfl | exact .inr (.inl rfl) | exact .inr (.inr rfl)) rfl rfl)) (g_nm sc__law_multiple.nd rfl (by first | exact .inl rfl | exact .inr rfl) (by first | exact .inl rfl | exact .inr rfl)) (s_cons (q_if (r_cmpT (o_eq hr.units) (e_var (i := 2) rfl (by first | exact .inl rfl | exact .inr (.inl rfl) | exact .inr (.inr rfl)) rfl rfl) e_int rfl) (s_one (q_ret e_int)) s_nil)
      (s_one (q_set (i := 1) sc__law_multiple.nd rfl (by first | exact .inl rfl | exact .inr rfl) (r_op o_fdiv (r_op o_mul (e_var (i := 1) rfl (by first | exact .inl rfl | exact .inr (.inl rfl) | exact .inr (.inr rfl)) rfl rfl) (r_blt (c_abs) rfl B.abs bt_abs (a_cons (e_var (i := 2) rfl (by first | exact .inl rfl | exact .inr (.inl rfl) | exact .inr (.inr rfl)) rfl rfl) a_nil rfl) (by decide) rfl rfl rfl)) (r_call D__law_divisor (by decide) hr hgu rfl (a_cons (r_lst (a_cons (e_var (i := 1) rfl (by first | exact .inl rfl | exact .inr (.inl rfl) | exact .inr (.inr rfl)) rfl rfl) (a_cons (e_var (i := 2) rfl (by first | exact .inl rfl | exact .inr (.inl rfl) | exact .inr (.inr rfl)) rfl rfl) a_nil rfl) rfl)) a_nil rfl) rfl rfl rfl)) rfl (by first | exact .inl rfl | exact .inr rfl)))) fun _ => rfl)
      (s_one (q_ret (e_var (i := 1) rfl (by first | exact .inl rfl | exact .inr (.inl rfl) | exact .inr (.inr rfl)) rfl rfl)))))
theorem df__law_multiple (B : Bl mg) (C : Cs K mg) (D__law_divisor : Df P w K mg base 1 "_law_divisor" 1 Q__law_divisor []) (F : FunD K "_law_multiple" "_law_multiple" (defArgs (top 48)) (defBody (top 48)) (defScope (top 48)) [] [] f fd) (gm : mg "_law_multiple" = some (.ref f)) : Df P w K mg base 2 "_law_multiple" 1 Q__law_multiple [] := by
  unfold Q__law_multiple
  exact Df.of F gm sc__law_multiple rfl ⟨[], .nil, F.bindsN fun _ _ _ _ _ _ us hl => match us, hl with | [_], _ => rfl⟩ (fun _ _ => rfl) fun cdv A out s H E hr hgu => bd__law_multiple B C D__law_divisor cdv A out s H E hr hgu
def N__law_fractions_right : List Str := ["dice", "told", "item", "turn", "one", "other", "third", "due", "left", "right", "row", "many", "top", "bottom"]
theorem sc__law_fractions_right : FnScope N__law_fractions_right ["dice"] (defScope (top 49)) := ⟨rfl, rfl, rfl, by decide +kernel, rfl, by decide +kernel, by decide +kernel⟩
def W__law_fractions_right : WS := (wSeq (wPar3 4 5 6 (aCons (yCall Q__law_drawn [] (aCons (wVar 0) aNil)) (aCons (yCall Q__law_drawn [] (aCons (wVar 0) aNil)) (aCons (yCall Q__law_drawn [] (aCons (wVar 0) aNil)) aNil))))
  (wSeq (sSet 1 (yLst (aCons (yCall Q_plus [] (aCons (wVar 4) (aCons (wVar 5) aNil))) (aCons (yCall Q_minus [] (aCons (wVar 4) (aCons (wVar 5) aNil))) (aCons (yCall Q_times [] (aCons (wVar 4) (aCons (wVar 5) aNil))) (aCons (yCall Q_plus [] (aCons (yCall Q_minus [] (aCons (wVar 4) (aCons (wVar 5) aNil))) (aCons (wVar 5) aNil))) aNil))))))
  (wSeq (sIf (yCmT neD (yBl repC (aCons (wVar 1) aNil)) (yBl repC (aCons (yLst (aCons (yCall Q__law_plus [] (aCons (wVar 4) (aCons (wVar 5) aNil))) (aCons (yCall Q__law_minus [] (aCons (wVar 4) (aCons (wVar 5) aNil))) (aCons (yCall Q__law_times [] (aCons (wVar 4) (aCons (wVar 5) aNil))) (aCons (wVar 4) aNil))))) aNil))) (sRet (wC (.bl false))) wNext)
  (wSeq (sIf (yCmT neD (yOp ixQ (wVar 5) (wC (.int 0))) (wC (.int 0))) (wSeq (sSet 7 (yCall Q__law_fr [] (aCons (yOp mulD (yOp ixQ (wVar 4) (wC (.int 0))) (yOp ixQ (wVar 5) (wC (.int 1)))) (aCons (yOp mulD (yOp ixQ (wVar 4) (wC (.int 1))) (yOp ixQ (wVar 5) (wC (.int 0)))) aNil))))
  (sIf (yOrT (yCmT neD (yBl repC (aCons (yCall Q_over [] (aCons (wVar 4) (aCons (wVar 5) aNil))) aNil)) (yBl repC (aCons (wVar 7) aNil))) (yCmT neD (yCall Q_times [] (aCons (yCall Q_over [] (aCons (wVar 4) (aCons (wVar 5) aNil))) (aCons (wVar 5) aNil))) (wVar 4))) (sRet (wC (.bl false))) wNext)) wNext)
  (wSeq (wPar 8 9 (aCons (yOp mulD (yOp ixQ (wVar 4) (wC (.int 0))) (yOp ixQ (wVar 5) (wC (.int 1)))) (aCons (yOp mulD (yOp ixQ (wVar 5) (wC (.int 0))) (yOp ixQ (wVar 4) (wC (.int 1)))) aNil)))
  (wSeq (sIf (yOrT (yCmT neD (yCall Q_compared [] (aCons (wVar 4) (aCons (wVar 5) aNil))) (yOp subD (yBl intC (aCons (yOp gtD (wVar 8) (wVar 9)) aNil)) (yBl intC (aCons (yOp ltD (wVar 8) (wVar 9)) aNil)))) (yCmT neD (yCall Q_compared [] (aCons (wVar 4) (aCons (wVar 4) aNil))) (wC (.int 0)))) (sRet (wC (.bl false))) wNext)
  (wSeq (sIf (yCmT neD (yCall Q_times [] (aCons (yCall Q_plus [] (aCons (wVar 4) (aCons (wVar 5) aNil))) (aCons (wVar 6) aNil))) (yCall Q_plus [] (aCons (yCall Q_times [] (aCons (wVar 4) (aCons (wVar 6) aNil))) (aCons (yCall Q_times [] (aCons (wVar 5) (aCons (wVar 6) aNil))) aNil)))) (sRet (wC (.bl false))) wNext)
  (wSeq (wPar 10 7 (aCons (wLc (wiR1 (aCons (yCall Q__law_roll [] (aCons (wVar 0) (aCons (wC (.int 6)) aNil))) aNil)) (.nm 3) wYes (yCall Q__law_drawn [] (aCons (wVar 0) aNil)) [3]) (aCons (yTup (aCons (wC (.int 0)) (aCons (wC (.int 1)) aNil))) aNil)))
  (wSeq (wFor (wiS (wVar 10)) (.nm 2) (sSet 7 (yCall Q__law_plus [] (aCons (wVar 7) (aCons (wVar 2) aNil)))))
  (wSeq (sIf (yOrT (yCmT neD (yCall Q_total [] (aCons (yBl tupC (aCons (wVar 10) aNil)) aNil)) (wVar 7)) (yCmT neD (yCall Q_total [] (aCons (yBl tupC (aCons (yRev (wVar 10)) aNil)) aNil)) (wVar 7))) (sRet (wC (.bl false))) wNext)
  (wSeq (wPar 11 7 (aCons (yCall Q__law_roll [] (aCons (wVar 0) (aCons (wC (.int 7)) aNil))) (aCons (yTup (aCons (wC (.int 1)) (aCons (wC (.int 1)) aNil))) aNil)))
  (wSeq (wFor (wiR1 (aCons (wVar 11) aNil)) (.nm 3) (sSet 7 (yCall Q__law_times [] (aCons (wVar 7) (aCons (wVar 4) aNil)))))
  (wSeq (sIf (yOrT (yCmT neD (yCall Q_power [] (aCons (wVar 4) (aCons (wVar 11) aNil))) (wVar 7)) (yCmT neD (yCall Q_power [] (aCons (wVar 4) (aCons (wC (.int 0)) aNil))) (yTup (aCons (wC (.int 1)) (aCons (wC (.int 1)) aNil))))) (sRet (wC (.bl false))) wNext)
  (wSeq (wPar 12 13 (aCons (yCall Q__law_pick [] (aCons (wVar 0) (aCons (yLst (aCons (wC (.int 0)) (aCons (yCall Q__law_integer [] (aCons (wVar 0) aNil)) aNil))) aNil))) (aCons (yCall Q__law_integer [] (aCons (wVar 0) aNil)) aNil)))
  (sRet (yAnd (yOp eqD (yCall Q_fraction [] (aCons (wVar 12) (aCons (wVar 13) aNil))) (yCall Q__law_fr [] (aCons (wVar 12) (aCons (wVar 13) aNil)))) (yOp eqD (yBl repC (aCons (yCall Q_fraction [(.int 1)] (aCons (wVar 12) aNil)) aNil)) (yBl repC (aCons (yTup (aCons (wVar 12) (aCons (wC (.int 1)) aNil))) aNil)))))))))))))))))))
@[irreducible] def Q__law_fractions_right : DSp := qOf 1 14 W__law_fractions_right
theorem bd__law_fractions_right (B : Bl mg) (C : Cs K mg) (D__law_drawn : Df P w K mg base 4 "_law_drawn" 1 Q__law_drawn []) (D__law_fr : Df P w K mg base 1 "_law_fr" 2 Q__law_fr []) (D__law_integer : Df P w K mg base 3 "_law_integer" 1 Q__law_integer []) (D__law_minus : Df P w K mg base 2 "_law_minus" 2 Q__law_minus []) (D__law_pick : Df P w K mg base 2 "_law_pick" 2 Q__law_pick []) (D__law_plus : Df P w K mg base 2 "_law_plus" 2 Q__law_plus []) (D__law_roll : Df P w K mg base 1 "_law_roll" 2 Q__law_roll []) (D__law_times : Df P w K mg base 2 "_law_times" 2 Q__law_times []) (D_compared : Df P w K mg base 4 "compared" 2 Q_compared []) (D_fraction_1 : Df P w K mg base 3 "fraction" 2 Q_fraction [(.int 1)]) (D_fraction : Df P w K mg base 3 "fraction" 2 Q_fraction []) (D_minus : Df P w K mg base 4 "minus" 2 Q_minus []) (D_over : Df P w K mg base 4 "over" 2 Q_over []) (D_plus : Df P w K mg base 4 "plus" 2 Q_plus []) (D_power : Df P w K mg base 4 "power" 2 Q_power []) (D_times : Df P w K mg base 4 "times" 2 Q_times []) (D_total : Df P w K mg base 5 "total" 1 Q_total []) (cdv : Value) (A : Around) (out : List Env) (s : Shared) (H : Hp) (E : XK) (hr : Room 5 (A.deeper (envOfC "_law_fractions_right" (defScope (top 49)) s.heap.objs.size f cdv))) (hgu : A.guards = some []) :
    PSs (cxOf C8.CX0 P w K mg base N__law_fractions_right "_law_fractions_right" (defScope (top 49)) f cdv A out s H E).nox (defBody (top 49)) (lS K W__law_fractions_right) :=
      (s_cons (s_par3 (i := 4) (j := 5) (l := 6) rfl sc__law_fractions_right.nd rfl rfl rfl (by decide) (by decide) (by decide) rfl rfl rfl (a_cons (r_call D__law_drawn (by decide) hr hgu rfl (a_cons (e_var (i := 0) rfl (by first | exact .inl rfl | exact .inr (.inl rfl) | exact .inr (.inr rfl)) rfl rfl) a_nil rfl) rfl rfl rfl) (a_cons (r_call D__law_drawn (by decide) hr hgu rfl (a_cons (e_var (i := 0) rfl (by first | exact .inl rfl | exact .inr (.inl rfl) | exact .inr (.inr rfl)) rfl rfl) a_nil rfl) rfl rfl rfl) (a_cons (r_call D__law_drawn (by decide) hr hgu rfl (a_cons (e_var (i := 0) rfl (by first | exact .inl rfl | exact .inr (.inl rfl) | exact .inr (.inr rfl)) rfl rfl) a_nil rfl) rfl rfl rfl) a_nil rfl) rfl) rfl) rfl rfl)
      (s_cons (q_set (i := 1) sc__law_fractions_right.nd rfl (by first | exact .inl rfl | exact .inr rfl) (r_lst (a_cons (r_call D_plus (by decide) hr hgu rfl (a_cons (e_var (i := 4) rfl (by first | exact .inl rfl | exact .inr (.inl rfl) | exact .inr (.inr rfl)) rfl rfl) (a_cons (e_var (i := 5) rfl (by first | exact .inl rfl | exact .inr (.inl rfl) | exact .inr (.inr rfl)) rfl rfl) a_nil rfl) rfl) rfl rfl rfl) (a_cons (r_call D_minus (by decide) hr hgu rfl (a_cons (e_var (i := 4) rfl (by first | exact .inl rfl | exact .inr (.inl rfl) | exact .inr (.inr rfl)) rfl rfl) (a_cons (e_var (i := 5) rfl (by first | exact .inl rfl | exact .inr (.inl rfl) | exact .inr (.inr rfl)) rfl rfl) a_nil rfl) rfl) rfl rfl rfl) (a_cons (r_call D_times (by decide) hr hgu rfl (a_cons (e_var (i := 4) rfl (by first | exact .inl rfl | exact .inr (.inl rfl) | exact .inr (.inr rfl)) rfl rfl) (a_cons (e_var (i := 5) rfl (by first | exact .inl rfl | exact .inr (.inl rfl) | exact .inr (.inr rfl)) rfl rfl) a_nil rfl) rfl) rfl rfl rfl) (a_cons (r_call D_plus (by decide) hr hgu rfl (a_cons (r_call D_minus (by decide) hr hgu rfl (a_cons (e_var (i := 4) rfl (by first | exact .inl rfl | exact .inr (.inl rfl) | exact .inr (.inr rfl)) rfl rfl) (a_cons (e_var (i := 5) rfl (by first | exact .inl rfl | exact .inr (.inl rfl) | exact .inr (.inr rfl)) rfl rfl) a_nil rfl) rfl) rfl rfl rfl) (a_cons (e_var (i := 5) rfl (by first | exact .inl rfl | exact .inr (.inl rfl) | exact .inr (.inr rfl)) rfl rfl) a_nil rfl) rfl) rfl rfl rfl) a_nil rfl) rfl) rfl) rfl)) rfl (by first | exact .inl rfl | exact .inr rfl))
      (s_cons (q_if (r_cmpT (o_ne hr.units) (r_blt (c_rep hgu hr.units) rfl B.repr bt_repr (a_cons (e_var (i := 1) rfl (by first | exact .inl rfl | exact .inr (.inl rfl) | exact .inr (.inr rfl)) rfl rfl) a_nil rfl) (by decide) rfl rfl rfl) (r_blt (c_rep hgu hr.units) rfl B.repr bt_repr (a_cons (r_lst (a_cons (r_call D__law_plus (by decide) hr hgu rfl (a_cons (e_var (i := 4) rfl (by first | exact .inl rfl | exact .inr (.inl rfl) | exact .inr (.inr rfl)) rfl rfl) (a_cons (e_var (i := 5) rfl (by first | exact .inl rfl | exact .inr (.inl rfl) | exact .inr (.inr rfl)) rfl rfl) a_nil rfl) rfl) rfl rfl rfl) (a_cons (r_call D__law_minus (by decide) hr hgu rfl (a_cons (e_var (i := 4) rfl (by first | exact .inl rfl | exact .inr (.inl rfl) | exact .inr (.inr rfl)) rfl rfl) (a_cons (e_var (i := 5) rfl (by first | exact .inl rfl | exact .inr (.inl rfl) | exact .inr (.inr rfl)) rfl rfl) a_nil rfl) rfl) rfl rfl rfl) (a_cons (r_call D__law_times (by decide) hr hgu rfl (a_cons (e_var (i := 4) rfl (by first | exact .inl rfl | exact .inr (.inl rfl) | exact .inr (.inr rfl)) rfl rfl) (a_cons (e_var (i := 5) rfl (by first | exact .inl rfl | exact .inr (.inl rfl) | exact .inr (.inr rfl)) rfl rfl) a_nil rfl) rfl) rfl rfl rfl) (a_cons (e_var (i := 4) rfl (by first | exact .inl rfl | exact .inr (.inl rfl) | exact .inr (.inr rfl)) rfl rfl) a_nil rfl) rfl) rfl) rfl)) a_nil rfl) (by decide) rfl rfl rfl) rfl) (s_one (q_ret e_bl)) s_nil)
      (s_cons (q_if (r_cmpT (o_ne hr.units) (r_ix (e_var (i := 5) rfl (by first | exact .inl rfl | exact .inr (.inl rfl) | exact .inr (.inr rfl)) rfl rfl) e_int fun _ _ => rfl) e_int rfl) (s_cons (q_set (i := 7) sc__law_fractions_right.nd rfl (by first | exact .inl rfl | exact .inr rfl) (r_call D__law_fr (by decide) hr hgu rfl (a_cons (r_op o_mul (r_ix (e_var (i := 4) rfl (by first | exact .inl rfl | exact .inr (.inl rfl) | exact .inr (.inr rfl)) rfl rfl) e_int fun _ _ => rfl) (r_ix (e_var (i := 5) rfl (by first | exact .inl rfl | exact .inr (.inl rfl) | exact .inr (.inr rfl)) rfl rfl) e_int fun _ _ => rfl)) (a_cons (r_op o_mul (r_ix (e_var (i := 4) rfl (by first | exact .inl rfl | exact .inr (.inl rfl) | exact .inr (.inr rfl)) rfl rfl) e_int fun _ _ => rfl) (r_ix (e_var (i := 5) rfl (by first | exact .inl rfl | exact .inr (.inl rfl) | exact .inr (.inr rfl)) rfl rfl) e_int fun _ _ => rfl)) a_nil rfl) rfl) rfl rfl rfl) rfl (by first | exact .inl rfl | exact .inr rfl))
      (s_one (q_if (r_pw (r_orT (r_cmpT (o_ne hr.units) (r_blt (c_rep hgu hr.units) rfl B.repr bt_repr (a_cons (r_call D_over (by decide) hr hgu rfl (a_cons (e_var (i := 4) rfl (by first | exact .inl rfl | exact .inr (.inl rfl) | exact .inr (.inr rfl)) rfl rfl) (a_cons (e_var (i := 5) rfl (by first | exact .inl rfl | exact .inr (.inl rfl) | exact .inr (.inr rfl)) rfl rfl) a_nil rfl) rfl) rfl rfl rfl) a_nil rfl) (by decide) rfl rfl rfl) (r_blt (c_rep hgu hr.units) rfl B.repr bt_repr (a_cons (e_var (i := 7) rfl (by first | exact .inl rfl | exact .inr (.inl rfl) | exact .inr (.inr rfl)) rfl rfl) a_nil rfl) (by decide) rfl rfl rfl) rfl) (r_or1T (r_cmpT (o_ne hr.units) (r_call D_times (by decide) hr hgu rfl (a_cons (r_call D_over (by decide) hr hgu rfl (a_cons (e_var (i := 4) rfl (by first | exact .inl rfl | exact .inr (.inl rfl) | exact .inr (.inr rfl)) rfl rfl) (a_cons (e_var (i := 5) rfl (by first | exact .inl rfl | exact .inr (.inl rfl) | exact .inr (.inr rfl)) rfl rfl) a_nil rfl) rfl) rfl rfl rfl) (a_cons (e_var (i := 5) rfl (by first | exact .inl rfl | exact .inr (.inl rfl) | exact .inr (.inr rfl)) rfl rfl) a_nil rfl) rfl) rfl rfl rfl) (e_var (i := 4) rfl (by first | exact .inl rfl | exact .inr (.inl rfl) | exact .inr (.inr rfl)) rfl rfl) rfl)))) (s_one (q_ret e_bl)) s_nil))) s_nil)
      (s_cons (s_par (i := 8) (j := 9) rfl sc__law_fractions_right.nd rfl rfl (by decide) rfl rfl (a_cons (r_op o_mul (r_ix (e_var (i := 4) rfl (by first | exact .inl rfl | exact .inr (.inl rfl) | exact .inr (.inr rfl)) rfl rfl) e_int fun _ _ => rfl) (r_ix (e_var (i := 5) rfl (by first | exact .inl rfl | exact .inr (.inl rfl) | exact .inr (.inr rfl)) rfl rfl) e_int fun _ _ => rfl)) (a_cons (r_op o_mul (r_ix (e_var (i := 5) rfl (by first | exact .inl rfl | exact .inr (.inl rfl) | exact .inr (.inr rfl)) rfl rfl) e_int fun _ _ => rfl) (r_ix (e_var (i := 4) rfl (by first | exact .inl rfl | exact .inr (.inl rfl) | exact .inr (.inr rfl)) rfl rfl) e_int fun _ _ => rfl)) a_nil rfl) rfl) rfl rfl)
      (s_cons (q_if (r_pw (r_orT (r_cmpT (o_ne hr.units) (r_call D_compared (by decide) hr hgu rfl (a_cons (e_var (i := 4) rfl (by first | exact .inl rfl | exact .inr (.inl rfl) | exact .inr (.inr rfl)) rfl rfl) (a_cons (e_var (i := 5) rfl (by first | exact .inl rfl | exact .inr (.inl rfl) | exact .inr (.inr rfl)) rfl rfl) a_nil rfl) rfl) rfl rfl rfl) (r_op o_sub (r_typ c_int rfl B.int bt_int (a_cons (r_cmp o_gt (e_var (i := 8) rfl (by first | exact .inl rfl | exact .inr (.inl rfl) | exact .inr (.inr rfl)) rfl rfl) (e_var (i := 9) rfl (by first | exact .inl rfl | exact .inr (.inl rfl) | exact .inr (.inr rfl)) rfl rfl) rfl) a_nil rfl) (by decide) rfl rfl rfl) (r_typ c_int rfl B.int bt_int (a_cons (r_cmp o_lt (e_var (i := 8) rfl (by first | exact .inl rfl | exact .inr (.inl rfl) | exact .inr (.inr rfl)) rfl rfl) (e_var (i := 9) rfl (by first | exact .inl rfl | exact .inr (.inl rfl) | exact .inr (.inr rfl)) rfl rfl) rfl) a_nil rfl) (by decide) rfl rfl rfl)) rfl) (r_or1T (r_cmpT (o_ne hr.units) (r_call D_compared (by decide) hr hgu rfl (a_cons (e_var (i := 4) rfl (by first | exact .inl rfl | exact .inr (.inl rfl) | exact .inr (.inr rfl)) rfl rfl) (a_cons (e_var (i := 4) rfl (by first | exact .inl rfl | exact .inr (.inl rfl) | exact .inr (.inr rfl)) rfl rfl) a_nil rfl) rfl) rfl rfl rfl) e_int rfl)))) (s_one (q_ret e_bl)) s_nil)
      (s_cons (q_if (r_cmpT (o_ne hr.units) (r_call D_times (by decide) hr hgu rfl (a_cons (r_call D_plus (by decide) hr hgu rfl (a_cons (e_var (i := 4) rfl (by first | exact .inl rfl | exact .inr (.inl rfl) | exact .inr (.inr rfl)) rfl rfl) (a_cons (e_var (i := 5) rfl (by first | exact .inl rfl | exact .inr (.inl rfl) | exact .inr (.inr rfl)) rfl rfl) a_nil rfl) rfl) rfl rfl rfl) (a_cons (e_var (i := 6) rfl (by first | exact .inl rfl | exact .inr (.inl rfl) | exact .inr (.inr rfl)) rfl rfl) a_nil rfl) rfl) rfl rfl rfl) (r_call D_plus (by decide) hr hgu rfl (a_cons (r_call D_times (by decide) hr hgu rfl (a_cons (e_var (i := 4) rfl (by first | exact .inl rfl | exact .inr (.inl rfl) | exact .inr (.inr rfl)) rfl rfl) (a_cons (e_var (i := 6) rfl (by first | exact .inl rfl | exact .inr (.inl rfl) | exact .inr (.inr rfl)) rfl rfl) a_nil rfl) rfl) rfl rfl rfl) (a_cons (r_call D_times (by decide) hr hgu rfl (a_cons (e_var (i := 5) rfl (by first | exact .inl rfl | exact .inr (.inl rfl) | exact .inr (.inr rfl)) rfl rfl) (a_cons (e_var (i := 6) rfl (by first | exact .inl rfl | exact .inr (.inl rfl) | exact .inr (.inr rfl)) rfl rfl) a_nil rfl) rfl) rfl rfl rfl) a_nil rfl) rfl) rfl rfl rfl) rfl) (s_one (q_ret e_bl)) s_nil)
      (s_cons (s_par (i := 10) (j := 7) rfl sc__law_fractions_right.nd rfl rfl (by decide) rfl rfl (a_cons (e_lc (own := [("turn", 3)]) (g := (.nm 3)) rfl sc__law_fractions_right.nd (i_rng1 rfl B.range (a_cons (r_call D__law_roll (by decide) hr hgu rfl (a_cons (e_var (i := 0) rfl (by first | exact .inl rfl | exact .inr (.inl rfl) | exact .inr (.inr rfl)) rfl rfl) (a_cons e_int a_nil rfl) rfl) rfl rfl rfl) a_nil rfl) rfl) (by kernel_rfl) (fun _ _ _ _ _ => (g_nm sc__law_fractions_right.nd rfl (by first | exact .inl rfl | exact .inr rfl) (by first | exact .inl rfl | exact .inr rfl))) (fun _ _ _ _ _ => t_yes) (fun _ _ _ _ _ => (r_call D__law_drawn (by decide) hr hgu rfl (a_cons (e_var (i := 0) rfl (by first | exact .inl rfl | exact .inr (.inl rfl) | exact .inr (.inr rfl)) rfl rfl) a_nil rfl) rfl rfl rfl)) (by decide) (fun _ => rfl)) (a_cons (r_tup (a_cons e_int (a_cons e_int a_nil rfl) rfl)) a_nil rfl) rfl) rfl rfl)
      (s_cons (s_for (g := (.nm 2)) PassesOwn.never rfl (i_seq (e_var (i := 10) rfl (by first | exact .inl rfl | exact .inr (.inl rfl) | exact .inr (.inr rfl)) rfl rfl)) (g_nm sc__law_fractions_right.nd rfl (by first | exact .inl rfl | exact .inr rfl) (by first | exact .inl rfl | exact .inr rfl)) (s_one (q_set (i := 7) sc__law_fractions_right.nd rfl (by first | exact .inl rfl | exact .inr rfl) (r_call D__law_plus (by decide) hr hgu rfl (a_cons (e_var (i := 7) rfl (by first | exact .inl rfl | exact .inr (.inl rfl) | exact .inr (.inr rfl)) rfl rfl) (a_cons (e_var (i := 2) rfl (by first | exact .inl rfl | exact .inr (.inl rfl) | exact .inr (.inr rfl)) rfl rfl) a_nil rfl) rfl) rfl rfl rfl) rfl (by first | exact .inl rfl | exact .inr rfl))) fun _ => rfl)
      (s_cons (q_if (r_pw (r_orT (r_cmpT (o_ne hr.units) (r_call D_total (by decide) hr hgu rfl (a_cons (r_typ c_tup rfl B.tuple bt_tuple (a_cons (e_var (i := 10) rfl (by first | exact .inl rfl | exact .inr (.inl rfl) | exact .inr (.inr rfl)) rfl rfl) a_nil rfl) (by decide) rfl rfl rfl) a_nil rfl) rfl rfl rfl) (e_var (i := 7) rfl (by first | exact .inl rfl | exact .inr (.inl rfl) | exact .inr (.inr rfl)) rfl rfl) rfl) (r_or1T (r_cmpT (o_ne hr.units) (r_call D_total (by decide) hr hgu rfl (a_cons (r_typ c_tup rfl B.tuple bt_tuple (a_cons (r_rev (e_var (i := 10) rfl (by first | exact .inl rfl | exact .inr (.inl rfl) | exact .inr (.inr rfl)) rfl rfl)) a_nil rfl) (by decide) rfl rfl rfl) a_nil rfl) rfl rfl rfl) (e_var (i := 7) rfl (by first | exact .inl rfl | exact .inr (.inl rfl) | exact .inr (.inr rfl)) rfl rfl) rfl)))) (s_one (q_ret e_bl)) s_nil)
      (s_cons (s_par (i := 11) (j := 7) rfl sc__law_fractions_right.nd rfl rfl (by decide) rfl rfl (a_cons (r_call D__law_roll (by decide) hr hgu rfl (a_cons (e_var (i := 0) rfl (by first | exact .inl rfl | exact .inr (.inl rfl) | exact .inr (.inr rfl)) rfl rfl) (a_cons e_int a_nil rfl) rfl) rfl rfl rfl) (a_cons (r_tup (a_cons e_int (a_cons e_int a_nil rfl) rfl)) a_nil rfl) rfl) rfl rfl)
      (s_cons (s_for (g := (.nm 3)) PassesOwn.never rfl (i_rng1 rfl B.range (a_cons (e_var (i := 11) rfl (by first | exact .inl rfl | exact .inr (.inl rfl) | exact .inr (.inr rfl)) rfl rfl) a_nil rfl) rfl) (g_nm sc__law_fractions_right.nd rfl (by first | exact .inl rfl | exact .inr rfl) (by first | exact .inl rfl | exact .inr rfl)) (s_one (q_set (i := 7) sc__law_fractions_right.nd rfl (by first | exact .inl rfl | exact .inr rfl) (r_call D__law_times (by decide) hr hgu rfl (a_cons (e_var (i := 7) rfl (by first | exact .inl rfl | exact .inr (.inl rfl) | exact .inr (.inr rfl)) rfl rfl) (a_cons (e_var (i := 4) rfl (by first | exact .inl rfl | exact .inr (.inl rfl) | exact .inr (.inr rfl)) rfl rfl) a_nil rfl) rfl) rfl rfl rfl) rfl (by first | exact .inl rfl | exact .inr rfl))) fun _ => rfl)
      (s_cons (q_if (r_pw (r_orT (r_cmpT (o_ne hr.units) (r_call D_power (by decide) hr hgu rfl (a_cons (e_var (i := 4) rfl (by first | exact .inl rfl | exact .inr (.inl rfl) | exact .inr (.inr rfl)) rfl rfl) (a_cons (e_var (i := 11) rfl (by first | exact .inl rfl | exact .inr (.inl rfl) | exact .inr (.inr rfl)) rfl rfl) a_nil rfl) rfl) rfl rfl rfl) (e_var (i := 7) rfl (by first | exact .inl rfl | exact .inr (.inl rfl) | exact .inr (.inr rfl)) rfl rfl) rfl) (r_or1T (r_cmpT (o_ne hr.units) (r_call D_power (by decide) hr hgu rfl (a_cons (e_var (i := 4) rfl (by first | exact .inl rfl | exact .inr (.inl rfl) | exact .inr (.inr rfl)) rfl rfl) (a_cons e_int a_nil rfl) rfl) rfl rfl rfl) (r_tup (a_cons e_int (a_cons e_int a_nil rfl) rfl)) rfl)))) (s_one (q_ret e_bl)) s_nil)
      (s_cons (s_par (i := 12) (j := 13) rfl sc__law_fractions_right.nd rfl rfl (by decide) rfl rfl (a_cons (r_call D__law_pick (by decide) hr hgu rfl (a_cons (e_var (i := 0) rfl (by first | exact .inl rfl | exact .inr (.inl rfl) | exact .inr (.inr rfl)) rfl rfl) (a_cons (r_lst (a_cons e_int (a_cons (r_call D__law_integer (by decide) hr hgu rfl (a_cons (e_var (i := 0) rfl (by first | exact .inl rfl | exact .inr (.inl rfl) | exact .inr (.inr rfl)) rfl rfl) a_nil rfl) rfl rfl rfl) a_nil rfl) rfl)) a_nil rfl) rfl) rfl rfl rfl) (a_cons (r_call D__law_integer (by decide) hr hgu rfl (a_cons (e_var (i := 0) rfl (by first | exact .inl rfl | exact .inr (.inl rfl) | exact .inr (.inr rfl)) rfl rfl) a_nil rfl) rfl rfl rfl) a_nil rfl) rfl) rfl rfl)
      (s_one (q_ret (r_and (r_cmp (o_eq hr.units) (r_call D_fraction (by decide) hr hgu rfl (a_cons (e_var (i := 12) rfl (by first | exact .inl rfl | exact .inr (.inl rfl) | exact .inr (.inr rfl)) rfl rfl) (a_cons (e_var (i := 13) rfl (by first | exact .inl rfl | exact .inr (.inl rfl) | exact .inr (.inr rfl)) rfl rfl) a_nil rfl) rfl) rfl rfl rfl) (r_call D__law_fr (by decide) hr hgu rfl (a_cons (e_var (i := 12) rfl (by first | exact .inl rfl | exact .inr (.inl rfl) | exact .inr (.inr rfl)) rfl rfl) (a_cons (e_var (i := 13) rfl (by first | exact .inl rfl | exact .inr (.inl rfl) | exact .inr (.inr rfl)) rfl rfl) a_nil rfl) rfl) rfl rfl rfl) rfl) (r_one (r_cmp (o_eq hr.units) (r_blt (c_rep hgu hr.units) rfl B.repr bt_repr (a_cons (r_call D_fraction_1 (by decide) hr hgu rfl (a_cons (e_var (i := 12) rfl (by first | exact .inl rfl | exact .inr (.inl rfl) | exact .inr (.inr rfl)) rfl rfl) a_nil rfl) rfl rfl rfl) a_nil rfl) (by decide) rfl rfl rfl) (r_blt (c_rep hgu hr.units) rfl B.repr bt_repr (a_cons (r_tup (a_cons (e_var (i := 12) rfl (by first | exact .inl rfl | exact .inr (.inl rfl) | exact .inr (.inr rfl)) rfl rfl) (a_cons e_int a_nil rfl) rfl)) a_nil rfl) (by decide) rfl rfl rfl) rfl)))))))))))))))))))
theorem df__law_fractions_right (B : Bl mg) (C : Cs K mg) (D__law_drawn : Df P w K mg base 4 "_law_drawn" 1 Q__law_drawn []) (D__law_fr : Df P w K mg base 1 "_law_fr" 2 Q__law_fr []) (D__law_integer : Df P w K mg base 3 "_law_integer" 1 Q__law_integer []) (D__law_minus : Df P w K mg base 2 "_law_minus" 2 Q__law_minus []) (D__law_pick : Df P w K mg base 2 "_law_pick" 2 Q__law_pick []) (D__law_plus : Df P w K mg base 2 "_law_plus" 2 Q__law_plus []) (D__law_roll : Df P w K mg base 1 "_law_roll" 2 Q__law_roll []) (D__law_times : Df P w K mg base 2 "_law_times" 2 Q__law_times []) (D_compared : Df P w K mg base 4 "compared" 2 Q_compared []) (D_fraction_1 : Df P w K mg base 3 "fraction" 2 Q_fraction [(.int 1)]) (D_fraction : Df P w K mg base 3 "fraction" 2 Q_fraction []) (D_minus : Df P w K mg base 4 "minus" 2 Q_minus []) (D_over : Df P w K mg base 4 "over" 2 Q_over []) (D_plus : Df P w K mg base 4 "plus" 2 Q_plus []) (D_power : Df P w K mg base 4 "power" 2 Q_power []) (D_times : Df P w K mg base 4 "times" 2 Q_times []) (D_total : Df P w K mg base 5 "total" 1 Q_total []) (F : FunD K "_law_fractions_right" "_law_fractions_right" (defArgs (top 49)) (defBody (top 49)) (defScope (top 49)) [] [] f fd) (gm : mg "_law_fractions_right" = some (.ref f)) : Df P w K mg base 6 "_law_fractions_right" 1 Q__law_fractions_right [] := by
  unfold Q__law_fractions_right
  exact Df.of F gm sc__law_fractions_right rfl ⟨[], .nil, F.bindsN fun _ _ _ _ _ _ us hl => match us, hl with | [_], _ => rfl⟩ (fun _ _ => rfl) fun cdv A out s H E hr hgu => bd__law_fractions_right B C D__law_drawn D__law_fr D__law_integer D__law_minus D__law_pick D__law_plus D__law_roll D__law_times D_compared D_fraction_1 D_fraction D_minus D_over D_plus D_power D_times D_total cdv A out s H E hr hgu
def N__law_divisors_right : List Str := ["dice", "common", "numbers", "one", "other", "first", "second", "told", "turn"]
theorem sc__law_divisors_right : FnScope N__law_divisors_right ["dice"] (defScope (top 50)) := ⟨rfl, rfl, rfl, by decide +kernel, rfl, by decide +kernel, by decide +kernel⟩
def W__law_divisors_right : WS := (wSeq (sSet 1 (yCall Q__law_pick [] (aCons (wVar 0) (aCons (yLst (aCons (wC (.int 1)) (aCons (wC (.int 1)) (aCons (wC (.int 2)) (aCons (wC (.int 6)) (aCons (yOp addD (yOp powD (wC (.int 10)) (wC (.int 9))) (wC (.int 7))) aNil)))))) aNil))))
  (wSeq (sSet 2 (wLc (wiR1 (aCons (yCall Q__law_roll [] (aCons (wVar 0) (aCons (wC (.int 5)) aNil))) aNil)) (.nm 8) wYes (yOp mulD (wVar 1) (yCall Q__law_pick [] (aCons (wVar 0) (aCons (yLst (aCons (wC (.int 0)) (aCons (wC (.int 1)) (aCons (yCall Q__law_integer [] (aCons (wVar 0) aNil)) (aCons (yCall Q__law_integer [] (aCons (wVar 0) aNil)) aNil))))) aNil)))) [8]))
  (wSeq (sIf (yCmT neD (yBl repC (aCons (yCall Q_greatest_divisor [] (aCons (yBl tupC (aCons (wVar 2) aNil)) aNil)) aNil)) (yBl repC (aCons (yCall Q__law_divisor [] (aCons (wVar 2) aNil)) aNil))) (sRet (wC (.bl false))) wNext)
  (wSeq (sIf (yCmT neD (yBl repC (aCons (yCall Q_least_multiple_of [] (aCons (yBl tupC (aCons (wVar 2) aNil)) aNil)) aNil)) (yBl repC (aCons (yCall Q__law_multiple [] (aCons (wVar 2) aNil)) aNil))) (sRet (wC (.bl false))) wNext)
  (wSeq (wPar 3 4 (aCons (yOp mulD (wVar 1) (yCall Q__law_pick [] (aCons (wVar 0) (aCons (yLst (aCons (wC (.int 0)) (aCons (yCall Q__law_integer [] (aCons (wVar 0) aNil)) aNil))) aNil)))) (aCons (yOp mulD (wVar 1) (yCall Q__law_integer [] (aCons (wVar 0) aNil))) aNil)))
  (wSeq (wFor (wiS (yTup (aCons (yTup (aCons (wVar 3) (aCons (wVar 4) aNil))) (aCons (yTup (aCons (wVar 4) (aCons (wVar 3) aNil))) (aCons (yTup (aCons (wVar 3) (aCons (wC (.int 0)) aNil))) (aCons (yTup (aCons (wVar 3) (aCons (wVar 3) aNil))) aNil)))))) (.tp [(.nm 5), (.nm 6)]) (wSeq (sSet 7 (yCall Q_bezout [] (aCons (wVar 5) (aCons (wVar 6) aNil))))
  (wSeq (sIf (yOrT (yNotT (yVal (yBl isiC (aCons (wVar 7) (aCons (wC (.ty .tuple)) aNil))))) (yOrT (yCmT neD (yBl lenC (aCons (wVar 7) aNil)) (wC (.int 3))) (yCmT neD (yOp ixQ (wVar 7) (wC (.int 0))) (yCall Q__law_divisor [] (aCons (yLst (aCons (wVar 5) (aCons (wVar 6) aNil))) aNil))))) (sRet (wC (.bl false))) wNext)
  (sIf (yCmT neD (yOp addD (yOp mulD (wVar 5) (yOp ixQ (wVar 7) (wC (.int 1)))) (yOp mulD (wVar 6) (yOp ixQ (wVar 7) (wC (.int 2))))) (yOp ixQ (wVar 7) (wC (.int 0)))) (sRet (wC (.bl false))) wNext))))
  (sRet (wC (.bl true)))))))))
@[irreducible] def Q__law_divisors_right : DSp := qOf 1 9 W__law_divisors_right
theorem bd__law_divisors_right (B : Bl mg) (C : Cs K mg) (D__law_divisor : Df P w K mg base 1 "_law_divisor" 1 Q__law_divisor []) (D__law_integer : Df P w K mg base 3 "_law_integer" 1 Q__law_integer []) (D__law_multiple : Df P w K mg base 2 "_law_multiple" 1 Q__law_multiple []) (D__law_pick : Df P w K mg base 2 "_law_pick" 2 Q__law_pick []) (D__law_roll : Df P w K mg base 1 "_law_roll" 2 Q__law_roll []) (D_bezout : Df P w K mg base 2 "bezout" 2 Q_bezout []) (D_greatest_divisor : Df P w K mg base 3 "greatest_divisor" 1 Q_greatest_divisor []) (D_least_multiple_of : Df P w K mg base 3 "least_multiple_of" 1 Q_least_multiple_of []) (cdv : Value) (A : Around) (out : List Env) (s : Shared) (H : Hp) (E : XK) (hr : Room 3 (A.deeper (envOfC "_law_divisors_right" (defScope (top 50)) s.heap.objs.size f cdv))) (hgu : A.guards = some []) :
    PSs (cxOf C8.CX0 P w K mg base N__law_divisors_right "_law_divisors_right" (defScope (top 50)) f cdv A out s H E).nox (defBody (top 50)) (lS K W__law_divisors_right) :=
      (s_cons (q_set (i := 1) sc__law_divisors_right.nd rfl (by first | exact .inl rfl | exact .inr rfl) (r_call D__law_pick (by decide) hr hgu rfl (a_cons (e_var (i := 0) rfl (by first | exact .inl rfl | exact .inr (.inl rfl) | exact .inr (.inr rfl)) rfl rfl) (a_cons (r_lst (a_cons e_int (a_cons e_int (a_cons e_int (a_cons e_int (a_cons (r_op o_add (r_op o_pow e_int e_int) e_int) a_nil rfl) rfl) rfl) rfl) rfl)) a_nil rfl) rfl) rfl rfl rfl) rfl (by first | exact .inl rfl | exact .inr rfl))
      (s_cons (q_setLc (i := 2) (own := [("turn", 8)]) (g := (.nm 8)) rfl sc__law_divisors_right.nd rfl rfl rfl (i_rng1 rfl B.range (a_cons (r_call D__law_roll (by decide) hr hgu rfl (a_cons (e_var (i := 0) rfl (by first | exact .inl rfl | exact .inr (.inl rfl) | exact .inr (.inr rfl)) rfl rfl) (a_cons e_int a_nil rfl) rfl) rfl rfl rfl) a_nil rfl) rfl) (by kernel_rfl) (fun _ _ _ _ _ => (g_nm sc__law_divisors_right.nd rfl (by first | exact .inl rfl | exact .inr rfl) (by first | exact .inl rfl | exact .inr rfl))) (fun _ _ _ _ _ => t_yes) (fun _ _ _ _ _ => (r_op o_mul (e_var (i := 1) rfl (by first | exact .inl rfl | exact .inr (.inl rfl) | exact .inr (.inr rfl)) rfl rfl) (r_call D__law_pick (by decide) hr hgu rfl (a_cons (e_var (i := 0) rfl (by first | exact .inl rfl | exact .inr (.inl rfl) | exact .inr (.inr rfl)) rfl rfl) (a_cons (r_lst (a_cons e_int (a_cons e_int (a_cons (r_call D__law_integer (by decide) hr hgu rfl (a_cons (e_var (i := 0) rfl (by first | exact .inl rfl | exact .inr (.inl rfl) | exact .inr (.inr rfl)) rfl rfl) a_nil rfl) rfl rfl rfl) (a_cons (r_call D__law_integer (by decide) hr hgu rfl (a_cons (e_var (i := 0) rfl (by first | exact .inl rfl | exact .inr (.inl rfl) | exact .inr (.inr rfl)) rfl rfl) a_nil rfl) rfl rfl rfl) a_nil rfl) rfl) rfl) rfl)) a_nil rfl) rfl) rfl rfl rfl))) (by decide) (fun _ => rfl))
      (s_cons (q_if (r_cmpT (o_ne hr.units) (r_blt (c_rep hgu hr.units) rfl B.repr bt_repr (a_cons (r_call D_greatest_divisor (by decide) hr hgu rfl (a_cons (r_typ c_tup rfl B.tuple bt_tuple (a_cons (e_var (i := 2) rfl (by first | exact .inl rfl | exact .inr (.inl rfl) | exact .inr (.inr rfl)) rfl rfl) a_nil rfl) (by decide) rfl rfl rfl) a_nil rfl) rfl rfl rfl) a_nil rfl) (by decide) rfl rfl rfl) (r_blt (c_rep hgu hr.units) rfl B.repr bt_repr (a_cons (r_call D__law_divisor (by decide) hr hgu rfl (a_cons (e_var (i := 2) rfl (by first | exact .inl rfl | exact .inr (.inl rfl) | exact .inr (.inr rfl)) rfl rfl) a_nil rfl) rfl rfl rfl) a_nil rfl) (by decide) rfl rfl rfl) rfl) (s_one (q_ret e_bl)) s_nil)
      (s_cons (q_if (r_cmpT (o_ne hr.units) (r_blt (c_rep hgu hr.units) rfl B.repr bt_repr (a_cons (r_call D_least_multiple_of (by decide) hr hgu rfl (a_cons (r_typ c_tup rfl B.tuple bt_tuple (a_cons (e_var (i := 2) rfl (by first | exact .inl rfl | exact .inr (.inl rfl) | exact .inr (.inr rfl)) rfl rfl) a_nil rfl) (by decide) rfl rfl rfl) a_nil rfl) rfl rfl rfl) a_nil rfl) (by decide) rfl rfl rfl) (r_blt (c_rep hgu hr.units) rfl B.repr bt_repr (a_cons (r_call D__law_multiple (by decide) hr hgu rfl (a_cons (e_var (i := 2) rfl (by first | exact .inl rfl | exact .inr (.inl rfl) | exact .inr (.inr rfl)) rfl rfl) a_nil rfl) rfl rfl rfl) a_nil rfl) (by decide) rfl rfl rfl) rfl) (s_one (q_ret e_bl)) s_nil)
      (s_cons (s_par (i := 3) (j := 4) rfl sc__law_divisors_right.nd rfl rfl (by decide) rfl rfl (a_cons (r_op o_mul (e_var (i := 1) rfl (by first | exact .inl rfl | exact .inr (.inl rfl) | exact .inr (.inr rfl)) rfl rfl) (r_call D__law_pick (by decide) hr hgu rfl (a_cons (e_var (i := 0) rfl (by first | exact .inl rfl | exact .inr (.inl rfl) | exact .inr (.inr rfl)) rfl rfl) (a_cons (r_lst (a_cons e_int (a_cons (r_call D__law_integer (by decide) hr hgu rfl (a_cons (e_var (i := 0) rfl (by first | exact .inl rfl | exact .inr (.inl rfl) | exact .inr (.inr rfl)) rfl rfl) a_nil rfl) rfl rfl rfl) a_nil rfl) rfl)) a_nil rfl) rfl) rfl rfl rfl)) (a_cons (r_op o_mul (e_var (i := 1) rfl (by first | exact .inl rfl | exact .inr (.inl rfl) | exact .inr (.inr rfl)) rfl rfl) (r_call D__law_integer (by decide) hr hgu rfl (a_cons (e_var (i := 0) rfl (by first | exact .inl rfl | exact .inr (.inl rfl) | exact .inr (.inr rfl)) rfl rfl) a_nil rfl) rfl rfl rfl)) a_nil rfl) rfl) rfl rfl)
      (s_cons (s_for (g := (.tp [(.nm 5), (.nm 6)])) PassesOwn.never rfl (i_seq (r_tup (a_cons (r_tup (a_cons (e_var (i := 3) rfl (by first | exact .inl rfl | exact .inr (.inl rfl) | exact .inr (.inr rfl)) rfl rfl) (a_cons (e_var (i := 4) rfl (by first | exact .inl rfl | exact .inr (.inl rfl) | exact .inr (.inr rfl)) rfl rfl) a_nil rfl) rfl)) (a_cons (r_tup (a_cons (e_var (i := 4) rfl (by first | exact .inl rfl | exact .inr (.inl rfl) | exact .inr (.inr rfl)) rfl rfl) (a_cons (e_var (i := 3) rfl (by first | exact .inl rfl | exact .inr (.inl rfl) | exact .inr (.inr rfl)) rfl rfl) a_nil rfl) rfl)) (a_cons (r_tup (a_cons (e_var (i := 3) rfl (by first | exact .inl rfl | exact .inr (.inl rfl) | exact .inr (.inr rfl)) rfl rfl) (a_cons e_int a_nil rfl) rfl)) (a_cons (r_tup (a_cons (e_var (i := 3) rfl (by first | exact .inl rfl | exact .inr (.inl rfl) | exact .inr (.inr rfl)) rfl rfl) (a_cons (e_var (i := 3) rfl (by first | exact .inl rfl | exact .inr (.inl rfl) | exact .inr (.inr rfl)) rfl rfl) a_nil rfl) rfl)) a_nil rfl) rfl) rfl) rfl))) (g_tp rfl (g_cons (g_nm sc__law_divisors_right.nd rfl (by first | exact .inl rfl | exact .inr rfl) (by first | exact .inl rfl | exact .inr rfl)) (g_cons (g_nm sc__law_divisors_right.nd rfl (by first | exact .inl rfl | exact .inr rfl) (by first | exact .inl rfl | exact .inr rfl)) g_nil rfl) rfl) rfl rfl) (s_cons (q_set (i := 7) sc__law_divisors_right.nd rfl (by first | exact .inl rfl | exact .inr rfl) (r_call D_bezout (by decide) hr hgu rfl (a_cons (e_var (i := 5) rfl (by first | exact .inl rfl | exact .inr (.inl rfl) | exact .inr (.inr rfl)) rfl rfl) (a_cons (e_var (i := 6) rfl (by first | exact .inl rfl | exact .inr (.inl rfl) | exact .inr (.inr rfl)) rfl rfl) a_nil rfl) rfl) rfl rfl rfl) rfl (by first | exact .inl rfl | exact .inr rfl))
      (s_cons (q_if (r_pw (r_orT (r_notT (r_val (r_blt (c_isi) rfl B.isinstance bt_isinstance (a_cons (e_var (i := 7) rfl (by first | exact .inl rfl | exact .inr (.inl rfl) | exact .inr (.inr rfl)) rfl rfl) (a_cons (e_tyn (c := .tuple) rfl B.tuple bt_tuple (by decide) rfl) a_nil rfl) rfl) (by decide) rfl rfl rfl) fun _ => rfl)) (r_orT (r_cmpT (o_ne hr.units) (r_blt (c_len) rfl B.len bt_len (a_cons (e_var (i := 7) rfl (by first | exact .inl rfl | exact .inr (.inl rfl) | exact .inr (.inr rfl)) rfl rfl) a_nil rfl) (by decide) rfl rfl rfl) e_int rfl) (r_or1T (r_cmpT (o_ne hr.units) (r_ix (e_var (i := 7) rfl (by first | exact .inl rfl | exact .inr (.inl rfl) | exact .inr (.inr rfl)) rfl rfl) e_int fun _ _ => rfl) (r_call D__law_divisor (by decide) hr hgu rfl (a_cons (r_lst (a_cons (e_var (i := 5) rfl (by first | exact .inl rfl | exact .inr (.inl rfl) | exact .inr (.inr rfl)) rfl rfl) (a_cons (e_var (i := 6) rfl (by first | exact .inl rfl | exact .inr (.inl rfl) | exact .inr (.inr rfl)) rfl rfl) a_nil rfl) rfl)) a_nil rfl) rfl rfl rfl) rfl))))) (s_one (q_ret e_bl)) s_nil)
      (s_one (q_if (r_cmpT (o_ne hr.units) (r_op o_add (r_op o_mul (e_var (i := 5) rfl (by first | exact .inl rfl | exact .inr (.inl rfl) | exact .inr (.inr rfl)) rfl rfl) (r_ix (e_var (i := 7) rfl (by first | exact .inl rfl | exact .inr (.inl rfl) | exact .inr (.inr rfl)) rfl rfl) e_int fun _ _ => rfl)) (r_op o_mul (e_var (i := 6) rfl (by first | exact .inl rfl | exact .inr (.inl rfl) | exact .inr (.inr rfl)) rfl rfl) (r_ix (e_var (i := 7) rfl (by first | exact .inl rfl | exact .inr (.inl rfl) | exact .inr (.inr rfl)) rfl rfl) e_int fun _ _ => rfl))) (r_ix (e_var (i := 7) rfl (by first | exact .inl rfl | exact .inr (.inl rfl) | exact .inr (.inr rfl)) rfl rfl) e_int fun _ _ => rfl) rfl) (s_one (q_ret e_bl)) s_nil)))) fun _ => rfl)
      (s_one (q_ret e_bl))))))))
theorem df__law_divisors_right (B : Bl mg) (C : Cs K mg) (D__law_divisor : Df P w K mg base 1 "_law_divisor" 1 Q__law_divisor []) (D__law_integer : Df P w K mg base 3 "_law_integer" 1 Q__law_integer []) (D__law_multiple : Df P w K mg base 2 "_law_multiple" 1 Q__law_multiple []) (D__law_pick : Df P w K mg base 2 "_law_pick" 2 Q__law_pick []) (D__law_roll : Df P w K mg base 1 "_law_roll" 2 Q__law_roll []) (D_bezout : Df P w K mg base 2 "bezout" 2 Q_bezout []) (D_greatest_divisor : Df P w K mg base 3 "greatest_divisor" 1 Q_greatest_divisor []) (D_least_multiple_of : Df P w K mg base 3 "least_multiple_of" 1 Q_least_multiple_of []) (F : FunD K "_law_divisors_right" "_law_divisors_right" (defArgs (top 50)) (defBody (top 50)) (defScope (top 50)) [] [] f fd) (gm : mg "_law_divisors_right" = some (.ref f)) : Df P w K mg base 4 "_law_divisors_right" 1 Q__law_divisors_right [] := by
  unfold Q__law_divisors_right
  exact Df.of F gm sc__law_divisors_right rfl ⟨[], .nil, F.bindsN fun _ _ _ _ _ _ us hl => match us, hl with | [_], _ => rfl⟩ (fun _ _ => rfl) fun cdv A out s H E hr hgu => bd__law_divisors_right B C D__law_divisor D__law_integer D__law_multiple D__law_pick D__law_roll D_bezout D_greatest_divisor D_least_multiple_of cdv A out s H E hr hgu
def N_law : List Str := ["script", "spot", "great", "told", "dice", "turn"]
theorem sc_law : FnScope N_law ["script"] (defScope (top 51)) := ⟨rfl, rfl, rfl, by decide +kernel, rfl, by decide +kernel, by decide +kernel⟩
def W_law : WS := (wSeq (wFor (wiR1 (aCons (yBl maxC (aCons (wC (.int 1)) (aCons (yBl minC (aCons (wC (.int 6)) (aCons (yBl lenC (aCons (wVar 0) aNil)) aNil))) aNil))) aNil)) (.nm 1) (wSeq (sSet 4 (yCall Q__law_dice [] (aCons (wVar 0) (aCons (wVar 1) aNil))))
  (wFor (wiR1 (aCons (wC (.int 3)) aNil)) (.nm 5) (sIf (yOrT (yNotT (yVal (yCall Q__law_fractions_right [] (aCons (wVar 4) aNil)))) (yNotT (yVal (yCall Q__law_divisors_right [] (aCons (wVar 4) aNil))))) (sRet (wC (.bl false))) wNext))))
  (wSeq (sSet 2 (yTup (aCons (yOp addD (yOp powD (wC (.int 10)) (wC (.int 60))) (wC (.int 1))) (aCons (yOp addD (yOp powD (wC (.int 10)) (wC (.int 59))) (wC (.int 3))) aNil))))
  (wSeq (sSet 3 (yLst (aCons (yOp eqD (yCall Q_plus [] (aCons (wVar 2) (aCons (yTup (aCons (wC (.int 1)) (aCons (wC (.int 3)) aNil))) aNil))) (yCall Q__law_plus [] (aCons (wVar 2) (aCons (yTup (aCons (wC (.int 1)) (aCons (wC (.int 3)) aNil))) aNil)))) (aCons (yOp eqD (yCall Q_power [] (aCons (yTup (aCons (yUn negD (wC (.int 1))) (aCons (wC (.int 2)) aNil))) (aCons (wC (.int 60)) aNil))) (yTup (aCons (wC (.int 1)) (aCons (wC (.int 1152921504606846976)) aNil)))) aNil))))
  (wSeq (sSet 3 (yOp addD (wVar 3) (yLst (aCons (yCall Q_fraction [] (aCons (yOp powD (wC (.int 10)) (wC (.int 39))) (aCons (yUn negD (yOp powD (wC (.int 10)) (wC (.int 39)))) aNil))) (aCons (yCall Q_fraction [] (aCons (yUn negD (wC (.int 6))) (aCons (wC (.int 4)) aNil))) (aCons (yCall Q_total [] (aCons (yTup aNil) aNil)) (aCons (yCall Q_compared [] (aCons (yTup (aCons (yUn negD (wC (.int 1))) (aCons (wC (.int 2)) aNil))) (aCons (yTup (aCons (yUn negD (wC (.int 1))) (aCons (wC (.int 3)) aNil))) aNil))) aNil)))))))
  (wSeq (sSet 3 (yOp addD (wVar 3) (yLst (aCons (yCall Q_greatest_divisor [] (aCons (yTup aNil) aNil)) (aCons (yCall Q_least_multiple_of [] (aCons (yTup aNil) aNil)) (aCons (yCall Q_greatest_divisor [] (aCons (yTup (aCons (yUn negD (wC (.int 12))) (aCons (wC (.int 18)) aNil))) aNil)) (aCons (yCall Q_least_multiple_of [] (aCons (yTup (aCons (yUn negD (wC (.int 4))) (aCons (wC (.int 6)) aNil))) aNil)) aNil)))))))
  (sRet (yOp eqD (wVar 3) (yLst (aCons (wC (.bl true)) (aCons (wC (.bl true)) (aCons (yTup (aCons (yUn negD (wC (.int 1))) (aCons (wC (.int 1)) aNil))) (aCons (yTup (aCons (yUn negD (wC (.int 3))) (aCons (wC (.int 2)) aNil))) (aCons (yTup (aCons (wC (.int 0)) (aCons (wC (.int 1)) aNil))) (aCons (yUn negD (wC (.int 1))) (aCons (wC (.int 0)) (aCons (wC (.int 1)) (aCons (wC (.int 6)) (aCons (wC (.int 12)) aNil))))))))))))))))))
@[irreducible] def Q_law : DSp := qOf 1 6 W_law
theorem bd_law (B : Bl mg) (C : Cs K mg) (D__law_dice : Df P w K mg base 1 "_law_dice" 2 Q__law_dice []) (D__law_divisors_right : Df P w K mg base 4 "_law_divisors_right" 1 Q__law_divisors_right []) (D__law_fractions_right : Df P w K mg base 6 "_law_fractions_right" 1 Q__law_fractions_right []) (D__law_plus : Df P w K mg base 2 "_law_plus" 2 Q__law_plus []) (D_compared : Df P w K mg base 4 "compared" 2 Q_compared []) (D_fraction : Df P w K mg base 3 "fraction" 2 Q_fraction []) (D_greatest_divisor : Df P w K mg base 3 "greatest_divisor" 1 Q_greatest_divisor []) (D_least_multiple_of : Df P w K mg base 3 "least_multiple_of" 1 Q_least_multiple_of []) (D_plus : Df P w K mg base 4 "plus" 2 Q_plus []) (D_power : Df P w K mg base 4 "power" 2 Q_power []) (D_total : Df P w K mg base 5 "total" 1 Q_total []) (cdv : Value) (A : Around) (out : List Env) (s : Shared) (H : Hp) (E : XK) (hr : Room 6 (A.deeper (envOfC "law" (defScope (top 51)) s.heap.objs.size f cdv))) (hgu : A.guards = some []) :
    PSs (cxOf C8.CX0 P w K mg base N_law "law" (defScope (top 51)) f cdv A out s H E).nox (defBody (top 51)) (lS K W_law) :=
      (s_cons (s_for (g := (.nm 1)) PassesOwn.never rfl (i_rng1 rfl B.range (a_cons (r_blt (c_max rfl) rfl B.max bt_max (a_cons e_int (a_cons (r_blt (c_min rfl) rfl B.min bt_min (a_cons e_int (a_cons (r_blt (c_len) rfl B.len bt_len (a_cons (e_var (i := 0) rfl (by first | exact .inl rfl | exact .inr (.inl rfl) | exact .inr (.inr rfl)) rfl rfl) a_nil rfl) (by decide) rfl rfl rfl) a_nil rfl) rfl) (by decide) rfl rfl rfl) a_nil rfl) rfl) (by decide) rfl rfl rfl) a_nil rfl) rfl) (g_nm sc_law.nd rfl (by first | exact .inl rfl | exact .inr rfl) (by first | exact .inl rfl | exact .inr rfl)) (s_cons (q_set (i := 4) sc_law.nd rfl (by first | exact .inl rfl | exact .inr rfl) (r_call D__law_dice (by decide) hr hgu rfl (a_cons (e_var (i := 0) rfl (by first | exact .inl rfl | exact .inr (.inl rfl) | exact .inr (.inr rfl)) rfl rfl) (a_cons (e_var (i := 1) rfl (by first | exact .inl rfl | exact .inr (.inl rfl) | exact .inr (.inr rfl)) rfl rfl) a_nil rfl) rfl) rfl rfl rfl) rfl (by first | exact .inl rfl | exact .inr rfl))
      (s_one (s_for (g := (.nm 5)) PassesOwn.never rfl (i_rng1 rfl B.range (a_cons e_int a_nil rfl) rfl) (g_nm sc_law.nd rfl (by first | exact .inl rfl | exact .inr rfl) (by first | exact .inl rfl | exact .inr rfl)) (s_one (q_if (r_pw (r_orT (r_notT (r_val (r_call D__law_fractions_right (by decide) hr hgu rfl (a_cons (e_var (i := 4) rfl (by first | exact .inl rfl | exact .inr (.inl rfl) | exact .inr (.inr rfl)) rfl rfl) a_nil rfl) rfl rfl rfl) fun _ => rfl)) (r_or1T (r_notT (r_val (r_call D__law_divisors_right (by decide) hr hgu rfl (a_cons (e_var (i := 4) rfl (by first | exact .inl rfl | exact .inr (.inl rfl) | exact .inr (.inr rfl)) rfl rfl) a_nil rfl) rfl rfl rfl) fun _ => rfl))))) (s_one (q_ret e_bl)) s_nil)) fun _ => rfl))) fun _ => rfl)
      (s_cons (q_set (i := 2) sc_law.nd rfl (by first | exact .inl rfl | exact .inr rfl) (r_tup (a_cons (r_op o_add (r_op o_pow e_int e_int) e_int) (a_cons (r_op o_add (r_op o_pow e_int e_int) e_int) a_nil rfl) rfl)) rfl (by first | exact .inl rfl | exact .inr rfl))
      (s_cons (q_set (i := 3) sc_law.nd rfl (by first | exact .inl rfl | exact .inr rfl) (r_lst (a_cons (r_cmp (o_eq hr.units) (r_call D_plus (by decide) hr hgu rfl (a_cons (e_var (i := 2) rfl (by first | exact .inl rfl | exact .inr (.inl rfl) | exact .inr (.inr rfl)) rfl rfl) (a_cons (r_tup (a_cons e_int (a_cons e_int a_nil rfl) rfl)) a_nil rfl) rfl) rfl rfl rfl) (r_call D__law_plus (by decide) hr hgu rfl (a_cons (e_var (i := 2) rfl (by first | exact .inl rfl | exact .inr (.inl rfl) | exact .inr (.inr rfl)) rfl rfl) (a_cons (r_tup (a_cons e_int (a_cons e_int a_nil rfl) rfl)) a_nil rfl) rfl) rfl rfl rfl) rfl) (a_cons (r_cmp (o_eq hr.units) (r_call D_power (by decide) hr hgu rfl (a_cons (r_tup (a_cons (r_un u_neg e_int) (a_cons e_int a_nil rfl) rfl)) (a_cons e_int a_nil rfl) rfl) rfl rfl rfl) (r_tup (a_cons e_int (a_cons e_int a_nil rfl) rfl)) rfl) a_nil rfl) rfl)) rfl (by first | exact .inl rfl | exact .inr rfl))
      (s_cons (q_set (i := 3) sc_law.nd rfl (by first | exact .inl rfl | exact .inr rfl) (r_op o_add (e_var (i := 3) rfl (by first | exact .inl rfl | exact .inr (.inl rfl) | exact .inr (.inr rfl)) rfl rfl) (r_lst (a_cons (r_call D_fraction (by decide) hr hgu rfl (a_cons (r_op o_pow e_int e_int) (a_cons (r_un u_neg (r_op o_pow e_int e_int)) a_nil rfl) rfl) rfl rfl rfl) (a_cons (r_call D_fraction (by decide) hr hgu rfl (a_cons (r_un u_neg e_int) (a_cons e_int a_nil rfl) rfl) rfl rfl rfl) (a_cons (r_call D_total (by decide) hr hgu rfl (a_cons (r_tup a_nil) a_nil rfl) rfl rfl rfl) (a_cons (r_call D_compared (by decide) hr hgu rfl (a_cons (r_tup (a_cons (r_un u_neg e_int) (a_cons e_int a_nil rfl) rfl)) (a_cons (r_tup (a_cons (r_un u_neg e_int) (a_cons e_int a_nil rfl) rfl)) a_nil rfl) rfl) rfl rfl rfl) a_nil rfl) rfl) rfl) rfl))) rfl (by first | exact .inl rfl | exact .inr rfl))
      (s_cons (q_set (i := 3) sc_law.nd rfl (by first | exact .inl rfl | exact .inr rfl) (r_op o_add (e_var (i := 3) rfl (by first | exact .inl rfl | exact .inr (.inl rfl) | exact .inr (.inr rfl)) rfl rfl) (r_lst (a_cons (r_call D_greatest_divisor (by decide) hr hgu rfl (a_cons (r_tup a_nil) a_nil rfl) rfl rfl rfl) (a_cons (r_call D_least_multiple_of (by decide) hr hgu rfl (a_cons (r_tup a_nil) a_nil rfl) rfl rfl rfl) (a_cons (r_call D_greatest_divisor (by decide) hr hgu rfl (a_cons (r_tup (a_cons (r_un u_neg e_int) (a_cons e_int a_nil rfl) rfl)) a_nil rfl) rfl rfl rfl) (a_cons (r_call D_least_multiple_of (by decide) hr hgu rfl (a_cons (r_tup (a_cons (r_un u_neg e_int) (a_cons e_int a_nil rfl) rfl)) a_nil rfl) rfl rfl rfl) a_nil rfl) rfl) rfl) rfl))) rfl (by first | exact .inl rfl | exact .inr rfl))
      (s_one (q_ret (r_cmp (o_eq hr.units) (e_var (i := 3) rfl (by first | exact .inl rfl | exact .inr (.inl rfl) | exact .inr (.inr rfl)) rfl rfl) (r_lst (a_cons e_bl (a_cons e_bl (a_cons (r_tup (a_cons (r_un u_neg e_int) (a_cons e_int a_nil rfl) rfl)) (a_cons (r_tup (a_cons (r_un u_neg e_int) (a_cons e_int a_nil rfl) rfl)) (a_cons (r_tup (a_cons e_int (a_cons e_int a_nil rfl) rfl)) (a_cons (r_un u_neg e_int) (a_cons e_int (a_cons e_int (a_cons e_int (a_cons e_int a_nil rfl) rfl) rfl) rfl) rfl) rfl) rfl) rfl) rfl) rfl)) rfl))))))))
theorem fn_law (B : Bl mg) (C : Cs K mg) (D__law_dice : Df P w K mg base 1 "_law_dice" 2 Q__law_dice []) (D__law_divisors_right : Df P w K mg base 4 "_law_divisors_right" 1 Q__law_divisors_right []) (D__law_fractions_right : Df P w K mg base 6 "_law_fractions_right" 1 Q__law_fractions_right []) (D__law_plus : Df P w K mg base 2 "_law_plus" 2 Q__law_plus []) (D_compared : Df P w K mg base 4 "compared" 2 Q_compared []) (D_fraction : Df P w K mg base 3 "fraction" 2 Q_fraction []) (D_greatest_divisor : Df P w K mg base 3 "greatest_divisor" 1 Q_greatest_divisor []) (D_least_multiple_of : Df P w K mg base 3 "least_multiple_of" 1 Q_least_multiple_of []) (D_plus : Df P w K mg base 4 "plus" 2 Q_plus []) (D_power : Df P w K mg base 4 "power" 2 Q_power []) (D_total : Df P w K mg base 5 "total" 1 Q_total []) (F : FunD K "law" "law" (defArgs (top 51)) (defBody (top 51)) (defScope (top 51)) [] [] f fd) : FnG P w K mg base C8.CX0 7 f fd ["script"] (lP K Q_law) := by
  unfold Q_law
  exact Fn.of F sc_law rfl fun cdv A out s H E hr hgu => bd_law B C D__law_dice D__law_divisors_right D__law_fractions_right D__law_plus D_compared D_fraction D_greatest_divisor D_least_multiple_of D_plus D_power D_total cdv A out s H E hr hgu
theorem facts {h : Heap} (X : K.In h) (G : h.Ns mainGlobals mg) (hfa : mg "law" = some (.ref f)) (c : He.SaysD fa fn K) (cg : ∀ p ∈ gs, gcB K p.1 p.2 = true) :
    ∃ fd : FuncData, (∀ (s : Shared) (v : Value), BindsTo s fd ⟨[v], []⟩ [("script", v)]) ∧ ∀ base : Heap, K.In base → base.Ns mainGlobals mg → FnG P w K mg base C8.CX0 7 f fd ["script"] (lP K Q_law) := by
  have B : Bl mg := ⟨He.free_ok X G (c.fact 43 (f := .free "abs") rfl), He.free_ok X G (c.fact 44 (f := .free "all") rfl), He.free_ok X G (c.fact 45 (f := .free "bool") rfl), He.free_ok X G (c.fact 46 (f := .free "int") rfl), He.free_ok X G (c.fact 47 (f := .free "isinstance") rfl), He.free_ok X G (c.fact 48 (f := .free "len") rfl), He.free_ok X G (c.fact 49 (f := .free "max") rfl), He.free_ok X G (c.fact 50 (f := .free "min") rfl), He.free_ok X G (c.fact 51 (f := .free "range") rfl), He.free_ok X G (c.fact 52 (f := .free "repr") rfl), He.free_ok X G (c.fact 54 (f := .free "tuple") rfl), He.free_ok X G (c.fact 55 (f := .free "zip") rfl)⟩
  have C : Cs K mg := ⟨gc_ok X G (cg ("MOST_PASSED", (.int 10000000000000000000000000000000000000000)) (by unfold gs; simp)), gc_ok X G (cg ("NOUGHT", (.tup [(.int 0), (.int 1)])) (by unfold gs; simp)), gc_ok X G (cg ("ONE", (.tup [(.int 1), (.int 1)])) (by unfold gs; simp))⟩
  obtain ⟨fd_is_integer, F_is_integer⟩ := c.def_ 0 (d := d_is_integer) rfl
  have g_is_integer := He.glo_ok X G (c.fact 0 (f := .glo "is_integer") rfl)
  obtain ⟨fd_common_divisor, F_common_divisor⟩ := c.def_ 1 (d := d_common_divisor) rfl
  have g_common_divisor := He.glo_ok X G (c.fact 1 (f := .glo "common_divisor") rfl)
  obtain ⟨fd_is_fraction, F_is_fraction⟩ := c.def_ 2 (d := d_is_fraction) rfl
  have g_is_fraction := He.glo_ok X G (c.fact 2 (f := .glo "is_fraction") rfl)
  obtain ⟨fd_reduced, F_reduced⟩ := c.def_ 3 (d := d_reduced) rfl
  have g_reduced := He.glo_ok X G (c.fact 3 (f := .glo "reduced") rfl)
  obtain ⟨fd_fraction, F_fraction⟩ := c.def_ 4 (d := d_fraction) rfl
  have g_fraction := He.glo_ok X G (c.fact 4 (f := .glo "fraction") rfl)
  obtain ⟨fd_require_fraction, F_require_fraction⟩ := c.def_ 5 (d := d_require_fraction) rfl
  have g_require_fraction := He.glo_ok X G (c.fact 5 (f := .glo "require_fraction") rfl)
  obtain ⟨fd_require_count, F_require_count⟩ := c.def_ 6 (d := d_require_count) rfl
  have g_require_count := He.glo_ok X G (c.fact 6 (f := .glo "require_count") rfl)
  obtain ⟨fd_added, F_added⟩ := c.def_ 7 (d := d_added) rfl
  have g_added := He.glo_ok X G (c.fact 7 (f := .glo "added") rfl)
  obtain ⟨fd_multiplied, F_multiplied⟩ := c.def_ 8 (d := d_multiplied) rfl
  have g_multiplied := He.glo_ok X G (c.fact 8 (f := .glo "multiplied") rfl)
  obtain ⟨fd_opposite, F_opposite⟩ := c.def_ 9 (d := d_opposite) rfl
  have g_opposite := He.glo_ok X G (c.fact 9 (f := .glo "opposite") rfl)
  obtain ⟨fd_divided, F_divided⟩ := c.def_ 10 (d := d_divided) rfl
  have g_divided := He.glo_ok X G (c.fact 10 (f := .glo "divided") rfl)
  obtain ⟨fd_sum_of, F_sum_of⟩ := c.def_ 11 (d := d_sum_of) rfl
  have g_sum_of := He.glo_ok X G (c.fact 11 (f := .glo "sum_of") rfl)
  obtain ⟨fd_plus, F_plus⟩ := c.def_ 12 (d := d_plus) rfl
  have g_plus := He.glo_ok X G (c.fact 12 (f := .glo "plus") rfl)
  obtain ⟨fd_minus, F_minus⟩ := c.def_ 13 (d := d_minus) rfl
  have g_minus := He.glo_ok X G (c.fact 13 (f := .glo "minus") rfl)
  obtain ⟨fd_times, F_times⟩ := c.def_ 14 (d := d_times) rfl
  have g_times := He.glo_ok X G (c.fact 14 (f := .glo "times") rfl)
  obtain ⟨fd_over, F_over⟩ := c.def_ 15 (d := d_over) rfl
  have g_over := He.glo_ok X G (c.fact 15 (f := .glo "over") rfl)
  obtain ⟨fd_compared, F_compared⟩ := c.def_ 16 (d := d_compared) rfl
  have g_compared := He.glo_ok X G (c.fact 16 (f := .glo "compared") rfl)
  obtain ⟨fd_total, F_total⟩ := c.def_ 17 (d := d_total) rfl
  have g_total := He.glo_ok X G (c.fact 17 (f := .glo "total") rfl)
  obtain ⟨fd_power, F_power⟩ := c.def_ 18 (d := d_power) rfl
  have g_power := He.glo_ok X G (c.fact 18 (f := .glo "power") rfl)
  obtain ⟨fd_require_integers, F_require_integers⟩ := c.def_ 19 (d := d_require_integers) rfl
  have g_require_integers := He.glo_ok X G (c.fact 19 (f := .glo "require_integers") rfl)
  obtain ⟨fd_divisor_of, F_divisor_of⟩ := c.def_ 20 (d := d_divisor_of) rfl
  have g_divisor_of := He.glo_ok X G (c.fact 20 (f := .glo "divisor_of") rfl)
  obtain ⟨fd_greatest_divisor, F_greatest_divisor⟩ := c.def_ 21 (d := d_greatest_divisor) rfl
  have g_greatest_divisor := He.glo_ok X G (c.fact 21 (f := .glo "greatest_divisor") rfl)
  obtain ⟨fd_multiple_of, F_multiple_of⟩ := c.def_ 22 (d := d_multiple_of) rfl
  have g_multiple_of := He.glo_ok X G (c.fact 22 (f := .glo "multiple_of") rfl)
  obtain ⟨fd_least_multiple_of, F_least_multiple_of⟩ := c.def_ 23 (d := d_least_multiple_of) rfl
  have g_least_multiple_of := He.glo_ok X G (c.fact 23 (f := .glo "least_multiple_of") rfl)
  obtain ⟨fd_combined, F_combined⟩ := c.def_ 24 (d := d_combined) rfl
  have g_combined := He.glo_ok X G (c.fact 24 (f := .glo "combined") rfl)
  obtain ⟨fd_bezout, F_bezout⟩ := c.def_ 25 (d := d_bezout) rfl
  have g_bezout := He.glo_ok X G (c.fact 25 (f := .glo "bezout") rfl)
  obtain ⟨fd__law_dice, F__law_dice⟩ := c.def_ 26 (d := d__law_dice) rfl
  have g__law_dice := He.glo_ok X G (c.fact 26 (f := .glo "_law_dice") rfl)
  obtain ⟨fd__law_roll, F__law_roll⟩ := c.def_ 27 (d := d__law_roll) rfl
  have g__law_roll := He.glo_ok X G (c.fact 27 (f := .glo "_law_roll") rfl)
  obtain ⟨fd__law_pick, F__law_pick⟩ := c.def_ 28 (d := d__law_pick) rfl
  have g__law_pick := He.glo_ok X G (c.fact 28 (f := .glo "_law_pick") rfl)
  obtain ⟨fd__law_fr, F__law_fr⟩ := c.def_ 29 (d := d__law_fr) rfl
  have g__law_fr := He.glo_ok X G (c.fact 29 (f := .glo "_law_fr") rfl)
  obtain ⟨fd__law_plus, F__law_plus⟩ := c.def_ 30 (d := d__law_plus) rfl
  have g__law_plus := He.glo_ok X G (c.fact 30 (f := .glo "_law_plus") rfl)
  obtain ⟨fd__law_times, F__law_times⟩ := c.def_ 31 (d := d__law_times) rfl
  have g__law_times := He.glo_ok X G (c.fact 31 (f := .glo "_law_times") rfl)
  obtain ⟨fd__law_minus, F__law_minus⟩ := c.def_ 32 (d := d__law_minus) rfl
  have g__law_minus := He.glo_ok X G (c.fact 32 (f := .glo "_law_minus") rfl)
  obtain ⟨fd__law_integer, F__law_integer⟩ := c.def_ 33 (d := d__law_integer) rfl
  have g__law_integer := He.glo_ok X G (c.fact 33 (f := .glo "_law_integer") rfl)
  obtain ⟨fd__law_drawn, F__law_drawn⟩ := c.def_ 34 (d := d__law_drawn) rfl
  have g__law_drawn := He.glo_ok X G (c.fact 34 (f := .glo "_law_drawn") rfl)
  obtain ⟨fd__law_divisor, F__law_divisor⟩ := c.def_ 35 (d := d__law_divisor) rfl
  have g__law_divisor := He.glo_ok X G (c.fact 35 (f := .glo "_law_divisor") rfl)
  obtain ⟨fd__law_multiple, F__law_multiple⟩ := c.def_ 36 (d := d__law_multiple) rfl
  have g__law_multiple := He.glo_ok X G (c.fact 36 (f := .glo "_law_multiple") rfl)
  obtain ⟨fd__law_fractions_right, F__law_fractions_right⟩ := c.def_ 37 (d := d__law_fractions_right) rfl
  have g__law_fractions_right := He.glo_ok X G (c.fact 37 (f := .glo "_law_fractions_right") rfl)
  obtain ⟨fd__law_divisors_right, F__law_divisors_right⟩ := c.def_ 38 (d := d__law_divisors_right) rfl
  have g__law_divisors_right := He.glo_ok X G (c.fact 38 (f := .glo "_law_divisors_right") rfl)
  obtain ⟨fd_law, F_law⟩ := c.def_ 39 (d := d_law) rfl
  have g_law := He.glo_ok X G (c.fact 39 (f := .glo "law") rfl)
  have e := hfa.symm.trans g_law
  cases e
  refine ⟨fd_law, fun s v => FunD.bindsA (ps := ["script"]) F_law (fun _ _ _ _ _ _ us hl => match us, hl with | [_], _ => rfl) s [v] rfl, fun base _ _ => ?_⟩
  have D_is_integer := df_is_integer (P := P) (w := w) (base := base) B C  F_is_integer g_is_integer
  have D_common_divisor := df_common_divisor (P := P) (w := w) (base := base) B C  F_common_divisor g_common_divisor
  have D_is_fraction := df_is_fraction (P := P) (w := w) (base := base) B C D_common_divisor D_is_integer F_is_fraction g_is_fraction
  have D_reduced := df_reduced (P := P) (w := w) (base := base) B C D_common_divisor F_reduced g_reduced
  have D_fraction := df_fraction (P := P) (w := w) (base := base) B C D_is_integer D_reduced F_fraction g_fraction
  have D_fraction_1 := df_fraction_1 (P := P) (w := w) (base := base) B C D_is_integer D_reduced F_fraction g_fraction
  have D_require_fraction := df_require_fraction (P := P) (w := w) (base := base) B C D_is_fraction F_require_fraction g_require_fraction
  have D_require_count := df_require_count (P := P) (w := w) (base := base) B C D_is_integer F_require_count g_require_count
  have D_require_count_2 := df_require_count_2 (P := P) (w := w) (base := base) B C D_is_integer F_require_count g_require_count
  have D_require_count_1 := df_require_count_1 (P := P) (w := w) (base := base) B C D_is_integer F_require_count g_require_count
  have D_added := df_added (P := P) (w := w) (base := base) B C D_reduced F_added g_added
  have D_multiplied := df_multiplied (P := P) (w := w) (base := base) B C D_reduced F_multiplied g_multiplied
  have D_opposite := df_opposite (P := P) (w := w) (base := base) B C  F_opposite g_opposite
  have D_divided := df_divided (P := P) (w := w) (base := base) B C D_reduced F_divided g_divided
  have D_sum_of := df_sum_of (P := P) (w := w) (base := base) B C D_added F_sum_of g_sum_of
  have D_plus := df_plus (P := P) (w := w) (base := base) B C D_added D_require_fraction F_plus g_plus
  have D_minus := df_minus (P := P) (w := w) (base := base) B C D_added D_opposite D_require_fraction F_minus g_minus
  have D_times := df_times (P := P) (w := w) (base := base) B C D_multiplied D_require_fraction F_times g_times
  have D_over := df_over (P := P) (w := w) (base := base) B C D_divided D_require_fraction F_over g_over
  have D_compared := df_compared (P := P) (w := w) (base := base) B C D_require_fraction F_compared g_compared
  have D_total := df_total (P := P) (w := w) (base := base) B C D_is_fraction D_sum_of F_total g_total
  have D_power := df_power (P := P) (w := w) (base := base) B C D_multiplied D_require_count_1 D_require_fraction F_power g_power
  have D_require_integers := df_require_integers (P := P) (w := w) (base := base) B C D_is_integer F_require_integers g_require_integers
  have D_divisor_of := df_divisor_of (P := P) (w := w) (base := base) B C D_common_divisor F_divisor_of g_divisor_of
  have D_greatest_divisor := df_greatest_divisor (P := P) (w := w) (base := base) B C D_divisor_of D_require_integers F_greatest_divisor g_greatest_divisor
  have D_multiple_of := df_multiple_of (P := P) (w := w) (base := base) B C D_common_divisor F_multiple_of g_multiple_of
  have D_least_multiple_of := df_least_multiple_of (P := P) (w := w) (base := base) B C D_multiple_of D_require_integers F_least_multiple_of g_least_multiple_of
  have D_combined := df_combined (P := P) (w := w) (base := base) B C  F_combined g_combined
  have D_bezout := df_bezout (P := P) (w := w) (base := base) B C D_combined D_is_integer F_bezout g_bezout
  have D__law_dice := df__law_dice (P := P) (w := w) (base := base) B C  F__law_dice g__law_dice
  have D__law_roll := df__law_roll (P := P) (w := w) (base := base) B C  F__law_roll g__law_roll
  have D__law_pick := df__law_pick (P := P) (w := w) (base := base) B C D__law_roll F__law_pick g__law_pick
  have D__law_fr := df__law_fr (P := P) (w := w) (base := base) B C  F__law_fr g__law_fr
  have D__law_plus := df__law_plus (P := P) (w := w) (base := base) B C D__law_fr F__law_plus g__law_plus
  have D__law_times := df__law_times (P := P) (w := w) (base := base) B C D__law_fr F__law_times g__law_times
  have D__law_minus := df__law_minus (P := P) (w := w) (base := base) B C D__law_fr F__law_minus g__law_minus
  have D__law_integer := df__law_integer (P := P) (w := w) (base := base) B C D__law_pick D__law_roll F__law_integer g__law_integer
  have D__law_drawn := df__law_drawn (P := P) (w := w) (base := base) B C D__law_fr D__law_integer D__law_roll F__law_drawn g__law_drawn
  have D__law_divisor := df__law_divisor (P := P) (w := w) (base := base) B C  F__law_divisor g__law_divisor
  have D__law_multiple := df__law_multiple (P := P) (w := w) (base := base) B C D__law_divisor F__law_multiple g__law_multiple
  have D__law_fractions_right := df__law_fractions_right (P := P) (w := w) (base := base) B C D__law_drawn D__law_fr D__law_integer D__law_minus D__law_pick D__law_plus D__law_roll D__law_times D_compared D_fraction_1 D_fraction D_minus D_over D_plus D_power D_times D_total F__law_fractions_right g__law_fractions_right
  have D__law_divisors_right := df__law_divisors_right (P := P) (w := w) (base := base) B C D__law_divisor D__law_integer D__law_multiple D__law_pick D__law_roll D_bezout D_greatest_divisor D_least_multiple_of F__law_divisors_right g__law_divisors_right
  exact fn_law B C D__law_dice D__law_divisors_right D__law_fractions_right D__law_plus D_compared D_fraction D_greatest_divisor D_least_multiple_of D_plus D_power D_total F_law
end Kw

/-! text R76 -/
set_option maxHeartbeats 1000000
namespace Km
open Rat
theorem red_pos (t b : Int) (hb : 0 < b) : t.fdiv (Int.gcd t b) = (Rat.divInt t b).num ∧ b.fdiv (Int.gcd t b) = ((Rat.divInt t b).den : Int) := by
  have hg : (0 : Int) ≤ (Int.gcd t b : Nat) := Int.natCast_nonneg _
  have hs : b.sign = 1 := Int.sign_eq_one_of_pos hb
  refine ⟨?_, ?_⟩
  · rw [Rat.num_divInt, hs, Int.one_mul, Int.gcd_comm, Int.fdiv_eq_ediv_of_nonneg _ (Int.natCast_nonneg _)]
  · rw [Rat.den_divInt, if_neg (by omega), Int.gcd_comm, Int.fdiv_eq_ediv_of_nonneg _ (Int.natCast_nonneg _)]
    rw [Int.natCast_ediv]
    congr 1
    omega
theorem red_neg (t b : Int) (hb : b < 0) : (-t).fdiv (Int.gcd t b) = (Rat.divInt t b).num ∧ (-b).fdiv (Int.gcd t b) = ((Rat.divInt t b).den : Int) := by
  have h := red_pos (-t) (-b) (by omega)
  rw [Int.gcd_neg, Int.neg_gcd, Rat.neg_divInt_neg] at h
  exact h
theorem add_is (p q : Rat) : Rat.divInt (p.num * q.den + q.num * p.den) (p.den * q.den) = p + q := by
  rw [Rat.add_def', ← Rat.divInt_ofNat]
  rw [Int.natCast_mul]
theorem sub_is (p q : Rat) : Rat.divInt (p.num * q.den - q.num * p.den) (p.den * q.den) = p - q := by
  rw [Rat.sub_def', ← Rat.divInt_ofNat]
  rw [Int.natCast_mul]
theorem mul_is (p q : Rat) : Rat.divInt (p.num * q.num) (p.den * q.den) = p * q := by
  rw [Rat.mul_def', ← Rat.divInt_ofNat]
  rw [Int.natCast_mul]
theorem div_is (p q : Rat) : Rat.divInt (p.num * q.den) (p.den * q.num) = p / q := by
  rw [Rat.div_def, Rat.inv_def, ← Rat.divInt_mul_divInt, Rat.num_divInt_den]
theorem int_is (n : Int) : Rat.divInt n 1 = (n : Rat) := by
  rw [Rat.divInt_eq_div]
  grind
theorem num_int (n : Int) : (n : Rat).num = n := Rat.num_intCast n
theorem den_int (n : Int) : (n : Rat).den = 1 := Rat.den_intCast n
/-- both numbers below 2^k -/
def Bd (k : Nat) (q : Rat) : Prop := q.num.natAbs < 2 ^ k ∧ q.den < 2 ^ k
theorem Bd.mono {j k : Nat} {q : Rat} (h : Bd j q) (hk : j ≤ k) : Bd k q :=
  ⟨Nat.lt_of_lt_of_le h.1 (Nat.pow_le_pow_right (by decide) hk), Nat.lt_of_lt_of_le h.2 (Nat.pow_le_pow_right (by decide) hk)⟩
theorem Bd.of {k : Nat} {t b : Int} (ht : t.natAbs < 2 ^ k) (hb : b.natAbs < 2 ^ k) (h0 : b ≠ 0) : Bd k (Rat.divInt t b) := by
  refine ⟨Nat.lt_of_le_of_lt ?_ ht, Nat.lt_of_le_of_lt ?_ hb⟩
  · rw [Rat.num_divInt, Int.natAbs_ediv_of_dvd, Int.natAbs_mul]
    · have : b.sign.natAbs ≤ 1 := by
        rcases Int.lt_trichotomy b 0 with h | h | h
        · rw [Int.sign_eq_neg_one_of_neg h]; decide
        · rw [h]; decide
        · rw [Int.sign_eq_one_of_pos h]; decide
      refine Nat.le_trans (Nat.div_le_self _ _) ?_
      calc b.sign.natAbs * t.natAbs ≤ 1 * t.natAbs := Nat.mul_le_mul_right _ this
        _ = t.natAbs := Nat.one_mul _
    · exact Int.dvd_trans (Int.gcd_dvd_right ..) (Int.dvd_mul_left ..)
  · rw [Rat.den_divInt, if_neg h0]
    exact Nat.div_le_self _ _
theorem lt_mul {a b x y : Nat} (hx : x < 2 ^ a) (hy : y < 2 ^ b) : x * y < 2 ^ (a + b) := by
  rw [Nat.pow_add]
  exact Nat.mul_lt_mul'' hx hy
theorem abs_mul {a b : Nat} {x y : Int} (hx : x.natAbs < 2 ^ a) (hy : y.natAbs < 2 ^ b) : (x * y).natAbs < 2 ^ (a + b) := by
  rw [Int.natAbs_mul]
  exact lt_mul hx hy
theorem abs_add {a : Nat} {x y : Int} (hx : x.natAbs < 2 ^ a) (hy : y.natAbs < 2 ^ a) : (x + y).natAbs < 2 ^ (a + 1) := by
  have := Int.natAbs_add_le x y
  rw [Nat.pow_succ]
  omega
theorem abs_sub {a : Nat} {x y : Int} (hx : x.natAbs < 2 ^ a) (hy : y.natAbs < 2 ^ a) : (x - y).natAbs < 2 ^ (a + 1) := by
  have h2 : (-y).natAbs < 2 ^ a := by rw [Int.natAbs_neg]; exact hy
  have := abs_add hx h2
  rwa [← Int.sub_eq_add_neg] at this
theorem abs_up {a b : Nat} {x : Int} (hx : x.natAbs < 2 ^ a) (h : a ≤ b) : x.natAbs < 2 ^ b := Nat.lt_of_lt_of_le hx (Nat.pow_le_pow_right (by decide) h)
theorem Bd.den {k : Nat} {q : Rat} (h : Bd k q) : ((q.den : Nat) : Int).natAbs < 2 ^ k := h.2
theorem den_ne (q : Rat) : ((q.den : Nat) : Int) ≠ 0 := by
  have := q.den_pos
  omega
theorem Bd.add {a b : Nat} {p q : Rat} (hp : Bd a p) (hq : Bd b q) : Bd (a + b + 1) (p + q) := by
  rw [← add_is]
  refine Bd.of (abs_add (abs_mul hp.1 hq.den) ?_) (abs_up (abs_mul hp.den hq.den) (by omega)) (Int.mul_ne_zero (den_ne p) (den_ne q))
  rw [Nat.add_comm a b]
  exact abs_mul hq.1 hp.den
theorem Bd.sub {a b : Nat} {p q : Rat} (hp : Bd a p) (hq : Bd b q) : Bd (a + b + 1) (p - q) := by
  rw [← sub_is]
  refine Bd.of (abs_sub (abs_mul hp.1 hq.den) ?_) (abs_up (abs_mul hp.den hq.den) (by omega)) (Int.mul_ne_zero (den_ne p) (den_ne q))
  rw [Nat.add_comm a b]
  exact abs_mul hq.1 hp.den
theorem Bd.mul {a b : Nat} {p q : Rat} (hp : Bd a p) (hq : Bd b q) : Bd (a + b) (p * q) := by
  rw [← mul_is]
  exact Bd.of (abs_mul hp.1 hq.1) (abs_mul hp.den hq.den) (Int.mul_ne_zero (den_ne p) (den_ne q))
theorem num_ne {q : Rat} (h : q ≠ 0) : q.num ≠ 0 := fun e => h (Rat.num_eq_zero.mp e)
theorem Bd.div {a b : Nat} {p q : Rat} (hp : Bd a p) (hq : Bd b q) (h : q ≠ 0) : Bd (a + b) (p / q) := by
  rw [← div_is]
  exact Bd.of (abs_mul hp.1 hq.den) (abs_mul hp.den hq.1) (Int.mul_ne_zero (den_ne p) (num_ne h))
theorem Bd.int {k : Nat} {n : Int} (h : n.natAbs < 2 ^ k) (hk : 1 ≤ k) : Bd k (n : Rat) := by
  refine ⟨by rw [num_int]; exact h, ?_⟩
  rw [den_int]
  exact Nat.one_lt_two_pow (by omega)
end Km

/-! text P76 -/
set_option maxHeartbeats 1000000
namespace Km
theorem abs_le_add {a b : Int} (h : 0 ≤ a * b) : a.natAbs ≤ (a + b).natAbs := by
  rcases Int.le_total 0 a with ha | ha <;> rcases Int.le_total 0 b with hb | hb
  · omega
  · have : a * b ≤ 0 := Int.mul_nonpos_of_nonneg_of_nonpos ha hb
    have : a * b = 0 := by omega
    rcases Int.mul_eq_zero.mp this with h | h <;> omega
  · have : a * b ≤ 0 := Int.mul_nonpos_of_nonpos_of_nonneg ha hb
    have : a * b = 0 := by omega
    rcases Int.mul_eq_zero.mp this with h | h <;> omega
  · omega
/-- the state of the division chain -/
structure Iv (f s lg lx ly rg rx ry : Int) : Prop where
  a1 : f * lx + s * ly = lg
  a2 : f * rx + s * ry = rg
  b : Int.gcd lg rg = Int.gcd f s
  c1 : lg.natAbs ≤ f.natAbs + s.natAbs
  c2 : rg.natAbs ≤ f.natAbs + s.natAbs
  d1 : lx.natAbs ≤ s.natAbs + 1
  d2 : rx.natAbs ≤ s.natAbs + 1
  e1 : lx * rx ≤ 0
  e2 : 0 ≤ lg * rg ∨ rx = 0
  f : lg * rx - rg * lx = s ∨ lg * rx - rg * lx = -s
theorem Iv.start (f s : Int) : Iv f s f 1 0 s 0 1 := ⟨by omega, by omega, rfl, by omega, by omega, by simp, by simp, by simp, .inr rfl, .inr (by simp)⟩
theorem fmod_abs {a b : Int} (h : b ≠ 0) : (a.fmod b).natAbs < b.natAbs ∧ 0 ≤ b * a.fmod b := by
  rcases Int.lt_trichotomy b 0 with hb | hb | hb
  · have e : a.fmod b = -((-a).fmod (-b)) := by
      rw [Int.fmod_def, Int.fmod_def, Int.neg_fdiv_neg]
      grind
    have h1 := Int.fmod_nonneg_of_pos (-a) (b := -b) (by omega)
    have h2 := Int.fmod_lt_of_pos (-a) (b := -b) (by omega)
    refine ⟨by omega, ?_⟩
    rw [e]
    exact Int.mul_nonneg_of_nonpos_of_nonpos (by omega) (by omega)
  · exact absurd hb h
  · have h1 := Int.fmod_nonneg_of_pos a hb
    have h2 := Int.fmod_lt_of_pos a hb
    exact ⟨by omega, Int.mul_nonneg (by omega) h1⟩
theorem gcd_fmod (a b t : Int) : Int.gcd b (a - t * b) = Int.gcd a b := by
  apply Nat.dvd_antisymm
  · apply Int.dvd_gcd
    · have h1 : (Int.gcd b (a - t * b) : Int) ∣ b := Int.gcd_dvd_left ..
      have h2 : (Int.gcd b (a - t * b) : Int) ∣ a - t * b := Int.gcd_dvd_right ..
      have h3 := Int.dvd_add h2 (Int.dvd_mul_of_dvd_right (b := t) h1)
      rw [show a - t * b + t * b = a by omega] at h3
      exact h3
    · exact Int.gcd_dvd_left ..
  · apply Int.dvd_gcd
    · exact Int.gcd_dvd_right ..
    · have h1 : (Int.gcd a b : Int) ∣ b := Int.gcd_dvd_right ..
      have h2 : (Int.gcd a b : Int) ∣ a := Int.gcd_dvd_left ..
      exact Int.dvd_sub h2 (Int.dvd_mul_of_dvd_right (b := t) h1)
theorem Iv.step {f s lg lx ly rg rx ry : Int} (i : Iv f s lg lx ly rg rx ry) (h : rg ≠ 0) :
    Iv f s rg rx ry (lg - lg.fdiv rg * rg) (lx - lg.fdiv rg * rx) (ly - lg.fdiv rg * ry) ∧ (lg - lg.fdiv rg * rg).natAbs < rg.natAbs := by
  have em : lg - lg.fdiv rg * rg = lg.fmod rg := by rw [Int.fmod_def, Int.mul_comm]
  obtain ⟨m1, m2⟩ := fmod_abs (a := lg) h
  rw [← em] at m1 m2
  have ht : rx = 0 ∨ 0 ≤ lg.fdiv rg := by
    rcases i.e2 with e | e
    · right
      rcases Int.lt_trichotomy rg 0 with hb | hb | hb
      · have : lg ≤ 0 := by
          rcases Int.le_total lg 0 with z | z
          · exact z
          · have : lg * rg ≤ 0 := Int.mul_nonpos_of_nonneg_of_nonpos z (by omega)
            have : lg * rg = 0 := by omega
            rcases Int.mul_eq_zero.mp this with h | h <;> omega
        exact Int.fdiv_nonneg_of_nonpos_of_nonpos this (by omega)
      · exact absurd hb h
      · have : 0 ≤ lg := by
          rcases Int.le_total 0 lg with z | z
          · exact z
          · have : lg * rg ≤ 0 := Int.mul_nonpos_of_nonpos_of_nonneg z (by omega)
            have : lg * rg = 0 := by omega
            rcases Int.mul_eq_zero.mp this with h | h <;> omega
        exact Int.fdiv_nonneg this (by omega)
    · exact .inl e
  have e1 : rx * (lx - lg.fdiv rg * rx) ≤ 0 := by
    rcases ht with e | e
    · rw [e]; simp
    · have h1 := i.e1
      have h2 : 0 ≤ lg.fdiv rg * (rx * rx) := Int.mul_nonneg e (by
        rcases Int.le_total 0 rx with z | z
        · exact Int.mul_nonneg z z
        · exact Int.mul_nonneg_of_nonpos_of_nonpos z z)
      have h3 : rx * (lx - lg.fdiv rg * rx) = lx * rx - lg.fdiv rg * (rx * rx) := by grind
      omega
  have f' : rg * (lx - lg.fdiv rg * rx) - (lg - lg.fdiv rg * rg) * rx = s ∨ rg * (lx - lg.fdiv rg * rx) - (lg - lg.fdiv rg * rg) * rx = -s := by
    have e : rg * (lx - lg.fdiv rg * rx) - (lg - lg.fdiv rg * rg) * rx = -(lg * rx - rg * lx) := by grind
    rw [e]
    rcases i.f with h | h <;> omega
  have d2 : (lx - lg.fdiv rg * rx).natAbs ≤ s.natAbs + 1 := by
    have p : 0 ≤ (rg * (lx - lg.fdiv rg * rx)) * (-((lg - lg.fdiv rg * rg) * rx)) := by
      have e : (rg * (lx - lg.fdiv rg * rx)) * (-((lg - lg.fdiv rg * rg) * rx)) = (rg * (lg - lg.fdiv rg * rg)) * (-(rx * (lx - lg.fdiv rg * rx))) := by grind
      rw [e]
      exact Int.mul_nonneg m2 (by omega)
    have q := abs_le_add p
    rw [← Int.sub_eq_add_neg, Int.natAbs_mul] at q
    have r : 1 * (lx - lg.fdiv rg * rx).natAbs ≤ rg.natAbs * (lx - lg.fdiv rg * rx).natAbs := Nat.mul_le_mul_right _ (by omega)
    rcases f' with z | z <;> rw [z] at q <;> omega
  refine ⟨⟨i.a2, ?_, ?_, i.c2, by have := i.c2; omega, i.d2, d2, e1, .inl m2, f'⟩, m1⟩
  · have h1 := i.a1
    have h2 := i.a2
    grind
  · rw [gcd_fmod]; exact i.b
/-- the other number is bounded too -/
theorem Iv.y {f s lg lx ly rg rx ry : Int} (i : Iv f s lg lx ly rg rx ry) (hs : s ≠ 0) : ly.natAbs ≤ lg.natAbs + f.natAbs * lx.natAbs ∧ ry.natAbs ≤ rg.natAbs + f.natAbs * rx.natAbs := by
  have go : ∀ {g x y : Int}, f * x + s * y = g → y.natAbs ≤ g.natAbs + f.natAbs * x.natAbs := fun {g x y} e => by
    have e2 : s * y = g - f * x := by omega
    have e3 : (s * y).natAbs ≤ g.natAbs + (f * x).natAbs := by rw [e2]; omega
    rw [Int.natAbs_mul, Int.natAbs_mul] at e3
    have : 1 * y.natAbs ≤ s.natAbs * y.natAbs := Nat.mul_le_mul_right _ (by omega)
    omega
  exact ⟨go i.a1, go i.a2⟩
end Km

/-! text M76 -/
set_option maxHeartbeats 400000
namespace Km
open PySem PySem.Spec PyProof.Rows L2 Dy Kw
abbrev fr (q : Rat) : D := .tup [.int q.num, .int (q.den : Nat)]
/-! ### the greatest divisor -/
theorem gcd_step (a b : Nat) (h : 0 < b) : Nat.gcd a b = Nat.gcd b (a % b) := by
  rw [Nat.gcd_comm, Nat.gcd_rec, Nat.gcd_comm]
theorem gcd_loop {c : WT} {wb : WS} (e : Nat → Nat → RHO) (hc : ∀ (a b : Nat) (G : GP) (Q : Bool → GP → Prop), Q (decide (0 < b)) G → c (e a b) G Q)
    (hb : ∀ (a b : Nat) (De : DEnds) (G : GP), 0 < b → De.nx (e b (a % b)) G → wb De (e a b) G) (De : DEnds) (G : GP) : ∀ b a : Nat, De.nx (e (Nat.gcd a b) 0) G → wWh c wb De (e a b) G := by
  intro b
  induction b using Nat.strongRecOn with
  | ind b ih =>
    intro a h
    by_cases h0 : b = 0
    · subst h0
      refine ⟨1, hc a 0 G _ ?_⟩
      rw [Nat.gcd_zero_right] at h
      exact h
    · have h0 : 0 < b := by omega
      obtain ⟨n, hn⟩ := ih (a % b) (Nat.mod_lt _ h0) b (by rw [← gcd_step a b h0]; exact h)
      refine ⟨n + 1, hc a b G _ ?_⟩
      rw [if_pos (decide_eq_true h0)]
      exact hb a b _ G h0 hn
section
variable {G : GP} {Q : KD}
theorem s_cd (a b : Int) (q : Q (.int (Int.gcd a b : Nat)) G) : Q_common_divisor [.int a, .int b] G Q := by
  unfold Q_common_divisor
  refine ⟨rfl, ?_⟩
  show W_common_divisor _ [some (.int a), some (.int b)] G
  unfold W_common_divisor
  try simp only [↓Dy.wSeq, ↓Dy.wNext, ↓Dy.sIf, ↓Dy.sRet, ↓Dy.sRetN, ↓Dy.sSet, ↓Dy.sAsg, ↓Dy.sExp, ↓Dy.wPar, ↓Dy.wPar3, ↓Dy.wSub, ↓Dy.yOp, ↓Dy.yUn, ↓Dy.yCmT, ↓Dy.yCh, ↓Dy.yChT, ↓Dy.yVal, ↓Dy.yNotT, ↓Dy.yAndT, ↓Dy.yOrT, ↓Dy.yAnd, ↓Dy.yOr, ↓Dy.yNot, ↓Dy.yIf, ↓Dy.yTup, ↓Dy.yLst, ↓Dy.yNum, ↓Dy.yBl, ↓Dy.yCall, ↓Dy.yRev, ↓Dy.wVar, ↓Dy.wC, ↓Dy.aNil, ↓Dy.aCons, ↓Dy.look, ↓Dy.onB, ↓Dy.onT, ↓Dy.bindT, ↓Dy.bindTs, ↓Dy.addD, ↓Dy.subD, ↓Dy.mulD, ↓Dy.fdivD, ↓Dy.modD, ↓Dy.powD, ↓Dy.negD, ↓Dy.ltD, ↓Dy.leD, ↓Dy.gtD, ↓Dy.geD, ↓Dy.eqD_int, ↓Dy.neD_int, ↓Dy.eqD_str, ↓Dy.neD_str, ↓Dy.eqD_p, ↓Dy.neD_p, ↓Dy.ix_p0, ↓Dy.ix_p1, ↓Dy.ix_t0, ↓Dy.ix_t1, ↓Dy.ix_t2, ↓Dy.isiC, ↓Dy.notTy, ↓Dy.tyn, ↓Dy.isiB, ↓Dy.lenC, ↓Dy.seqOf, ↓Dy.lstOf, ↓Dy.allC, ↓Dy.allB, ↓Dy.tupC, ↓Dy.lstC, ↓Dy.revD, ↓Dy.wLc, ↓Dy.lcD, ↓Dy.wiS, ↓Dy.seqF, ↓Dy.wYes, ↓Dy.wipeR, ↓Option.map_some, ↓Option.map_none, ↓Bool.not_true, ↓Bool.not_false, ↓Bool.and_true, ↓Bool.true_and, ↓Dy.absC, ↓Dy.intC, ↓Dy.maxC, ↓Dy.minC, ↓List.set_cons_zero, ↓List.set_cons_succ, ↓List.append_nil, ↓List.cons_append, ↓List.nil_append, ↓decide_eq_true_eq, ↓Bool.not_eq_true', ↓decide_eq_false_iff_not, ↓if_true, ↓if_false, ↓Bool.false_eq_true, reduceIte, reduceCtorEq, ↓List.length_cons, ↓List.length_nil, ↓true_and, ↓and_true]
  refine gcd_loop (fun a b => [some (.int a), some (.int b)]) (fun a b G Q q => ?_) (fun a b De G h0 q => ?_) _ G b.natAbs a.natAbs q
  · try simp only [↓Dy.wSeq, ↓Dy.wNext, ↓Dy.sIf, ↓Dy.sRet, ↓Dy.sRetN, ↓Dy.sSet, ↓Dy.sAsg, ↓Dy.sExp, ↓Dy.wPar, ↓Dy.wPar3, ↓Dy.wSub, ↓Dy.yOp, ↓Dy.yUn, ↓Dy.yCmT, ↓Dy.yCh, ↓Dy.yChT, ↓Dy.yVal, ↓Dy.yNotT, ↓Dy.yAndT, ↓Dy.yOrT, ↓Dy.yAnd, ↓Dy.yOr, ↓Dy.yNot, ↓Dy.yIf, ↓Dy.yTup, ↓Dy.yLst, ↓Dy.yNum, ↓Dy.yBl, ↓Dy.yCall, ↓Dy.yRev, ↓Dy.wVar, ↓Dy.wC, ↓Dy.aNil, ↓Dy.aCons, ↓Dy.look, ↓Dy.onB, ↓Dy.onT, ↓Dy.bindT, ↓Dy.bindTs, ↓Dy.addD, ↓Dy.subD, ↓Dy.mulD, ↓Dy.fdivD, ↓Dy.modD, ↓Dy.powD, ↓Dy.negD, ↓Dy.ltD, ↓Dy.leD, ↓Dy.gtD, ↓Dy.geD, ↓Dy.eqD_int, ↓Dy.neD_int, ↓Dy.eqD_str, ↓Dy.neD_str, ↓Dy.eqD_p, ↓Dy.neD_p, ↓Dy.ix_p0, ↓Dy.ix_p1, ↓Dy.ix_t0, ↓Dy.ix_t1, ↓Dy.ix_t2, ↓Dy.isiC, ↓Dy.notTy, ↓Dy.tyn, ↓Dy.isiB, ↓Dy.lenC, ↓Dy.seqOf, ↓Dy.lstOf, ↓Dy.allC, ↓Dy.allB, ↓Dy.tupC, ↓Dy.lstC, ↓Dy.revD, ↓Dy.wLc, ↓Dy.lcD, ↓Dy.wiS, ↓Dy.seqF, ↓Dy.wYes, ↓Dy.wipeR, ↓Option.map_some, ↓Option.map_none, ↓Bool.not_true, ↓Bool.not_false, ↓Bool.and_true, ↓Bool.true_and, ↓Dy.absC, ↓Dy.intC, ↓Dy.maxC, ↓Dy.minC, ↓List.set_cons_zero, ↓List.set_cons_succ, ↓List.append_nil, ↓List.cons_append, ↓List.nil_append, ↓decide_eq_true_eq, ↓Bool.not_eq_true', ↓decide_eq_false_iff_not, ↓if_true, ↓if_false, ↓Bool.false_eq_true, reduceIte, reduceCtorEq, ↓List.length_cons, ↓List.length_nil, ↓true_and, ↓and_true]
    simpa using q
  · try simp only [↓Dy.wSeq, ↓Dy.wNext, ↓Dy.sIf, ↓Dy.sRet, ↓Dy.sRetN, ↓Dy.sSet, ↓Dy.sAsg, ↓Dy.sExp, ↓Dy.wPar, ↓Dy.wPar3, ↓Dy.wSub, ↓Dy.yOp, ↓Dy.yUn, ↓Dy.yCmT, ↓Dy.yCh, ↓Dy.yChT, ↓Dy.yVal, ↓Dy.yNotT, ↓Dy.yAndT, ↓Dy.yOrT, ↓Dy.yAnd, ↓Dy.yOr, ↓Dy.yNot, ↓Dy.yIf, ↓Dy.yTup, ↓Dy.yLst, ↓Dy.yNum, ↓Dy.yBl, ↓Dy.yCall, ↓Dy.yRev, ↓Dy.wVar, ↓Dy.wC, ↓Dy.aNil, ↓Dy.aCons, ↓Dy.look, ↓Dy.onB, ↓Dy.onT, ↓Dy.bindT, ↓Dy.bindTs, ↓Dy.addD, ↓Dy.subD, ↓Dy.mulD, ↓Dy.fdivD, ↓Dy.modD, ↓Dy.powD, ↓Dy.negD, ↓Dy.ltD, ↓Dy.leD, ↓Dy.gtD, ↓Dy.geD, ↓Dy.eqD_int, ↓Dy.neD_int, ↓Dy.eqD_str, ↓Dy.neD_str, ↓Dy.eqD_p, ↓Dy.neD_p, ↓Dy.ix_p0, ↓Dy.ix_p1, ↓Dy.ix_t0, ↓Dy.ix_t1, ↓Dy.ix_t2, ↓Dy.isiC, ↓Dy.notTy, ↓Dy.tyn, ↓Dy.isiB, ↓Dy.lenC, ↓Dy.seqOf, ↓Dy.lstOf, ↓Dy.allC, ↓Dy.allB, ↓Dy.tupC, ↓Dy.lstC, ↓Dy.revD, ↓Dy.wLc, ↓Dy.lcD, ↓Dy.wiS, ↓Dy.seqF, ↓Dy.wYes, ↓Dy.wipeR, ↓Option.map_some, ↓Option.map_none, ↓Bool.not_true, ↓Bool.not_false, ↓Bool.and_true, ↓Bool.true_and, ↓Dy.absC, ↓Dy.intC, ↓Dy.maxC, ↓Dy.minC, ↓List.set_cons_zero, ↓List.set_cons_succ, ↓List.append_nil, ↓List.cons_append, ↓List.nil_append, ↓decide_eq_true_eq, ↓Bool.not_eq_true', ↓decide_eq_false_iff_not, ↓if_true, ↓if_false, ↓Bool.false_eq_true, reduceIte, reduceCtorEq, ↓List.length_cons, ↓List.length_nil, ↓true_and, ↓and_true]
    refine ⟨by omega, ?_⟩
    rw [Int.fmod_eq_emod_of_nonneg _ (by omega)]
    exact q
theorem gcd_small {t b : Int} {k : Nat} (hb : b ≠ 0) (hk : b.natAbs < 2 ^ k) : ((Int.gcd t b : Nat) : Int) ≠ 0 ∧ ((Int.gcd t b : Nat) : Int).natAbs < 2 ^ k := by
  have h1 : 0 < Int.gcd t b := Int.gcd_pos_of_ne_zero_right _ hb
  have h2 : Int.gcd t b ≤ b.natAbs := Nat.le_of_dvd (by omega) (Nat.gcd_dvd_right _ _)
  exact ⟨by omega, by rw [Int.natAbs_natCast]; omega⟩
theorem s_red {k : Nat} (t b : Int) (hb : b ≠ 0) (hk : b.natAbs < 2 ^ k) (h9 : k ≤ 9000) (q : Q (fr (Rat.divInt t b)) G) : Q_reduced [.int t, .int b] G Q := by
  unfold Q_reduced
  refine ⟨rfl, ?_⟩
  show W_reduced _ [some (.int t), some (.int b), none] G
  unfold W_reduced
  try simp only [↓Dy.wSeq, ↓Dy.wNext, ↓Dy.sIf, ↓Dy.sRet, ↓Dy.sRetN, ↓Dy.sSet, ↓Dy.sAsg, ↓Dy.sExp, ↓Dy.wPar, ↓Dy.wPar3, ↓Dy.wSub, ↓Dy.yOp, ↓Dy.yUn, ↓Dy.yCmT, ↓Dy.yCh, ↓Dy.yChT, ↓Dy.yVal, ↓Dy.yNotT, ↓Dy.yAndT, ↓Dy.yOrT, ↓Dy.yAnd, ↓Dy.yOr, ↓Dy.yNot, ↓Dy.yIf, ↓Dy.yTup, ↓Dy.yLst, ↓Dy.yNum, ↓Dy.yBl, ↓Dy.yCall, ↓Dy.yRev, ↓Dy.wVar, ↓Dy.wC, ↓Dy.aNil, ↓Dy.aCons, ↓Dy.look, ↓Dy.onB, ↓Dy.onT, ↓Dy.bindT, ↓Dy.bindTs, ↓Dy.addD, ↓Dy.subD, ↓Dy.mulD, ↓Dy.fdivD, ↓Dy.modD, ↓Dy.powD, ↓Dy.negD, ↓Dy.ltD, ↓Dy.leD, ↓Dy.gtD, ↓Dy.geD, ↓Dy.eqD_int, ↓Dy.neD_int, ↓Dy.eqD_str, ↓Dy.neD_str, ↓Dy.eqD_p, ↓Dy.neD_p, ↓Dy.ix_p0, ↓Dy.ix_p1, ↓Dy.ix_t0, ↓Dy.ix_t1, ↓Dy.ix_t2, ↓Dy.isiC, ↓Dy.notTy, ↓Dy.tyn, ↓Dy.isiB, ↓Dy.lenC, ↓Dy.seqOf, ↓Dy.lstOf, ↓Dy.allC, ↓Dy.allB, ↓Dy.tupC, ↓Dy.lstC, ↓Dy.revD, ↓Dy.wLc, ↓Dy.lcD, ↓Dy.wiS, ↓Dy.seqF, ↓Dy.wYes, ↓Dy.wipeR, ↓Option.map_some, ↓Option.map_none, ↓Bool.not_true, ↓Bool.not_false, ↓Bool.and_true, ↓Bool.true_and, ↓Dy.absC, ↓Dy.intC, ↓Dy.maxC, ↓Dy.minC, ↓List.set_cons_zero, ↓List.set_cons_succ, ↓List.append_nil, ↓List.cons_append, ↓List.nil_append, ↓decide_eq_true_eq, ↓Bool.not_eq_true', ↓decide_eq_false_iff_not, ↓if_true, ↓if_false, ↓Bool.false_eq_true, reduceIte, reduceCtorEq, ↓List.length_cons, ↓List.length_nil, ↓true_and, ↓and_true]
  split
  · rename_i h
    apply s_cd
    try simp only [↓Dy.wSeq, ↓Dy.wNext, ↓Dy.sIf, ↓Dy.sRet, ↓Dy.sRetN, ↓Dy.sSet, ↓Dy.sAsg, ↓Dy.sExp, ↓Dy.wPar, ↓Dy.wPar3, ↓Dy.wSub, ↓Dy.yOp, ↓Dy.yUn, ↓Dy.yCmT, ↓Dy.yCh, ↓Dy.yChT, ↓Dy.yVal, ↓Dy.yNotT, ↓Dy.yAndT, ↓Dy.yOrT, ↓Dy.yAnd, ↓Dy.yOr, ↓Dy.yNot, ↓Dy.yIf, ↓Dy.yTup, ↓Dy.yLst, ↓Dy.yNum, ↓Dy.yBl, ↓Dy.yCall, ↓Dy.yRev, ↓Dy.wVar, ↓Dy.wC, ↓Dy.aNil, ↓Dy.aCons, ↓Dy.look, ↓Dy.onB, ↓Dy.onT, ↓Dy.bindT, ↓Dy.bindTs, ↓Dy.addD, ↓Dy.subD, ↓Dy.mulD, ↓Dy.fdivD, ↓Dy.modD, ↓Dy.powD, ↓Dy.negD, ↓Dy.ltD, ↓Dy.leD, ↓Dy.gtD, ↓Dy.geD, ↓Dy.eqD_int, ↓Dy.neD_int, ↓Dy.eqD_str, ↓Dy.neD_str, ↓Dy.eqD_p, ↓Dy.neD_p, ↓Dy.ix_p0, ↓Dy.ix_p1, ↓Dy.ix_t0, ↓Dy.ix_t1, ↓Dy.ix_t2, ↓Dy.isiC, ↓Dy.notTy, ↓Dy.tyn, ↓Dy.isiB, ↓Dy.lenC, ↓Dy.seqOf, ↓Dy.lstOf, ↓Dy.allC, ↓Dy.allB, ↓Dy.tupC, ↓Dy.lstC, ↓Dy.revD, ↓Dy.wLc, ↓Dy.lcD, ↓Dy.wiS, ↓Dy.seqF, ↓Dy.wYes, ↓Dy.wipeR, ↓Option.map_some, ↓Option.map_none, ↓Bool.not_true, ↓Bool.not_false, ↓Bool.and_true, ↓Bool.true_and, ↓Dy.absC, ↓Dy.intC, ↓Dy.maxC, ↓Dy.minC, ↓List.set_cons_zero, ↓List.set_cons_succ, ↓List.append_nil, ↓List.cons_append, ↓List.nil_append, ↓decide_eq_true_eq, ↓Bool.not_eq_true', ↓decide_eq_false_iff_not, ↓if_true, ↓if_false, ↓Bool.false_eq_true, reduceIte, reduceCtorEq, ↓List.length_cons, ↓List.length_nil, ↓true_and, ↓and_true]
    rw [Int.zero_sub, Int.zero_sub, Int.gcd_neg, Int.neg_gcd]
    obtain ⟨g1, g2⟩ := gcd_small (t := t) hb hk
    obtain ⟨e1, e2⟩ := red_neg t b h
    refine ⟨divOk g1 g2 h9, divOk g1 g2 h9, by decide, ?_⟩
    rw [e1, e2]
    exact q
  · rename_i h
    apply s_cd
    try simp only [↓Dy.wSeq, ↓Dy.wNext, ↓Dy.sIf, ↓Dy.sRet, ↓Dy.sRetN, ↓Dy.sSet, ↓Dy.sAsg, ↓Dy.sExp, ↓Dy.wPar, ↓Dy.wPar3, ↓Dy.wSub, ↓Dy.yOp, ↓Dy.yUn, ↓Dy.yCmT, ↓Dy.yCh, ↓Dy.yChT, ↓Dy.yVal, ↓Dy.yNotT, ↓Dy.yAndT, ↓Dy.yOrT, ↓Dy.yAnd, ↓Dy.yOr, ↓Dy.yNot, ↓Dy.yIf, ↓Dy.yTup, ↓Dy.yLst, ↓Dy.yNum, ↓Dy.yBl, ↓Dy.yCall, ↓Dy.yRev, ↓Dy.wVar, ↓Dy.wC, ↓Dy.aNil, ↓Dy.aCons, ↓Dy.look, ↓Dy.onB, ↓Dy.onT, ↓Dy.bindT, ↓Dy.bindTs, ↓Dy.addD, ↓Dy.subD, ↓Dy.mulD, ↓Dy.fdivD, ↓Dy.modD, ↓Dy.powD, ↓Dy.negD, ↓Dy.ltD, ↓Dy.leD, ↓Dy.gtD, ↓Dy.geD, ↓Dy.eqD_int, ↓Dy.neD_int, ↓Dy.eqD_str, ↓Dy.neD_str, ↓Dy.eqD_p, ↓Dy.neD_p, ↓Dy.ix_p0, ↓Dy.ix_p1, ↓Dy.ix_t0, ↓Dy.ix_t1, ↓Dy.ix_t2, ↓Dy.isiC, ↓Dy.notTy, ↓Dy.tyn, ↓Dy.isiB, ↓Dy.lenC, ↓Dy.seqOf, ↓Dy.lstOf, ↓Dy.allC, ↓Dy.allB, ↓Dy.tupC, ↓Dy.lstC, ↓Dy.revD, ↓Dy.wLc, ↓Dy.lcD, ↓Dy.wiS, ↓Dy.seqF, ↓Dy.wYes, ↓Dy.wipeR, ↓Option.map_some, ↓Option.map_none, ↓Bool.not_true, ↓Bool.not_false, ↓Bool.and_true, ↓Bool.true_and, ↓Dy.absC, ↓Dy.intC, ↓Dy.maxC, ↓Dy.minC, ↓List.set_cons_zero, ↓List.set_cons_succ, ↓List.append_nil, ↓List.cons_append, ↓List.nil_append, ↓decide_eq_true_eq, ↓Bool.not_eq_true', ↓decide_eq_false_iff_not, ↓if_true, ↓if_false, ↓Bool.false_eq_true, reduceIte, reduceCtorEq, ↓List.length_cons, ↓List.length_nil, ↓true_and, ↓and_true]
    obtain ⟨g1, g2⟩ := gcd_small (t := t) hb hk
    obtain ⟨e1, e2⟩ := red_pos t b (by omega)
    refine ⟨divOk g1 g2 h9, divOk g1 g2 h9, by decide, ?_⟩
    rw [e1, e2]
    exact q
theorem s_isint (i : Int) (q : Q (.bl true) G) : Q_is_integer [.int i] G Q := by
  unfold Q_is_integer
  refine ⟨rfl, ?_⟩
  show W_is_integer _ [some (.int i)] G
  unfold W_is_integer
  try simp only [↓Dy.wSeq, ↓Dy.wNext, ↓Dy.sIf, ↓Dy.sRet, ↓Dy.sRetN, ↓Dy.sSet, ↓Dy.sAsg, ↓Dy.sExp, ↓Dy.wPar, ↓Dy.wPar3, ↓Dy.wSub, ↓Dy.yOp, ↓Dy.yUn, ↓Dy.yCmT, ↓Dy.yCh, ↓Dy.yChT, ↓Dy.yVal, ↓Dy.yNotT, ↓Dy.yAndT, ↓Dy.yOrT, ↓Dy.yAnd, ↓Dy.yOr, ↓Dy.yNot, ↓Dy.yIf, ↓Dy.yTup, ↓Dy.yLst, ↓Dy.yNum, ↓Dy.yBl, ↓Dy.yCall, ↓Dy.yRev, ↓Dy.wVar, ↓Dy.wC, ↓Dy.aNil, ↓Dy.aCons, ↓Dy.look, ↓Dy.onB, ↓Dy.onT, ↓Dy.bindT, ↓Dy.bindTs, ↓Dy.addD, ↓Dy.subD, ↓Dy.mulD, ↓Dy.fdivD, ↓Dy.modD, ↓Dy.powD, ↓Dy.negD, ↓Dy.ltD, ↓Dy.leD, ↓Dy.gtD, ↓Dy.geD, ↓Dy.eqD_int, ↓Dy.neD_int, ↓Dy.eqD_str, ↓Dy.neD_str, ↓Dy.eqD_p, ↓Dy.neD_p, ↓Dy.ix_p0, ↓Dy.ix_p1, ↓Dy.ix_t0, ↓Dy.ix_t1, ↓Dy.ix_t2, ↓Dy.isiC, ↓Dy.notTy, ↓Dy.tyn, ↓Dy.isiB, ↓Dy.lenC, ↓Dy.seqOf, ↓Dy.lstOf, ↓Dy.allC, ↓Dy.allB, ↓Dy.tupC, ↓Dy.lstC, ↓Dy.revD, ↓Dy.wLc, ↓Dy.lcD, ↓Dy.wiS, ↓Dy.seqF, ↓Dy.wYes, ↓Dy.wipeR, ↓Option.map_some, ↓Option.map_none, ↓Bool.not_true, ↓Bool.not_false, ↓Bool.and_true, ↓Bool.true_and, ↓Dy.absC, ↓Dy.intC, ↓Dy.maxC, ↓Dy.minC, ↓List.set_cons_zero, ↓List.set_cons_succ, ↓List.append_nil, ↓List.cons_append, ↓List.nil_append, ↓decide_eq_true_eq, ↓Bool.not_eq_true', ↓decide_eq_false_iff_not, ↓if_true, ↓if_false, ↓Bool.false_eq_true, reduceIte, reduceCtorEq, ↓List.length_cons, ↓List.length_nil, ↓true_and, ↓and_true]
  exact q
theorem s_isfr (p : Rat) (q : Q (.bl true) G) : Q_is_fraction [fr p] G Q := by
  unfold Q_is_fraction
  refine ⟨rfl, ?_⟩
  show W_is_fraction _ [some (fr p), none] G
  unfold W_is_fraction
  try simp only [↓Dy.wSeq, ↓Dy.wNext, ↓Dy.sIf, ↓Dy.sRet, ↓Dy.sRetN, ↓Dy.sSet, ↓Dy.sAsg, ↓Dy.sExp, ↓Dy.wPar, ↓Dy.wPar3, ↓Dy.wSub, ↓Dy.yOp, ↓Dy.yUn, ↓Dy.yCmT, ↓Dy.yCh, ↓Dy.yChT, ↓Dy.yVal, ↓Dy.yNotT, ↓Dy.yAndT, ↓Dy.yOrT, ↓Dy.yAnd, ↓Dy.yOr, ↓Dy.yNot, ↓Dy.yIf, ↓Dy.yTup, ↓Dy.yLst, ↓Dy.yNum, ↓Dy.yBl, ↓Dy.yCall, ↓Dy.yRev, ↓Dy.wVar, ↓Dy.wC, ↓Dy.aNil, ↓Dy.aCons, ↓Dy.look, ↓Dy.onB, ↓Dy.onT, ↓Dy.bindT, ↓Dy.bindTs, ↓Dy.addD, ↓Dy.subD, ↓Dy.mulD, ↓Dy.fdivD, ↓Dy.modD, ↓Dy.powD, ↓Dy.negD, ↓Dy.ltD, ↓Dy.leD, ↓Dy.gtD, ↓Dy.geD, ↓Dy.eqD_int, ↓Dy.neD_int, ↓Dy.eqD_str, ↓Dy.neD_str, ↓Dy.eqD_p, ↓Dy.neD_p, ↓Dy.ix_p0, ↓Dy.ix_p1, ↓Dy.ix_t0, ↓Dy.ix_t1, ↓Dy.ix_t2, ↓Dy.isiC, ↓Dy.notTy, ↓Dy.tyn, ↓Dy.isiB, ↓Dy.lenC, ↓Dy.seqOf, ↓Dy.lstOf, ↓Dy.allC, ↓Dy.allB, ↓Dy.tupC, ↓Dy.lstC, ↓Dy.revD, ↓Dy.wLc, ↓Dy.lcD, ↓Dy.wiS, ↓Dy.seqF, ↓Dy.wYes, ↓Dy.wipeR, ↓Option.map_some, ↓Option.map_none, ↓Bool.not_true, ↓Bool.not_false, ↓Bool.and_true, ↓Bool.true_and, ↓Dy.absC, ↓Dy.intC, ↓Dy.maxC, ↓Dy.minC, ↓List.set_cons_zero, ↓List.set_cons_succ, ↓List.append_nil, ↓List.cons_append, ↓List.nil_append, ↓decide_eq_true_eq, ↓Bool.not_eq_true', ↓decide_eq_false_iff_not, ↓if_true, ↓if_false, ↓Bool.false_eq_true, reduceIte, reduceCtorEq, ↓List.length_cons, ↓List.length_nil, ↓true_and, ↓and_true, fr]
  apply s_isint
  try simp only [↓Dy.wSeq, ↓Dy.wNext, ↓Dy.sIf, ↓Dy.sRet, ↓Dy.sRetN, ↓Dy.sSet, ↓Dy.sAsg, ↓Dy.sExp, ↓Dy.wPar, ↓Dy.wPar3, ↓Dy.wSub, ↓Dy.yOp, ↓Dy.yUn, ↓Dy.yCmT, ↓Dy.yCh, ↓Dy.yChT, ↓Dy.yVal, ↓Dy.yNotT, ↓Dy.yAndT, ↓Dy.yOrT, ↓Dy.yAnd, ↓Dy.yOr, ↓Dy.yNot, ↓Dy.yIf, ↓Dy.yTup, ↓Dy.yLst, ↓Dy.yNum, ↓Dy.yBl, ↓Dy.yCall, ↓Dy.yRev, ↓Dy.wVar, ↓Dy.wC, ↓Dy.aNil, ↓Dy.aCons, ↓Dy.look, ↓Dy.onB, ↓Dy.onT, ↓Dy.bindT, ↓Dy.bindTs, ↓Dy.addD, ↓Dy.subD, ↓Dy.mulD, ↓Dy.fdivD, ↓Dy.modD, ↓Dy.powD, ↓Dy.negD, ↓Dy.ltD, ↓Dy.leD, ↓Dy.gtD, ↓Dy.geD, ↓Dy.eqD_int, ↓Dy.neD_int, ↓Dy.eqD_str, ↓Dy.neD_str, ↓Dy.eqD_p, ↓Dy.neD_p, ↓Dy.ix_p0, ↓Dy.ix_p1, ↓Dy.ix_t0, ↓Dy.ix_t1, ↓Dy.ix_t2, ↓Dy.isiC, ↓Dy.notTy, ↓Dy.tyn, ↓Dy.isiB, ↓Dy.lenC, ↓Dy.seqOf, ↓Dy.lstOf, ↓Dy.allC, ↓Dy.allB, ↓Dy.tupC, ↓Dy.lstC, ↓Dy.revD, ↓Dy.wLc, ↓Dy.lcD, ↓Dy.wiS, ↓Dy.seqF, ↓Dy.wYes, ↓Dy.wipeR, ↓Option.map_some, ↓Option.map_none, ↓Bool.not_true, ↓Bool.not_false, ↓Bool.and_true, ↓Bool.true_and, ↓Dy.absC, ↓Dy.intC, ↓Dy.maxC, ↓Dy.minC, ↓List.set_cons_zero, ↓List.set_cons_succ, ↓List.append_nil, ↓List.cons_append, ↓List.nil_append, ↓decide_eq_true_eq, ↓Bool.not_eq_true', ↓decide_eq_false_iff_not, ↓if_true, ↓if_false, ↓Bool.false_eq_true, reduceIte, reduceCtorEq, ↓List.length_cons, ↓List.length_nil, ↓true_and, ↓and_true]
  apply s_isint
  try simp only [↓Dy.wSeq, ↓Dy.wNext, ↓Dy.sIf, ↓Dy.sRet, ↓Dy.sRetN, ↓Dy.sSet, ↓Dy.sAsg, ↓Dy.sExp, ↓Dy.wPar, ↓Dy.wPar3, ↓Dy.wSub, ↓Dy.yOp, ↓Dy.yUn, ↓Dy.yCmT, ↓Dy.yCh, ↓Dy.yChT, ↓Dy.yVal, ↓Dy.yNotT, ↓Dy.yAndT, ↓Dy.yOrT, ↓Dy.yAnd, ↓Dy.yOr, ↓Dy.yNot, ↓Dy.yIf, ↓Dy.yTup, ↓Dy.yLst, ↓Dy.yNum, ↓Dy.yBl, ↓Dy.yCall, ↓Dy.yRev, ↓Dy.wVar, ↓Dy.wC, ↓Dy.aNil, ↓Dy.aCons, ↓Dy.look, ↓Dy.onB, ↓Dy.onT, ↓Dy.bindT, ↓Dy.bindTs, ↓Dy.addD, ↓Dy.subD, ↓Dy.mulD, ↓Dy.fdivD, ↓Dy.modD, ↓Dy.powD, ↓Dy.negD, ↓Dy.ltD, ↓Dy.leD, ↓Dy.gtD, ↓Dy.geD, ↓Dy.eqD_int, ↓Dy.neD_int, ↓Dy.eqD_str, ↓Dy.neD_str, ↓Dy.eqD_p, ↓Dy.neD_p, ↓Dy.ix_p0, ↓Dy.ix_p1, ↓Dy.ix_t0, ↓Dy.ix_t1, ↓Dy.ix_t2, ↓Dy.isiC, ↓Dy.notTy, ↓Dy.tyn, ↓Dy.isiB, ↓Dy.lenC, ↓Dy.seqOf, ↓Dy.lstOf, ↓Dy.allC, ↓Dy.allB, ↓Dy.tupC, ↓Dy.lstC, ↓Dy.revD, ↓Dy.wLc, ↓Dy.lcD, ↓Dy.wiS, ↓Dy.seqF, ↓Dy.wYes, ↓Dy.wipeR, ↓Option.map_some, ↓Option.map_none, ↓Bool.not_true, ↓Bool.not_false, ↓Bool.and_true, ↓Bool.true_and, ↓Dy.absC, ↓Dy.intC, ↓Dy.maxC, ↓Dy.minC, ↓List.set_cons_zero, ↓List.set_cons_succ, ↓List.append_nil, ↓List.cons_append, ↓List.nil_append, ↓decide_eq_true_eq, ↓Bool.not_eq_true', ↓decide_eq_false_iff_not, ↓if_true, ↓if_false, ↓Bool.false_eq_true, reduceIte, reduceCtorEq, ↓List.length_cons, ↓List.length_nil, ↓true_and, ↓and_true]
  have h1 : (1 : Int) ≤ (p.den : Nat) := by have := p.den_pos; omega
  rw [if_pos h1]
  apply s_cd
  try simp only [↓Dy.wSeq, ↓Dy.wNext, ↓Dy.sIf, ↓Dy.sRet, ↓Dy.sRetN, ↓Dy.sSet, ↓Dy.sAsg, ↓Dy.sExp, ↓Dy.wPar, ↓Dy.wPar3, ↓Dy.wSub, ↓Dy.yOp, ↓Dy.yUn, ↓Dy.yCmT, ↓Dy.yCh, ↓Dy.yChT, ↓Dy.yVal, ↓Dy.yNotT, ↓Dy.yAndT, ↓Dy.yOrT, ↓Dy.yAnd, ↓Dy.yOr, ↓Dy.yNot, ↓Dy.yIf, ↓Dy.yTup, ↓Dy.yLst, ↓Dy.yNum, ↓Dy.yBl, ↓Dy.yCall, ↓Dy.yRev, ↓Dy.wVar, ↓Dy.wC, ↓Dy.aNil, ↓Dy.aCons, ↓Dy.look, ↓Dy.onB, ↓Dy.onT, ↓Dy.bindT, ↓Dy.bindTs, ↓Dy.addD, ↓Dy.subD, ↓Dy.mulD, ↓Dy.fdivD, ↓Dy.modD, ↓Dy.powD, ↓Dy.negD, ↓Dy.ltD, ↓Dy.leD, ↓Dy.gtD, ↓Dy.geD, ↓Dy.eqD_int, ↓Dy.neD_int, ↓Dy.eqD_str, ↓Dy.neD_str, ↓Dy.eqD_p, ↓Dy.neD_p, ↓Dy.ix_p0, ↓Dy.ix_p1, ↓Dy.ix_t0, ↓Dy.ix_t1, ↓Dy.ix_t2, ↓Dy.isiC, ↓Dy.notTy, ↓Dy.tyn, ↓Dy.isiB, ↓Dy.lenC, ↓Dy.seqOf, ↓Dy.lstOf, ↓Dy.allC, ↓Dy.allB, ↓Dy.tupC, ↓Dy.lstC, ↓Dy.revD, ↓Dy.wLc, ↓Dy.lcD, ↓Dy.wiS, ↓Dy.seqF, ↓Dy.wYes, ↓Dy.wipeR, ↓Option.map_some, ↓Option.map_none, ↓Bool.not_true, ↓Bool.not_false, ↓Bool.and_true, ↓Bool.true_and, ↓Dy.absC, ↓Dy.intC, ↓Dy.maxC, ↓Dy.minC, ↓List.set_cons_zero, ↓List.set_cons_succ, ↓List.append_nil, ↓List.cons_append, ↓List.nil_append, ↓decide_eq_true_eq, ↓Bool.not_eq_true', ↓decide_eq_false_iff_not, ↓if_true, ↓if_false, ↓Bool.false_eq_true, reduceIte, reduceCtorEq, ↓List.length_cons, ↓List.length_nil, ↓true_and, ↓and_true]
  have h2 : Int.gcd p.num (p.den : Nat) = 1 := p.reduced
  rw [h2]
  simpa using q
theorem s_reqfr (p : Rat) (q : Q .non G) : Q_require_fraction [fr p] G Q := by
  unfold Q_require_fraction
  refine ⟨rfl, ?_⟩
  show W_require_fraction _ [some (fr p)] G
  unfold W_require_fraction
  try simp only [↓Dy.wSeq, ↓Dy.wNext, ↓Dy.sIf, ↓Dy.sRet, ↓Dy.sRetN, ↓Dy.sSet, ↓Dy.sAsg, ↓Dy.sExp, ↓Dy.wPar, ↓Dy.wPar3, ↓Dy.wSub, ↓Dy.yOp, ↓Dy.yUn, ↓Dy.yCmT, ↓Dy.yCh, ↓Dy.yChT, ↓Dy.yVal, ↓Dy.yNotT, ↓Dy.yAndT, ↓Dy.yOrT, ↓Dy.yAnd, ↓Dy.yOr, ↓Dy.yNot, ↓Dy.yIf, ↓Dy.yTup, ↓Dy.yLst, ↓Dy.yNum, ↓Dy.yBl, ↓Dy.yCall, ↓Dy.yRev, ↓Dy.wVar, ↓Dy.wC, ↓Dy.aNil, ↓Dy.aCons, ↓Dy.look, ↓Dy.onB, ↓Dy.onT, ↓Dy.bindT, ↓Dy.bindTs, ↓Dy.addD, ↓Dy.subD, ↓Dy.mulD, ↓Dy.fdivD, ↓Dy.modD, ↓Dy.powD, ↓Dy.negD, ↓Dy.ltD, ↓Dy.leD, ↓Dy.gtD, ↓Dy.geD, ↓Dy.eqD_int, ↓Dy.neD_int, ↓Dy.eqD_str, ↓Dy.neD_str, ↓Dy.eqD_p, ↓Dy.neD_p, ↓Dy.ix_p0, ↓Dy.ix_p1, ↓Dy.ix_t0, ↓Dy.ix_t1, ↓Dy.ix_t2, ↓Dy.isiC, ↓Dy.notTy, ↓Dy.tyn, ↓Dy.isiB, ↓Dy.lenC, ↓Dy.seqOf, ↓Dy.lstOf, ↓Dy.allC, ↓Dy.allB, ↓Dy.tupC, ↓Dy.lstC, ↓Dy.revD, ↓Dy.wLc, ↓Dy.lcD, ↓Dy.wiS, ↓Dy.seqF, ↓Dy.wYes, ↓Dy.wipeR, ↓Option.map_some, ↓Option.map_none, ↓Bool.not_true, ↓Bool.not_false, ↓Bool.and_true, ↓Bool.true_and, ↓Dy.absC, ↓Dy.intC, ↓Dy.maxC, ↓Dy.minC, ↓List.set_cons_zero, ↓List.set_cons_succ, ↓List.append_nil, ↓List.cons_append, ↓List.nil_append, ↓decide_eq_true_eq, ↓Bool.not_eq_true', ↓decide_eq_false_iff_not, ↓if_true, ↓if_false, ↓Bool.false_eq_true, reduceIte, reduceCtorEq, ↓List.length_cons, ↓List.length_nil, ↓true_and, ↓and_true]
  apply s_isfr
  try simp only [↓Dy.wSeq, ↓Dy.wNext, ↓Dy.sIf, ↓Dy.sRet, ↓Dy.sRetN, ↓Dy.sSet, ↓Dy.sAsg, ↓Dy.sExp, ↓Dy.wPar, ↓Dy.wPar3, ↓Dy.wSub, ↓Dy.yOp, ↓Dy.yUn, ↓Dy.yCmT, ↓Dy.yCh, ↓Dy.yChT, ↓Dy.yVal, ↓Dy.yNotT, ↓Dy.yAndT, ↓Dy.yOrT, ↓Dy.yAnd, ↓Dy.yOr, ↓Dy.yNot, ↓Dy.yIf, ↓Dy.yTup, ↓Dy.yLst, ↓Dy.yNum, ↓Dy.yBl, ↓Dy.yCall, ↓Dy.yRev, ↓Dy.wVar, ↓Dy.wC, ↓Dy.aNil, ↓Dy.aCons, ↓Dy.look, ↓Dy.onB, ↓Dy.onT, ↓Dy.bindT, ↓Dy.bindTs, ↓Dy.addD, ↓Dy.subD, ↓Dy.mulD, ↓Dy.fdivD, ↓Dy.modD, ↓Dy.powD, ↓Dy.negD, ↓Dy.ltD, ↓Dy.leD, ↓Dy.gtD, ↓Dy.geD, ↓Dy.eqD_int, ↓Dy.neD_int, ↓Dy.eqD_str, ↓Dy.neD_str, ↓Dy.eqD_p, ↓Dy.neD_p, ↓Dy.ix_p0, ↓Dy.ix_p1, ↓Dy.ix_t0, ↓Dy.ix_t1, ↓Dy.ix_t2, ↓Dy.isiC, ↓Dy.notTy, ↓Dy.tyn, ↓Dy.isiB, ↓Dy.lenC, ↓Dy.seqOf, ↓Dy.lstOf, ↓Dy.allC, ↓Dy.allB, ↓Dy.tupC, ↓Dy.lstC, ↓Dy.revD, ↓Dy.wLc, ↓Dy.lcD, ↓Dy.wiS, ↓Dy.seqF, ↓Dy.wYes, ↓Dy.wipeR, ↓Option.map_some, ↓Option.map_none, ↓Bool.not_true, ↓Bool.not_false, ↓Bool.and_true, ↓Bool.true_and, ↓Dy.absC, ↓Dy.intC, ↓Dy.maxC, ↓Dy.minC, ↓List.set_cons_zero, ↓List.set_cons_succ, ↓List.append_nil, ↓List.cons_append, ↓List.nil_append, ↓decide_eq_true_eq, ↓Bool.not_eq_true', ↓decide_eq_false_iff_not, ↓if_true, ↓if_false, ↓Bool.false_eq_true, reduceIte, reduceCtorEq, ↓List.length_cons, ↓List.length_nil, ↓true_and, ↓and_true]
  exact q
theorem den1 {p : Rat} (h : ((p.den : Nat) : Int) = 1) : p = (p.num : Rat) := by
  have e := Rat.num_divInt_den p
  rw [h, int_is] at e
  exact e.symm
theorem add1 {p q : Rat} (hp : ((p.den : Nat) : Int) = 1) (hq : ((q.den : Nat) : Int) = 1) : (p + q).num = p.num + q.num ∧ (((p + q).den : Nat) : Int) = 1 := by
  have e : p + q = ((p.num + q.num : Int) : Rat) := by
    rw [← add_is, hp, hq, Int.mul_one, Int.mul_one, Int.mul_one, int_is]
  rw [e]
  exact ⟨num_int _, by rw [den_int]; rfl⟩
theorem mul1 {p q : Rat} (hp : ((p.den : Nat) : Int) = 1) (hq : ((q.den : Nat) : Int) = 1) : (p * q).num = p.num * q.num ∧ (((p * q).den : Nat) : Int) = 1 := by
  have e : p * q = ((p.num * q.num : Int) : Rat) := by
    rw [← mul_is, hp, hq, Int.mul_one, int_is]
  rw [e]
  exact ⟨num_int _, by rw [den_int]; rfl⟩
theorem big {a b k : Nat} {x y : Int} (hx : x.natAbs < 2 ^ a) (hy : y.natAbs < 2 ^ b) (h : a + b ≤ k) : (x * y).natAbs < 2 ^ k := abs_up (abs_mul hx hy) h
theorem s_added {p q : Rat} {a b : Nat} (hp : Bd a p) (hq : Bd b q) (h : a + b ≤ 7000) (k : Q (fr (p + q)) G) : Q_added [fr p, fr q] G Q := by
  unfold Q_added
  refine ⟨rfl, ?_⟩
  have go : Q_reduced [.int (p.num * (q.den : Nat) + q.num * (p.den : Nat)), .int ((p.den : Nat) * (q.den : Nat))] G Q := by
    refine s_red _ _ (Int.mul_ne_zero (den_ne p) (den_ne q)) (abs_mul hp.den hq.den) (by omega) ?_
    rw [add_is]
    exact k
  have m1 : IntMulOk p.num (q.den : Nat) := mulOk hp.1 hq.den (by omega)
  have m2 : IntMulOk q.num (p.den : Nat) := mulOk hq.1 hp.den (by omega)
  have m3 : IntMulOk (p.den : Nat) (q.den : Nat) := mulOk hp.den hq.den (by omega)
  refine eq_i (i := (p.den : Nat)) (j := (q.den : Nat)) ?_
  by_cases h1 : ((p.den : Nat) : Int) = (q.den : Nat)
  · rw [decide_eq_true h1]
    refine eq_i (i := (q.den : Nat)) (j := 1) ?_
    by_cases h2 : ((q.den : Nat) : Int) = 1
    · rw [decide_eq_true h2]
      obtain ⟨e1, e2⟩ := add1 (h1.trans h2) h2
      refine ⟨sz2, ?_⟩
      show Q (.tup [.int (p.num + q.num), .int 1]) G
      rw [← e1, ← e2]
      exact k
    · rw [decide_eq_false h2]
      exact ⟨m1, m2, m3, go⟩
  · rw [decide_eq_false h1]
    exact ⟨m1, m2, m3, go⟩
theorem s_mult {p q : Rat} {a b : Nat} (hp : Bd a p) (hq : Bd b q) (h : a + b ≤ 7000) (k : Q (fr (p * q)) G) : Q_multiplied [fr p, fr q] G Q := by
  unfold Q_multiplied
  refine ⟨rfl, ?_⟩
  show W_multiplied _ [some (fr p), some (fr q)] G
  unfold W_multiplied
  try simp only [↓Dy.wSeq, ↓Dy.wNext, ↓Dy.sIf, ↓Dy.sRet, ↓Dy.sRetN, ↓Dy.sSet, ↓Dy.sAsg, ↓Dy.sExp, ↓Dy.wPar, ↓Dy.wPar3, ↓Dy.wSub, ↓Dy.yOp, ↓Dy.yUn, ↓Dy.yCmT, ↓Dy.yCh, ↓Dy.yChT, ↓Dy.yVal, ↓Dy.yNotT, ↓Dy.yAndT, ↓Dy.yOrT, ↓Dy.yAnd, ↓Dy.yOr, ↓Dy.yNot, ↓Dy.yIf, ↓Dy.yTup, ↓Dy.yLst, ↓Dy.yNum, ↓Dy.yBl, ↓Dy.yCall, ↓Dy.yRev, ↓Dy.wVar, ↓Dy.wC, ↓Dy.aNil, ↓Dy.aCons, ↓Dy.look, ↓Dy.onB, ↓Dy.onT, ↓Dy.bindT, ↓Dy.bindTs, ↓Dy.addD, ↓Dy.subD, ↓Dy.mulD, ↓Dy.fdivD, ↓Dy.modD, ↓Dy.powD, ↓Dy.negD, ↓Dy.ltD, ↓Dy.leD, ↓Dy.gtD, ↓Dy.geD, ↓Dy.eqD_int, ↓Dy.neD_int, ↓Dy.eqD_str, ↓Dy.neD_str, ↓Dy.eqD_p, ↓Dy.neD_p, ↓Dy.ix_p0, ↓Dy.ix_p1, ↓Dy.ix_t0, ↓Dy.ix_t1, ↓Dy.ix_t2, ↓Dy.isiC, ↓Dy.notTy, ↓Dy.tyn, ↓Dy.isiB, ↓Dy.lenC, ↓Dy.seqOf, ↓Dy.lstOf, ↓Dy.allC, ↓Dy.allB, ↓Dy.tupC, ↓Dy.lstC, ↓Dy.revD, ↓Dy.wLc, ↓Dy.lcD, ↓Dy.wiS, ↓Dy.seqF, ↓Dy.wYes, ↓Dy.wipeR, ↓Option.map_some, ↓Option.map_none, ↓Bool.not_true, ↓Bool.not_false, ↓Bool.and_true, ↓Bool.true_and, ↓Dy.absC, ↓Dy.intC, ↓Dy.maxC, ↓Dy.minC, ↓List.set_cons_zero, ↓List.set_cons_succ, ↓List.append_nil, ↓List.cons_append, ↓List.nil_append, ↓decide_eq_true_eq, ↓Bool.not_eq_true', ↓decide_eq_false_iff_not, ↓if_true, ↓if_false, ↓Bool.false_eq_true, reduceIte, reduceCtorEq, ↓List.length_cons, ↓List.length_nil, ↓true_and, ↓and_true, fr]
  have go : Q_reduced [.int (p.num * q.num), .int ((p.den : Nat) * (q.den : Nat))] G Q := by
    refine s_red _ _ (Int.mul_ne_zero (den_ne p) (den_ne q)) (abs_mul hp.den hq.den) (by omega) ?_
    rw [mul_is]
    exact k
  have m1 : IntMulOk p.num q.num := mulOk hp.1 hq.1 (by omega)
  have m2 : IntMulOk (p.den : Nat) (q.den : Nat) := mulOk hp.den hq.den (by omega)
  split
  · split
    · rename_i h1 h2
      obtain ⟨e1, e2⟩ := mul1 (h1.trans h2) h2
      refine ⟨m1, by decide, ?_⟩
      rw [← e1, ← e2]
      exact k
    · exact ⟨m1, m2, go⟩
  · exact ⟨m1, m2, go⟩
theorem s_opp (p : Rat) (k : Q (fr (-p)) G) : Q_opposite [fr p] G Q := by
  unfold Q_opposite
  refine ⟨rfl, ?_⟩
  show W_opposite _ [some (fr p)] G
  unfold W_opposite
  try simp only [↓Dy.wSeq, ↓Dy.wNext, ↓Dy.sIf, ↓Dy.sRet, ↓Dy.sRetN, ↓Dy.sSet, ↓Dy.sAsg, ↓Dy.sExp, ↓Dy.wPar, ↓Dy.wPar3, ↓Dy.wSub, ↓Dy.yOp, ↓Dy.yUn, ↓Dy.yCmT, ↓Dy.yCh, ↓Dy.yChT, ↓Dy.yVal, ↓Dy.yNotT, ↓Dy.yAndT, ↓Dy.yOrT, ↓Dy.yAnd, ↓Dy.yOr, ↓Dy.yNot, ↓Dy.yIf, ↓Dy.yTup, ↓Dy.yLst, ↓Dy.yNum, ↓Dy.yBl, ↓Dy.yCall, ↓Dy.yRev, ↓Dy.wVar, ↓Dy.wC, ↓Dy.aNil, ↓Dy.aCons, ↓Dy.look, ↓Dy.onB, ↓Dy.onT, ↓Dy.bindT, ↓Dy.bindTs, ↓Dy.addD, ↓Dy.subD, ↓Dy.mulD, ↓Dy.fdivD, ↓Dy.modD, ↓Dy.powD, ↓Dy.negD, ↓Dy.ltD, ↓Dy.leD, ↓Dy.gtD, ↓Dy.geD, ↓Dy.eqD_int, ↓Dy.neD_int, ↓Dy.eqD_str, ↓Dy.neD_str, ↓Dy.eqD_p, ↓Dy.neD_p, ↓Dy.ix_p0, ↓Dy.ix_p1, ↓Dy.ix_t0, ↓Dy.ix_t1, ↓Dy.ix_t2, ↓Dy.isiC, ↓Dy.notTy, ↓Dy.tyn, ↓Dy.isiB, ↓Dy.lenC, ↓Dy.seqOf, ↓Dy.lstOf, ↓Dy.allC, ↓Dy.allB, ↓Dy.tupC, ↓Dy.lstC, ↓Dy.revD, ↓Dy.wLc, ↓Dy.lcD, ↓Dy.wiS, ↓Dy.seqF, ↓Dy.wYes, ↓Dy.wipeR, ↓Option.map_some, ↓Option.map_none, ↓Bool.not_true, ↓Bool.not_false, ↓Bool.and_true, ↓Bool.true_and, ↓Dy.absC, ↓Dy.intC, ↓Dy.maxC, ↓Dy.minC, ↓List.set_cons_zero, ↓List.set_cons_succ, ↓List.append_nil, ↓List.cons_append, ↓List.nil_append, ↓decide_eq_true_eq, ↓Bool.not_eq_true', ↓decide_eq_false_iff_not, ↓if_true, ↓if_false, ↓Bool.false_eq_true, reduceIte, reduceCtorEq, ↓List.length_cons, ↓List.length_nil, ↓true_and, ↓and_true, fr]
  refine ⟨by decide, ?_⟩
  rw [Int.zero_sub]
  exact k
theorem s_divd {p q : Rat} {a b : Nat} (hp : Bd a p) (hq : Bd b q) (h : a + b ≤ 7000) (h0 : q ≠ 0) (k : Q (fr (p / q)) G) : Q_divided [fr p, fr q] G Q := by
  unfold Q_divided
  refine ⟨rfl, ?_⟩
  show W_divided _ [some (fr p), some (fr q)] G
  unfold W_divided
  try simp only [↓Dy.wSeq, ↓Dy.wNext, ↓Dy.sIf, ↓Dy.sRet, ↓Dy.sRetN, ↓Dy.sSet, ↓Dy.sAsg, ↓Dy.sExp, ↓Dy.wPar, ↓Dy.wPar3, ↓Dy.wSub, ↓Dy.yOp, ↓Dy.yUn, ↓Dy.yCmT, ↓Dy.yCh, ↓Dy.yChT, ↓Dy.yVal, ↓Dy.yNotT, ↓Dy.yAndT, ↓Dy.yOrT, ↓Dy.yAnd, ↓Dy.yOr, ↓Dy.yNot, ↓Dy.yIf, ↓Dy.yTup, ↓Dy.yLst, ↓Dy.yNum, ↓Dy.yBl, ↓Dy.yCall, ↓Dy.yRev, ↓Dy.wVar, ↓Dy.wC, ↓Dy.aNil, ↓Dy.aCons, ↓Dy.look, ↓Dy.onB, ↓Dy.onT, ↓Dy.bindT, ↓Dy.bindTs, ↓Dy.addD, ↓Dy.subD, ↓Dy.mulD, ↓Dy.fdivD, ↓Dy.modD, ↓Dy.powD, ↓Dy.negD, ↓Dy.ltD, ↓Dy.leD, ↓Dy.gtD, ↓Dy.geD, ↓Dy.eqD_int, ↓Dy.neD_int, ↓Dy.eqD_str, ↓Dy.neD_str, ↓Dy.eqD_p, ↓Dy.neD_p, ↓Dy.ix_p0, ↓Dy.ix_p1, ↓Dy.ix_t0, ↓Dy.ix_t1, ↓Dy.ix_t2, ↓Dy.isiC, ↓Dy.notTy, ↓Dy.tyn, ↓Dy.isiB, ↓Dy.lenC, ↓Dy.seqOf, ↓Dy.lstOf, ↓Dy.allC, ↓Dy.allB, ↓Dy.tupC, ↓Dy.lstC, ↓Dy.revD, ↓Dy.wLc, ↓Dy.lcD, ↓Dy.wiS, ↓Dy.seqF, ↓Dy.wYes, ↓Dy.wipeR, ↓Option.map_some, ↓Option.map_none, ↓Bool.not_true, ↓Bool.not_false, ↓Bool.and_true, ↓Bool.true_and, ↓Dy.absC, ↓Dy.intC, ↓Dy.maxC, ↓Dy.minC, ↓List.set_cons_zero, ↓List.set_cons_succ, ↓List.append_nil, ↓List.cons_append, ↓List.nil_append, ↓decide_eq_true_eq, ↓Bool.not_eq_true', ↓decide_eq_false_iff_not, ↓if_true, ↓if_false, ↓Bool.false_eq_true, reduceIte, reduceCtorEq, ↓List.length_cons, ↓List.length_nil, ↓true_and, ↓and_true, fr]
  refine ⟨mulOk hp.1 hq.den (by omega), mulOk hp.den hq.1 (by omega), ?_⟩
  refine s_red _ _ (Int.mul_ne_zero (den_ne p) (num_ne h0)) (abs_mul hp.den hq.1) (by omega) ?_
  rw [div_is]
  exact k
theorem Bd.neg {a : Nat} {p : Rat} (h : Bd a p) : Bd a (-p) := ⟨by rw [Rat.neg_num, Int.natAbs_neg]; exact h.1, h.2⟩
theorem s_plus {p q : Rat} {a b : Nat} (hp : Bd a p) (hq : Bd b q) (h : a + b ≤ 7000) (k : Q (fr (p + q)) G) : Q_plus [fr p, fr q] G Q := by
  unfold Q_plus
  refine ⟨rfl, ?_⟩
  show W_plus _ [some (fr p), some (fr q)] G
  unfold W_plus
  try simp only [↓Dy.wSeq, ↓Dy.wNext, ↓Dy.sIf, ↓Dy.sRet, ↓Dy.sRetN, ↓Dy.sSet, ↓Dy.sAsg, ↓Dy.sExp, ↓Dy.wPar, ↓Dy.wPar3, ↓Dy.wSub, ↓Dy.yOp, ↓Dy.yUn, ↓Dy.yCmT, ↓Dy.yCh, ↓Dy.yChT, ↓Dy.yVal, ↓Dy.yNotT, ↓Dy.yAndT, ↓Dy.yOrT, ↓Dy.yAnd, ↓Dy.yOr, ↓Dy.yNot, ↓Dy.yIf, ↓Dy.yTup, ↓Dy.yLst, ↓Dy.yNum, ↓Dy.yBl, ↓Dy.yCall, ↓Dy.yRev, ↓Dy.wVar, ↓Dy.wC, ↓Dy.aNil, ↓Dy.aCons, ↓Dy.look, ↓Dy.onB, ↓Dy.onT, ↓Dy.bindT, ↓Dy.bindTs, ↓Dy.addD, ↓Dy.subD, ↓Dy.mulD, ↓Dy.fdivD, ↓Dy.modD, ↓Dy.powD, ↓Dy.negD, ↓Dy.ltD, ↓Dy.leD, ↓Dy.gtD, ↓Dy.geD, ↓Dy.eqD_int, ↓Dy.neD_int, ↓Dy.eqD_str, ↓Dy.neD_str, ↓Dy.eqD_p, ↓Dy.neD_p, ↓Dy.ix_p0, ↓Dy.ix_p1, ↓Dy.ix_t0, ↓Dy.ix_t1, ↓Dy.ix_t2, ↓Dy.isiC, ↓Dy.notTy, ↓Dy.tyn, ↓Dy.isiB, ↓Dy.lenC, ↓Dy.seqOf, ↓Dy.lstOf, ↓Dy.allC, ↓Dy.allB, ↓Dy.tupC, ↓Dy.lstC, ↓Dy.revD, ↓Dy.wLc, ↓Dy.lcD, ↓Dy.wiS, ↓Dy.seqF, ↓Dy.wYes, ↓Dy.wipeR, ↓Option.map_some, ↓Option.map_none, ↓Bool.not_true, ↓Bool.not_false, ↓Bool.and_true, ↓Bool.true_and, ↓Dy.absC, ↓Dy.intC, ↓Dy.maxC, ↓Dy.minC, ↓List.set_cons_zero, ↓List.set_cons_succ, ↓List.append_nil, ↓List.cons_append, ↓List.nil_append, ↓decide_eq_true_eq, ↓Bool.not_eq_true', ↓decide_eq_false_iff_not, ↓if_true, ↓if_false, ↓Bool.false_eq_true, reduceIte, reduceCtorEq, ↓List.length_cons, ↓List.length_nil, ↓true_and, ↓and_true]
  apply s_reqfr
  try simp only [↓Dy.wSeq, ↓Dy.wNext, ↓Dy.sIf, ↓Dy.sRet, ↓Dy.sRetN, ↓Dy.sSet, ↓Dy.sAsg, ↓Dy.sExp, ↓Dy.wPar, ↓Dy.wPar3, ↓Dy.wSub, ↓Dy.yOp, ↓Dy.yUn, ↓Dy.yCmT, ↓Dy.yCh, ↓Dy.yChT, ↓Dy.yVal, ↓Dy.yNotT, ↓Dy.yAndT, ↓Dy.yOrT, ↓Dy.yAnd, ↓Dy.yOr, ↓Dy.yNot, ↓Dy.yIf, ↓Dy.yTup, ↓Dy.yLst, ↓Dy.yNum, ↓Dy.yBl, ↓Dy.yCall, ↓Dy.yRev, ↓Dy.wVar, ↓Dy.wC, ↓Dy.aNil, ↓Dy.aCons, ↓Dy.look, ↓Dy.onB, ↓Dy.onT, ↓Dy.bindT, ↓Dy.bindTs, ↓Dy.addD, ↓Dy.subD, ↓Dy.mulD, ↓Dy.fdivD, ↓Dy.modD, ↓Dy.powD, ↓Dy.negD, ↓Dy.ltD, ↓Dy.leD, ↓Dy.gtD, ↓Dy.geD, ↓Dy.eqD_int, ↓Dy.neD_int, ↓Dy.eqD_str, ↓Dy.neD_str, ↓Dy.eqD_p, ↓Dy.neD_p, ↓Dy.ix_p0, ↓Dy.ix_p1, ↓Dy.ix_t0, ↓Dy.ix_t1, ↓Dy.ix_t2, ↓Dy.isiC, ↓Dy.notTy, ↓Dy.tyn, ↓Dy.isiB, ↓Dy.lenC, ↓Dy.seqOf, ↓Dy.lstOf, ↓Dy.allC, ↓Dy.allB, ↓Dy.tupC, ↓Dy.lstC, ↓Dy.revD, ↓Dy.wLc, ↓Dy.lcD, ↓Dy.wiS, ↓Dy.seqF, ↓Dy.wYes, ↓Dy.wipeR, ↓Option.map_some, ↓Option.map_none, ↓Bool.not_true, ↓Bool.not_false, ↓Bool.and_true, ↓Bool.true_and, ↓Dy.absC, ↓Dy.intC, ↓Dy.maxC, ↓Dy.minC, ↓List.set_cons_zero, ↓List.set_cons_succ, ↓List.append_nil, ↓List.cons_append, ↓List.nil_append, ↓decide_eq_true_eq, ↓Bool.not_eq_true', ↓decide_eq_false_iff_not, ↓if_true, ↓if_false, ↓Bool.false_eq_true, reduceIte, reduceCtorEq, ↓List.length_cons, ↓List.length_nil, ↓true_and, ↓and_true]
  apply s_reqfr
  try simp only [↓Dy.wSeq, ↓Dy.wNext, ↓Dy.sIf, ↓Dy.sRet, ↓Dy.sRetN, ↓Dy.sSet, ↓Dy.sAsg, ↓Dy.sExp, ↓Dy.wPar, ↓Dy.wPar3, ↓Dy.wSub, ↓Dy.yOp, ↓Dy.yUn, ↓Dy.yCmT, ↓Dy.yCh, ↓Dy.yChT, ↓Dy.yVal, ↓Dy.yNotT, ↓Dy.yAndT, ↓Dy.yOrT, ↓Dy.yAnd, ↓Dy.yOr, ↓Dy.yNot, ↓Dy.yIf, ↓Dy.yTup, ↓Dy.yLst, ↓Dy.yNum, ↓Dy.yBl, ↓Dy.yCall, ↓Dy.yRev, ↓Dy.wVar, ↓Dy.wC, ↓Dy.aNil, ↓Dy.aCons, ↓Dy.look, ↓Dy.onB, ↓Dy.onT, ↓Dy.bindT, ↓Dy.bindTs, ↓Dy.addD, ↓Dy.subD, ↓Dy.mulD, ↓Dy.fdivD, ↓Dy.modD, ↓Dy.powD, ↓Dy.negD, ↓Dy.ltD, ↓Dy.leD, ↓Dy.gtD, ↓Dy.geD, ↓Dy.eqD_int, ↓Dy.neD_int, ↓Dy.eqD_str, ↓Dy.neD_str, ↓Dy.eqD_p, ↓Dy.neD_p, ↓Dy.ix_p0, ↓Dy.ix_p1, ↓Dy.ix_t0, ↓Dy.ix_t1, ↓Dy.ix_t2, ↓Dy.isiC, ↓Dy.notTy, ↓Dy.tyn, ↓Dy.isiB, ↓Dy.lenC, ↓Dy.seqOf, ↓Dy.lstOf, ↓Dy.allC, ↓Dy.allB, ↓Dy.tupC, ↓Dy.lstC, ↓Dy.revD, ↓Dy.wLc, ↓Dy.lcD, ↓Dy.wiS, ↓Dy.seqF, ↓Dy.wYes, ↓Dy.wipeR, ↓Option.map_some, ↓Option.map_none, ↓Bool.not_true, ↓Bool.not_false, ↓Bool.and_true, ↓Bool.true_and, ↓Dy.absC, ↓Dy.intC, ↓Dy.maxC, ↓Dy.minC, ↓List.set_cons_zero, ↓List.set_cons_succ, ↓List.append_nil, ↓List.cons_append, ↓List.nil_append, ↓decide_eq_true_eq, ↓Bool.not_eq_true', ↓decide_eq_false_iff_not, ↓if_true, ↓if_false, ↓Bool.false_eq_true, reduceIte, reduceCtorEq, ↓List.length_cons, ↓List.length_nil, ↓true_and, ↓and_true]
  exact s_added hp hq h k
theorem s_minus {p q : Rat} {a b : Nat} (hp : Bd a p) (hq : Bd b q) (h : a + b ≤ 7000) (k : Q (fr (p - q)) G) : Q_minus [fr p, fr q] G Q := by
  unfold Q_minus
  refine ⟨rfl, ?_⟩
  show W_minus _ [some (fr p), some (fr q)] G
  unfold W_minus
  try simp only [↓Dy.wSeq, ↓Dy.wNext, ↓Dy.sIf, ↓Dy.sRet, ↓Dy.sRetN, ↓Dy.sSet, ↓Dy.sAsg, ↓Dy.sExp, ↓Dy.wPar, ↓Dy.wPar3, ↓Dy.wSub, ↓Dy.yOp, ↓Dy.yUn, ↓Dy.yCmT, ↓Dy.yCh, ↓Dy.yChT, ↓Dy.yVal, ↓Dy.yNotT, ↓Dy.yAndT, ↓Dy.yOrT, ↓Dy.yAnd, ↓Dy.yOr, ↓Dy.yNot, ↓Dy.yIf, ↓Dy.yTup, ↓Dy.yLst, ↓Dy.yNum, ↓Dy.yBl, ↓Dy.yCall, ↓Dy.yRev, ↓Dy.wVar, ↓Dy.wC, ↓Dy.aNil, ↓Dy.aCons, ↓Dy.look, ↓Dy.onB, ↓Dy.onT, ↓Dy.bindT, ↓Dy.bindTs, ↓Dy.addD, ↓Dy.subD, ↓Dy.mulD, ↓Dy.fdivD, ↓Dy.modD, ↓Dy.powD, ↓Dy.negD, ↓Dy.ltD, ↓Dy.leD, ↓Dy.gtD, ↓Dy.geD, ↓Dy.eqD_int, ↓Dy.neD_int, ↓Dy.eqD_str, ↓Dy.neD_str, ↓Dy.eqD_p, ↓Dy.neD_p, ↓Dy.ix_p0, ↓Dy.ix_p1, ↓Dy.ix_t0, ↓Dy.ix_t1, ↓Dy.ix_t2, ↓Dy.isiC, ↓Dy.notTy, ↓Dy.tyn, ↓Dy.isiB, ↓Dy.lenC, ↓Dy.seqOf, ↓Dy.lstOf, ↓Dy.allC, ↓Dy.allB, ↓Dy.tupC, ↓Dy.lstC, ↓Dy.revD, ↓Dy.wLc, ↓Dy.lcD, ↓Dy.wiS, ↓Dy.seqF, ↓Dy.wYes, ↓Dy.wipeR, ↓Option.map_some, ↓Option.map_none, ↓Bool.not_true, ↓Bool.not_false, ↓Bool.and_true, ↓Bool.true_and, ↓Dy.absC, ↓Dy.intC, ↓Dy.maxC, ↓Dy.minC, ↓List.set_cons_zero, ↓List.set_cons_succ, ↓List.append_nil, ↓List.cons_append, ↓List.nil_append, ↓decide_eq_true_eq, ↓Bool.not_eq_true', ↓decide_eq_false_iff_not, ↓if_true, ↓if_false, ↓Bool.false_eq_true, reduceIte, reduceCtorEq, ↓List.length_cons, ↓List.length_nil, ↓true_and, ↓and_true]
  apply s_reqfr
  try simp only [↓Dy.wSeq, ↓Dy.wNext, ↓Dy.sIf, ↓Dy.sRet, ↓Dy.sRetN, ↓Dy.sSet, ↓Dy.sAsg, ↓Dy.sExp, ↓Dy.wPar, ↓Dy.wPar3, ↓Dy.wSub, ↓Dy.yOp, ↓Dy.yUn, ↓Dy.yCmT, ↓Dy.yCh, ↓Dy.yChT, ↓Dy.yVal, ↓Dy.yNotT, ↓Dy.yAndT, ↓Dy.yOrT, ↓Dy.yAnd, ↓Dy.yOr, ↓Dy.yNot, ↓Dy.yIf, ↓Dy.yTup, ↓Dy.yLst, ↓Dy.yNum, ↓Dy.yBl, ↓Dy.yCall, ↓Dy.yRev, ↓Dy.wVar, ↓Dy.wC, ↓Dy.aNil, ↓Dy.aCons, ↓Dy.look, ↓Dy.onB, ↓Dy.onT, ↓Dy.bindT, ↓Dy.bindTs, ↓Dy.addD, ↓Dy.subD, ↓Dy.mulD, ↓Dy.fdivD, ↓Dy.modD, ↓Dy.powD, ↓Dy.negD, ↓Dy.ltD, ↓Dy.leD, ↓Dy.gtD, ↓Dy.geD, ↓Dy.eqD_int, ↓Dy.neD_int, ↓Dy.eqD_str, ↓Dy.neD_str, ↓Dy.eqD_p, ↓Dy.neD_p, ↓Dy.ix_p0, ↓Dy.ix_p1, ↓Dy.ix_t0, ↓Dy.ix_t1, ↓Dy.ix_t2, ↓Dy.isiC, ↓Dy.notTy, ↓Dy.tyn, ↓Dy.isiB, ↓Dy.lenC, ↓Dy.seqOf, ↓Dy.lstOf, ↓Dy.allC, ↓Dy.allB, ↓Dy.tupC, ↓Dy.lstC, ↓Dy.revD, ↓Dy.wLc, ↓Dy.lcD, ↓Dy.wiS, ↓Dy.seqF, ↓Dy.wYes, ↓Dy.wipeR, ↓Option.map_some, ↓Option.map_none, ↓Bool.not_true, ↓Bool.not_false, ↓Bool.and_true, ↓Bool.true_and, ↓Dy.absC, ↓Dy.intC, ↓Dy.maxC, ↓Dy.minC, ↓List.set_cons_zero, ↓List.set_cons_succ, ↓List.append_nil, ↓List.cons_append, ↓List.nil_append, ↓decide_eq_true_eq, ↓Bool.not_eq_true', ↓decide_eq_false_iff_not, ↓if_true, ↓if_false, ↓Bool.false_eq_true, reduceIte, reduceCtorEq, ↓List.length_cons, ↓List.length_nil, ↓true_and, ↓and_true]
  apply s_reqfr
  try simp only [↓Dy.wSeq, ↓Dy.wNext, ↓Dy.sIf, ↓Dy.sRet, ↓Dy.sRetN, ↓Dy.sSet, ↓Dy.sAsg, ↓Dy.sExp, ↓Dy.wPar, ↓Dy.wPar3, ↓Dy.wSub, ↓Dy.yOp, ↓Dy.yUn, ↓Dy.yCmT, ↓Dy.yCh, ↓Dy.yChT, ↓Dy.yVal, ↓Dy.yNotT, ↓Dy.yAndT, ↓Dy.yOrT, ↓Dy.yAnd, ↓Dy.yOr, ↓Dy.yNot, ↓Dy.yIf, ↓Dy.yTup, ↓Dy.yLst, ↓Dy.yNum, ↓Dy.yBl, ↓Dy.yCall, ↓Dy.yRev, ↓Dy.wVar, ↓Dy.wC, ↓Dy.aNil, ↓Dy.aCons, ↓Dy.look, ↓Dy.onB, ↓Dy.onT, ↓Dy.bindT, ↓Dy.bindTs, ↓Dy.addD, ↓Dy.subD, ↓Dy.mulD, ↓Dy.fdivD, ↓Dy.modD, ↓Dy.powD, ↓Dy.negD, ↓Dy.ltD, ↓Dy.leD, ↓Dy.gtD, ↓Dy.geD, ↓Dy.eqD_int, ↓Dy.neD_int, ↓Dy.eqD_str, ↓Dy.neD_str, ↓Dy.eqD_p, ↓Dy.neD_p, ↓Dy.ix_p0, ↓Dy.ix_p1, ↓Dy.ix_t0, ↓Dy.ix_t1, ↓Dy.ix_t2, ↓Dy.isiC, ↓Dy.notTy, ↓Dy.tyn, ↓Dy.isiB, ↓Dy.lenC, ↓Dy.seqOf, ↓Dy.lstOf, ↓Dy.allC, ↓Dy.allB, ↓Dy.tupC, ↓Dy.lstC, ↓Dy.revD, ↓Dy.wLc, ↓Dy.lcD, ↓Dy.wiS, ↓Dy.seqF, ↓Dy.wYes, ↓Dy.wipeR, ↓Option.map_some, ↓Option.map_none, ↓Bool.not_true, ↓Bool.not_false, ↓Bool.and_true, ↓Bool.true_and, ↓Dy.absC, ↓Dy.intC, ↓Dy.maxC, ↓Dy.minC, ↓List.set_cons_zero, ↓List.set_cons_succ, ↓List.append_nil, ↓List.cons_append, ↓List.nil_append, ↓decide_eq_true_eq, ↓Bool.not_eq_true', ↓decide_eq_false_iff_not, ↓if_true, ↓if_false, ↓Bool.false_eq_true, reduceIte, reduceCtorEq, ↓List.length_cons, ↓List.length_nil, ↓true_and, ↓and_true]
  apply s_opp
  try simp only [↓Dy.wSeq, ↓Dy.wNext, ↓Dy.sIf, ↓Dy.sRet, ↓Dy.sRetN, ↓Dy.sSet, ↓Dy.sAsg, ↓Dy.sExp, ↓Dy.wPar, ↓Dy.wPar3, ↓Dy.wSub, ↓Dy.yOp, ↓Dy.yUn, ↓Dy.yCmT, ↓Dy.yCh, ↓Dy.yChT, ↓Dy.yVal, ↓Dy.yNotT, ↓Dy.yAndT, ↓Dy.yOrT, ↓Dy.yAnd, ↓Dy.yOr, ↓Dy.yNot, ↓Dy.yIf, ↓Dy.yTup, ↓Dy.yLst, ↓Dy.yNum, ↓Dy.yBl, ↓Dy.yCall, ↓Dy.yRev, ↓Dy.wVar, ↓Dy.wC, ↓Dy.aNil, ↓Dy.aCons, ↓Dy.look, ↓Dy.onB, ↓Dy.onT, ↓Dy.bindT, ↓Dy.bindTs, ↓Dy.addD, ↓Dy.subD, ↓Dy.mulD, ↓Dy.fdivD, ↓Dy.modD, ↓Dy.powD, ↓Dy.negD, ↓Dy.ltD, ↓Dy.leD, ↓Dy.gtD, ↓Dy.geD, ↓Dy.eqD_int, ↓Dy.neD_int, ↓Dy.eqD_str, ↓Dy.neD_str, ↓Dy.eqD_p, ↓Dy.neD_p, ↓Dy.ix_p0, ↓Dy.ix_p1, ↓Dy.ix_t0, ↓Dy.ix_t1, ↓Dy.ix_t2, ↓Dy.isiC, ↓Dy.notTy, ↓Dy.tyn, ↓Dy.isiB, ↓Dy.lenC, ↓Dy.seqOf, ↓Dy.lstOf, ↓Dy.allC, ↓Dy.allB, ↓Dy.tupC, ↓Dy.lstC, ↓Dy.revD, ↓Dy.wLc, ↓Dy.lcD, ↓Dy.wiS, ↓Dy.seqF, ↓Dy.wYes, ↓Dy.wipeR, ↓Option.map_some, ↓Option.map_none, ↓Bool.not_true, ↓Bool.not_false, ↓Bool.and_true, ↓Bool.true_and, ↓Dy.absC, ↓Dy.intC, ↓Dy.maxC, ↓Dy.minC, ↓List.set_cons_zero, ↓List.set_cons_succ, ↓List.append_nil, ↓List.cons_append, ↓List.nil_append, ↓decide_eq_true_eq, ↓Bool.not_eq_true', ↓decide_eq_false_iff_not, ↓if_true, ↓if_false, ↓Bool.false_eq_true, reduceIte, reduceCtorEq, ↓List.length_cons, ↓List.length_nil, ↓true_and, ↓and_true]
  refine s_added hp (Bd.neg hq) h ?_
  rw [← Rat.sub_eq_add_neg]
  exact k
theorem s_times {p q : Rat} {a b : Nat} (hp : Bd a p) (hq : Bd b q) (h : a + b ≤ 7000) (k : Q (fr (p * q)) G) : Q_times [fr p, fr q] G Q := by
  unfold Q_times
  refine ⟨rfl, ?_⟩
  show W_times _ [some (fr p), some (fr q)] G
  unfold W_times
  try simp only [↓Dy.wSeq, ↓Dy.wNext, ↓Dy.sIf, ↓Dy.sRet, ↓Dy.sRetN, ↓Dy.sSet, ↓Dy.sAsg, ↓Dy.sExp, ↓Dy.wPar, ↓Dy.wPar3, ↓Dy.wSub, ↓Dy.yOp, ↓Dy.yUn, ↓Dy.yCmT, ↓Dy.yCh, ↓Dy.yChT, ↓Dy.yVal, ↓Dy.yNotT, ↓Dy.yAndT, ↓Dy.yOrT, ↓Dy.yAnd, ↓Dy.yOr, ↓Dy.yNot, ↓Dy.yIf, ↓Dy.yTup, ↓Dy.yLst, ↓Dy.yNum, ↓Dy.yBl, ↓Dy.yCall, ↓Dy.yRev, ↓Dy.wVar, ↓Dy.wC, ↓Dy.aNil, ↓Dy.aCons, ↓Dy.look, ↓Dy.onB, ↓Dy.onT, ↓Dy.bindT, ↓Dy.bindTs, ↓Dy.addD, ↓Dy.subD, ↓Dy.mulD, ↓Dy.fdivD, ↓Dy.modD, ↓Dy.powD, ↓Dy.negD, ↓Dy.ltD, ↓Dy.leD, ↓Dy.gtD, ↓Dy.geD, ↓Dy.eqD_int, ↓Dy.neD_int, ↓Dy.eqD_str, ↓Dy.neD_str, ↓Dy.eqD_p, ↓Dy.neD_p, ↓Dy.ix_p0, ↓Dy.ix_p1, ↓Dy.ix_t0, ↓Dy.ix_t1, ↓Dy.ix_t2, ↓Dy.isiC, ↓Dy.notTy, ↓Dy.tyn, ↓Dy.isiB, ↓Dy.lenC, ↓Dy.seqOf, ↓Dy.lstOf, ↓Dy.allC, ↓Dy.allB, ↓Dy.tupC, ↓Dy.lstC, ↓Dy.revD, ↓Dy.wLc, ↓Dy.lcD, ↓Dy.wiS, ↓Dy.seqF, ↓Dy.wYes, ↓Dy.wipeR, ↓Option.map_some, ↓Option.map_none, ↓Bool.not_true, ↓Bool.not_false, ↓Bool.and_true, ↓Bool.true_and, ↓Dy.absC, ↓Dy.intC, ↓Dy.maxC, ↓Dy.minC, ↓List.set_cons_zero, ↓List.set_cons_succ, ↓List.append_nil, ↓List.cons_append, ↓List.nil_append, ↓decide_eq_true_eq, ↓Bool.not_eq_true', ↓decide_eq_false_iff_not, ↓if_true, ↓if_false, ↓Bool.false_eq_true, reduceIte, reduceCtorEq, ↓List.length_cons, ↓List.length_nil, ↓true_and, ↓and_true]
  apply s_reqfr
  try simp only [↓Dy.wSeq, ↓Dy.wNext, ↓Dy.sIf, ↓Dy.sRet, ↓Dy.sRetN, ↓Dy.sSet, ↓Dy.sAsg, ↓Dy.sExp, ↓Dy.wPar, ↓Dy.wPar3, ↓Dy.wSub, ↓Dy.yOp, ↓Dy.yUn, ↓Dy.yCmT, ↓Dy.yCh, ↓Dy.yChT, ↓Dy.yVal, ↓Dy.yNotT, ↓Dy.yAndT, ↓Dy.yOrT, ↓Dy.yAnd, ↓Dy.yOr, ↓Dy.yNot, ↓Dy.yIf, ↓Dy.yTup, ↓Dy.yLst, ↓Dy.yNum, ↓Dy.yBl, ↓Dy.yCall, ↓Dy.yRev, ↓Dy.wVar, ↓Dy.wC, ↓Dy.aNil, ↓Dy.aCons, ↓Dy.look, ↓Dy.onB, ↓Dy.onT, ↓Dy.bindT, ↓Dy.bindTs, ↓Dy.addD, ↓Dy.subD, ↓Dy.mulD, ↓Dy.fdivD, ↓Dy.modD, ↓Dy.powD, ↓Dy.negD, ↓Dy.ltD, ↓Dy.leD, ↓Dy.gtD, ↓Dy.geD, ↓Dy.eqD_int, ↓Dy.neD_int, ↓Dy.eqD_str, ↓Dy.neD_str, ↓Dy.eqD_p, ↓Dy.neD_p, ↓Dy.ix_p0, ↓Dy.ix_p1, ↓Dy.ix_t0, ↓Dy.ix_t1, ↓Dy.ix_t2, ↓Dy.isiC, ↓Dy.notTy, ↓Dy.tyn, ↓Dy.isiB, ↓Dy.lenC, ↓Dy.seqOf, ↓Dy.lstOf, ↓Dy.allC, ↓Dy.allB, ↓Dy.tupC, ↓Dy.lstC, ↓Dy.revD, ↓Dy.wLc, ↓Dy.lcD, ↓Dy.wiS, ↓Dy.seqF, ↓Dy.wYes, ↓Dy.wipeR, ↓Option.map_some, ↓Option.map_none, ↓Bool.not_true, ↓Bool.not_false, ↓Bool.and_true, ↓Bool.true_and, ↓Dy.absC, ↓Dy.intC, ↓Dy.maxC, ↓Dy.minC, ↓List.set_cons_zero, ↓List.set_cons_succ, ↓List.append_nil, ↓List.cons_append, ↓List.nil_append, ↓decide_eq_true_eq, ↓Bool.not_eq_true', ↓decide_eq_false_iff_not, ↓if_true, ↓if_false, ↓Bool.false_eq_true, reduceIte, reduceCtorEq, ↓List.length_cons, ↓List.length_nil, ↓true_and, ↓and_true]
  apply s_reqfr
  try simp only [↓Dy.wSeq, ↓Dy.wNext, ↓Dy.sIf, ↓Dy.sRet, ↓Dy.sRetN, ↓Dy.sSet, ↓Dy.sAsg, ↓Dy.sExp, ↓Dy.wPar, ↓Dy.wPar3, ↓Dy.wSub, ↓Dy.yOp, ↓Dy.yUn, ↓Dy.yCmT, ↓Dy.yCh, ↓Dy.yChT, ↓Dy.yVal, ↓Dy.yNotT, ↓Dy.yAndT, ↓Dy.yOrT, ↓Dy.yAnd, ↓Dy.yOr, ↓Dy.yNot, ↓Dy.yIf, ↓Dy.yTup, ↓Dy.yLst, ↓Dy.yNum, ↓Dy.yBl, ↓Dy.yCall, ↓Dy.yRev, ↓Dy.wVar, ↓Dy.wC, ↓Dy.aNil, ↓Dy.aCons, ↓Dy.look, ↓Dy.onB, ↓Dy.onT, ↓Dy.bindT, ↓Dy.bindTs, ↓Dy.addD, ↓Dy.subD, ↓Dy.mulD, ↓Dy.fdivD, ↓Dy.modD, ↓Dy.powD, ↓Dy.negD, ↓Dy.ltD, ↓Dy.leD, ↓Dy.gtD, ↓Dy.geD, ↓Dy.eqD_int, ↓Dy.neD_int, ↓Dy.eqD_str, ↓Dy.neD_str, ↓Dy.eqD_p, ↓Dy.neD_p, ↓Dy.ix_p0, ↓Dy.ix_p1, ↓Dy.ix_t0, ↓Dy.ix_t1, ↓Dy.ix_t2, ↓Dy.isiC, ↓Dy.notTy, ↓Dy.tyn, ↓Dy.isiB, ↓Dy.lenC, ↓Dy.seqOf, ↓Dy.lstOf, ↓Dy.allC, ↓Dy.allB, ↓Dy.tupC, ↓Dy.lstC, ↓Dy.revD, ↓Dy.wLc, ↓Dy.lcD, ↓Dy.wiS, ↓Dy.seqF, ↓Dy.wYes, ↓Dy.wipeR, ↓Option.map_some, ↓Option.map_none, ↓Bool.not_true, ↓Bool.not_false, ↓Bool.and_true, ↓Bool.true_and, ↓Dy.absC, ↓Dy.intC, ↓Dy.maxC, ↓Dy.minC, ↓List.set_cons_zero, ↓List.set_cons_succ, ↓List.append_nil, ↓List.cons_append, ↓List.nil_append, ↓decide_eq_true_eq, ↓Bool.not_eq_true', ↓decide_eq_false_iff_not, ↓if_true, ↓if_false, ↓Bool.false_eq_true, reduceIte, reduceCtorEq, ↓List.length_cons, ↓List.length_nil, ↓true_and, ↓and_true]
  exact s_mult hp hq h k
theorem s_over {p q : Rat} {a b : Nat} (hp : Bd a p) (hq : Bd b q) (h : a + b ≤ 7000) (h0 : q ≠ 0) (k : Q (fr (p / q)) G) : Q_over [fr p, fr q] G Q := by
  unfold Q_over
  refine ⟨rfl, ?_⟩
  show W_over _ [some (fr p), some (fr q)] G
  unfold W_over
  try simp only [↓Dy.wSeq, ↓Dy.wNext, ↓Dy.sIf, ↓Dy.sRet, ↓Dy.sRetN, ↓Dy.sSet, ↓Dy.sAsg, ↓Dy.sExp, ↓Dy.wPar, ↓Dy.wPar3, ↓Dy.wSub, ↓Dy.yOp, ↓Dy.yUn, ↓Dy.yCmT, ↓Dy.yCh, ↓Dy.yChT, ↓Dy.yVal, ↓Dy.yNotT, ↓Dy.yAndT, ↓Dy.yOrT, ↓Dy.yAnd, ↓Dy.yOr, ↓Dy.yNot, ↓Dy.yIf, ↓Dy.yTup, ↓Dy.yLst, ↓Dy.yNum, ↓Dy.yBl, ↓Dy.yCall, ↓Dy.yRev, ↓Dy.wVar, ↓Dy.wC, ↓Dy.aNil, ↓Dy.aCons, ↓Dy.look, ↓Dy.onB, ↓Dy.onT, ↓Dy.bindT, ↓Dy.bindTs, ↓Dy.addD, ↓Dy.subD, ↓Dy.mulD, ↓Dy.fdivD, ↓Dy.modD, ↓Dy.powD, ↓Dy.negD, ↓Dy.ltD, ↓Dy.leD, ↓Dy.gtD, ↓Dy.geD, ↓Dy.eqD_int, ↓Dy.neD_int, ↓Dy.eqD_str, ↓Dy.neD_str, ↓Dy.eqD_p, ↓Dy.neD_p, ↓Dy.ix_p0, ↓Dy.ix_p1, ↓Dy.ix_t0, ↓Dy.ix_t1, ↓Dy.ix_t2, ↓Dy.isiC, ↓Dy.notTy, ↓Dy.tyn, ↓Dy.isiB, ↓Dy.lenC, ↓Dy.seqOf, ↓Dy.lstOf, ↓Dy.allC, ↓Dy.allB, ↓Dy.tupC, ↓Dy.lstC, ↓Dy.revD, ↓Dy.wLc, ↓Dy.lcD, ↓Dy.wiS, ↓Dy.seqF, ↓Dy.wYes, ↓Dy.wipeR, ↓Option.map_some, ↓Option.map_none, ↓Bool.not_true, ↓Bool.not_false, ↓Bool.and_true, ↓Bool.true_and, ↓Dy.absC, ↓Dy.intC, ↓Dy.maxC, ↓Dy.minC, ↓List.set_cons_zero, ↓List.set_cons_succ, ↓List.append_nil, ↓List.cons_append, ↓List.nil_append, ↓decide_eq_true_eq, ↓Bool.not_eq_true', ↓decide_eq_false_iff_not, ↓if_true, ↓if_false, ↓Bool.false_eq_true, reduceIte, reduceCtorEq, ↓List.length_cons, ↓List.length_nil, ↓true_and, ↓and_true]
  apply s_reqfr
  try simp only [↓Dy.wSeq, ↓Dy.wNext, ↓Dy.sIf, ↓Dy.sRet, ↓Dy.sRetN, ↓Dy.sSet, ↓Dy.sAsg, ↓Dy.sExp, ↓Dy.wPar, ↓Dy.wPar3, ↓Dy.wSub, ↓Dy.yOp, ↓Dy.yUn, ↓Dy.yCmT, ↓Dy.yCh, ↓Dy.yChT, ↓Dy.yVal, ↓Dy.yNotT, ↓Dy.yAndT, ↓Dy.yOrT, ↓Dy.yAnd, ↓Dy.yOr, ↓Dy.yNot, ↓Dy.yIf, ↓Dy.yTup, ↓Dy.yLst, ↓Dy.yNum, ↓Dy.yBl, ↓Dy.yCall, ↓Dy.yRev, ↓Dy.wVar, ↓Dy.wC, ↓Dy.aNil, ↓Dy.aCons, ↓Dy.look, ↓Dy.onB, ↓Dy.onT, ↓Dy.bindT, ↓Dy.bindTs, ↓Dy.addD, ↓Dy.subD, ↓Dy.mulD, ↓Dy.fdivD, ↓Dy.modD, ↓Dy.powD, ↓Dy.negD, ↓Dy.ltD, ↓Dy.leD, ↓Dy.gtD, ↓Dy.geD, ↓Dy.eqD_int, ↓Dy.neD_int, ↓Dy.eqD_str, ↓Dy.neD_str, ↓Dy.eqD_p, ↓Dy.neD_p, ↓Dy.ix_p0, ↓Dy.ix_p1, ↓Dy.ix_t0, ↓Dy.ix_t1, ↓Dy.ix_t2, ↓Dy.isiC, ↓Dy.notTy, ↓Dy.tyn, ↓Dy.isiB, ↓Dy.lenC, ↓Dy.seqOf, ↓Dy.lstOf, ↓Dy.allC, ↓Dy.allB, ↓Dy.tupC, ↓Dy.lstC, ↓Dy.revD, ↓Dy.wLc, ↓Dy.lcD, ↓Dy.wiS, ↓Dy.seqF, ↓Dy.wYes, ↓Dy.wipeR, ↓Option.map_some, ↓Option.map_none, ↓Bool.not_true, ↓Bool.not_false, ↓Bool.and_true, ↓Bool.true_and, ↓Dy.absC, ↓Dy.intC, ↓Dy.maxC, ↓Dy.minC, ↓List.set_cons_zero, ↓List.set_cons_succ, ↓List.append_nil, ↓List.cons_append, ↓List.nil_append, ↓decide_eq_true_eq, ↓Bool.not_eq_true', ↓decide_eq_false_iff_not, ↓if_true, ↓if_false, ↓Bool.false_eq_true, reduceIte, reduceCtorEq, ↓List.length_cons, ↓List.length_nil, ↓true_and, ↓and_true]
  apply s_reqfr
  try simp only [↓Dy.wSeq, ↓Dy.wNext, ↓Dy.sIf, ↓Dy.sRet, ↓Dy.sRetN, ↓Dy.sSet, ↓Dy.sAsg, ↓Dy.sExp, ↓Dy.wPar, ↓Dy.wPar3, ↓Dy.wSub, ↓Dy.yOp, ↓Dy.yUn, ↓Dy.yCmT, ↓Dy.yCh, ↓Dy.yChT, ↓Dy.yVal, ↓Dy.yNotT, ↓Dy.yAndT, ↓Dy.yOrT, ↓Dy.yAnd, ↓Dy.yOr, ↓Dy.yNot, ↓Dy.yIf, ↓Dy.yTup, ↓Dy.yLst, ↓Dy.yNum, ↓Dy.yBl, ↓Dy.yCall, ↓Dy.yRev, ↓Dy.wVar, ↓Dy.wC, ↓Dy.aNil, ↓Dy.aCons, ↓Dy.look, ↓Dy.onB, ↓Dy.onT, ↓Dy.bindT, ↓Dy.bindTs, ↓Dy.addD, ↓Dy.subD, ↓Dy.mulD, ↓Dy.fdivD, ↓Dy.modD, ↓Dy.powD, ↓Dy.negD, ↓Dy.ltD, ↓Dy.leD, ↓Dy.gtD, ↓Dy.geD, ↓Dy.eqD_int, ↓Dy.neD_int, ↓Dy.eqD_str, ↓Dy.neD_str, ↓Dy.eqD_p, ↓Dy.neD_p, ↓Dy.ix_p0, ↓Dy.ix_p1, ↓Dy.ix_t0, ↓Dy.ix_t1, ↓Dy.ix_t2, ↓Dy.isiC, ↓Dy.notTy, ↓Dy.tyn, ↓Dy.isiB, ↓Dy.lenC, ↓Dy.seqOf, ↓Dy.lstOf, ↓Dy.allC, ↓Dy.allB, ↓Dy.tupC, ↓Dy.lstC, ↓Dy.revD, ↓Dy.wLc, ↓Dy.lcD, ↓Dy.wiS, ↓Dy.seqF, ↓Dy.wYes, ↓Dy.wipeR, ↓Option.map_some, ↓Option.map_none, ↓Bool.not_true, ↓Bool.not_false, ↓Bool.and_true, ↓Bool.true_and, ↓Dy.absC, ↓Dy.intC, ↓Dy.maxC, ↓Dy.minC, ↓List.set_cons_zero, ↓List.set_cons_succ, ↓List.append_nil, ↓List.cons_append, ↓List.nil_append, ↓decide_eq_true_eq, ↓Bool.not_eq_true', ↓decide_eq_false_iff_not, ↓if_true, ↓if_false, ↓Bool.false_eq_true, reduceIte, reduceCtorEq, ↓List.length_cons, ↓List.length_nil, ↓true_and, ↓and_true]
  rw [if_neg fun z => num_ne h0 z.1]
  exact s_divd hp hq h h0 k
def cmpI (p q : Rat) : Int := (if p.num * (q.den : Nat) > q.num * (p.den : Nat) then 1 else 0) - (if p.num * (q.den : Nat) < q.num * (p.den : Nat) then 1 else 0)
theorem s_cmp {p q : Rat} {a b : Nat} (hp : Bd a p) (hq : Bd b q) (h : a + b ≤ 7000) (k : Q (.int (cmpI p q)) G) : Q_compared [fr p, fr q] G Q := by
  unfold Q_compared
  refine ⟨rfl, ?_⟩
  show W_compared _ [some (fr p), some (fr q), none, none] G
  unfold W_compared
  try simp only [↓Dy.wSeq, ↓Dy.wNext, ↓Dy.sIf, ↓Dy.sRet, ↓Dy.sRetN, ↓Dy.sSet, ↓Dy.sAsg, ↓Dy.sExp, ↓Dy.wPar, ↓Dy.wPar3, ↓Dy.wSub, ↓Dy.yOp, ↓Dy.yUn, ↓Dy.yCmT, ↓Dy.yCh, ↓Dy.yChT, ↓Dy.yVal, ↓Dy.yNotT, ↓Dy.yAndT, ↓Dy.yOrT, ↓Dy.yAnd, ↓Dy.yOr, ↓Dy.yNot, ↓Dy.yIf, ↓Dy.yTup, ↓Dy.yLst, ↓Dy.yNum, ↓Dy.yBl, ↓Dy.yCall, ↓Dy.yRev, ↓Dy.wVar, ↓Dy.wC, ↓Dy.aNil, ↓Dy.aCons, ↓Dy.look, ↓Dy.onB, ↓Dy.onT, ↓Dy.bindT, ↓Dy.bindTs, ↓Dy.addD, ↓Dy.subD, ↓Dy.mulD, ↓Dy.fdivD, ↓Dy.modD, ↓Dy.powD, ↓Dy.negD, ↓Dy.ltD, ↓Dy.leD, ↓Dy.gtD, ↓Dy.geD, ↓Dy.eqD_int, ↓Dy.neD_int, ↓Dy.eqD_str, ↓Dy.neD_str, ↓Dy.eqD_p, ↓Dy.neD_p, ↓Dy.ix_p0, ↓Dy.ix_p1, ↓Dy.ix_t0, ↓Dy.ix_t1, ↓Dy.ix_t2, ↓Dy.isiC, ↓Dy.notTy, ↓Dy.tyn, ↓Dy.isiB, ↓Dy.lenC, ↓Dy.seqOf, ↓Dy.lstOf, ↓Dy.allC, ↓Dy.allB, ↓Dy.tupC, ↓Dy.lstC, ↓Dy.revD, ↓Dy.wLc, ↓Dy.lcD, ↓Dy.wiS, ↓Dy.seqF, ↓Dy.wYes, ↓Dy.wipeR, ↓Option.map_some, ↓Option.map_none, ↓Bool.not_true, ↓Bool.not_false, ↓Bool.and_true, ↓Bool.true_and, ↓Dy.absC, ↓Dy.intC, ↓Dy.maxC, ↓Dy.minC, ↓List.set_cons_zero, ↓List.set_cons_succ, ↓List.append_nil, ↓List.cons_append, ↓List.nil_append, ↓decide_eq_true_eq, ↓Bool.not_eq_true', ↓decide_eq_false_iff_not, ↓if_true, ↓if_false, ↓Bool.false_eq_true, reduceIte, reduceCtorEq, ↓List.length_cons, ↓List.length_nil, ↓true_and, ↓and_true]
  apply s_reqfr
  try simp only [↓Dy.wSeq, ↓Dy.wNext, ↓Dy.sIf, ↓Dy.sRet, ↓Dy.sRetN, ↓Dy.sSet, ↓Dy.sAsg, ↓Dy.sExp, ↓Dy.wPar, ↓Dy.wPar3, ↓Dy.wSub, ↓Dy.yOp, ↓Dy.yUn, ↓Dy.yCmT, ↓Dy.yCh, ↓Dy.yChT, ↓Dy.yVal, ↓Dy.yNotT, ↓Dy.yAndT, ↓Dy.yOrT, ↓Dy.yAnd, ↓Dy.yOr, ↓Dy.yNot, ↓Dy.yIf, ↓Dy.yTup, ↓Dy.yLst, ↓Dy.yNum, ↓Dy.yBl, ↓Dy.yCall, ↓Dy.yRev, ↓Dy.wVar, ↓Dy.wC, ↓Dy.aNil, ↓Dy.aCons, ↓Dy.look, ↓Dy.onB, ↓Dy.onT, ↓Dy.bindT, ↓Dy.bindTs, ↓Dy.addD, ↓Dy.subD, ↓Dy.mulD, ↓Dy.fdivD, ↓Dy.modD, ↓Dy.powD, ↓Dy.negD, ↓Dy.ltD, ↓Dy.leD, ↓Dy.gtD, ↓Dy.geD, ↓Dy.eqD_int, ↓Dy.neD_int, ↓Dy.eqD_str, ↓Dy.neD_str, ↓Dy.eqD_p, ↓Dy.neD_p, ↓Dy.ix_p0, ↓Dy.ix_p1, ↓Dy.ix_t0, ↓Dy.ix_t1, ↓Dy.ix_t2, ↓Dy.isiC, ↓Dy.notTy, ↓Dy.tyn, ↓Dy.isiB, ↓Dy.lenC, ↓Dy.seqOf, ↓Dy.lstOf, ↓Dy.allC, ↓Dy.allB, ↓Dy.tupC, ↓Dy.lstC, ↓Dy.revD, ↓Dy.wLc, ↓Dy.lcD, ↓Dy.wiS, ↓Dy.seqF, ↓Dy.wYes, ↓Dy.wipeR, ↓Option.map_some, ↓Option.map_none, ↓Bool.not_true, ↓Bool.not_false, ↓Bool.and_true, ↓Bool.true_and, ↓Dy.absC, ↓Dy.intC, ↓Dy.maxC, ↓Dy.minC, ↓List.set_cons_zero, ↓List.set_cons_succ, ↓List.append_nil, ↓List.cons_append, ↓List.nil_append, ↓decide_eq_true_eq, ↓Bool.not_eq_true', ↓decide_eq_false_iff_not, ↓if_true, ↓if_false, ↓Bool.false_eq_true, reduceIte, reduceCtorEq, ↓List.length_cons, ↓List.length_nil, ↓true_and, ↓and_true]
  apply s_reqfr
  try simp only [↓Dy.wSeq, ↓Dy.wNext, ↓Dy.sIf, ↓Dy.sRet, ↓Dy.sRetN, ↓Dy.sSet, ↓Dy.sAsg, ↓Dy.sExp, ↓Dy.wPar, ↓Dy.wPar3, ↓Dy.wSub, ↓Dy.yOp, ↓Dy.yUn, ↓Dy.yCmT, ↓Dy.yCh, ↓Dy.yChT, ↓Dy.yVal, ↓Dy.yNotT, ↓Dy.yAndT, ↓Dy.yOrT, ↓Dy.yAnd, ↓Dy.yOr, ↓Dy.yNot, ↓Dy.yIf, ↓Dy.yTup, ↓Dy.yLst, ↓Dy.yNum, ↓Dy.yBl, ↓Dy.yCall, ↓Dy.yRev, ↓Dy.wVar, ↓Dy.wC, ↓Dy.aNil, ↓Dy.aCons, ↓Dy.look, ↓Dy.onB, ↓Dy.onT, ↓Dy.bindT, ↓Dy.bindTs, ↓Dy.addD, ↓Dy.subD, ↓Dy.mulD, ↓Dy.fdivD, ↓Dy.modD, ↓Dy.powD, ↓Dy.negD, ↓Dy.ltD, ↓Dy.leD, ↓Dy.gtD, ↓Dy.geD, ↓Dy.eqD_int, ↓Dy.neD_int, ↓Dy.eqD_str, ↓Dy.neD_str, ↓Dy.eqD_p, ↓Dy.neD_p, ↓Dy.ix_p0, ↓Dy.ix_p1, ↓Dy.ix_t0, ↓Dy.ix_t1, ↓Dy.ix_t2, ↓Dy.isiC, ↓Dy.notTy, ↓Dy.tyn, ↓Dy.isiB, ↓Dy.lenC, ↓Dy.seqOf, ↓Dy.lstOf, ↓Dy.allC, ↓Dy.allB, ↓Dy.tupC, ↓Dy.lstC, ↓Dy.revD, ↓Dy.wLc, ↓Dy.lcD, ↓Dy.wiS, ↓Dy.seqF, ↓Dy.wYes, ↓Dy.wipeR, ↓Option.map_some, ↓Option.map_none, ↓Bool.not_true, ↓Bool.not_false, ↓Bool.and_true, ↓Bool.true_and, ↓Dy.absC, ↓Dy.intC, ↓Dy.maxC, ↓Dy.minC, ↓List.set_cons_zero, ↓List.set_cons_succ, ↓List.append_nil, ↓List.cons_append, ↓List.nil_append, ↓decide_eq_true_eq, ↓Bool.not_eq_true', ↓decide_eq_false_iff_not, ↓if_true, ↓if_false, ↓Bool.false_eq_true, reduceIte, reduceCtorEq, ↓List.length_cons, ↓List.length_nil, ↓true_and, ↓and_true, fr]
  refine ⟨mulOk hp.1 hq.den (by omega), mulOk hq.1 hp.den (by omega), ?_⟩
  exact k
/-! ### the dice -/
theorem fmod_in {z m : Int} (h : 1 ≤ m) : 0 ≤ z.fmod m ∧ z.fmod m < m := ⟨Int.fmod_nonneg_of_pos _ (by omega), Int.fmod_lt_of_pos _ (by omega)⟩
theorem s_roll {n : Nat} {size : Int} (hG : G[n]? = some (.nums 3)) (h1 : 1 ≤ size) (hs : size.natAbs < 2 ^ 64) (k : ∀ r : Int, 0 ≤ r → r < size → Q (.int r) G) : Q__law_roll [.ref n, .int size] G Q := by
  unfold Q__law_roll
  have h0 : size ≠ 0 := by omega
  have dv : ∀ z : Int, DivOk z size := fun z => divOk h0 hs (by decide)
  refine ⟨rfl, ?_⟩
  show W__law_roll _ [some (.ref n), some (.int size), none, none, none] G
  unfold W__law_roll
  try simp only [↓Dy.wSeq, ↓Dy.wNext, ↓Dy.sIf, ↓Dy.sRet, ↓Dy.sRetN, ↓Dy.sSet, ↓Dy.sAsg, ↓Dy.sExp, ↓Dy.wPar, ↓Dy.wPar3, ↓Dy.wSub, ↓Dy.yOp, ↓Dy.yUn, ↓Dy.yCmT, ↓Dy.yCh, ↓Dy.yChT, ↓Dy.yVal, ↓Dy.yNotT, ↓Dy.yAndT, ↓Dy.yOrT, ↓Dy.yAnd, ↓Dy.yOr, ↓Dy.yNot, ↓Dy.yIf, ↓Dy.yTup, ↓Dy.yLst, ↓Dy.yNum, ↓Dy.yBl, ↓Dy.yCall, ↓Dy.yRev, ↓Dy.wVar, ↓Dy.wC, ↓Dy.aNil, ↓Dy.aCons, ↓Dy.look, ↓Dy.onB, ↓Dy.onT, ↓Dy.bindT, ↓Dy.bindTs, ↓Dy.addD, ↓Dy.subD, ↓Dy.mulD, ↓Dy.fdivD, ↓Dy.modD, ↓Dy.powD, ↓Dy.negD, ↓Dy.ltD, ↓Dy.leD, ↓Dy.gtD, ↓Dy.geD, ↓Dy.eqD_int, ↓Dy.neD_int, ↓Dy.eqD_str, ↓Dy.neD_str, ↓Dy.eqD_p, ↓Dy.neD_p, ↓Dy.ix_p0, ↓Dy.ix_p1, ↓Dy.ix_t0, ↓Dy.ix_t1, ↓Dy.ix_t2, ↓Dy.isiC, ↓Dy.notTy, ↓Dy.tyn, ↓Dy.isiB, ↓Dy.lenC, ↓Dy.seqOf, ↓Dy.lstOf, ↓Dy.allC, ↓Dy.allB, ↓Dy.tupC, ↓Dy.lstC, ↓Dy.revD, ↓Dy.wLc, ↓Dy.lcD, ↓Dy.wiS, ↓Dy.seqF, ↓Dy.wYes, ↓Dy.wipeR, ↓Option.map_some, ↓Option.map_none, ↓Bool.not_true, ↓Bool.not_false, ↓Bool.and_true, ↓Bool.true_and, ↓Dy.absC, ↓Dy.intC, ↓Dy.maxC, ↓Dy.minC, ↓List.set_cons_zero, ↓List.set_cons_succ, ↓List.append_nil, ↓List.cons_append, ↓List.nil_append, ↓decide_eq_true_eq, ↓Bool.not_eq_true', ↓decide_eq_false_iff_not, ↓if_true, ↓if_false, ↓Bool.false_eq_true, reduceIte, reduceCtorEq, ↓List.length_cons, ↓List.length_nil, ↓true_and, ↓and_true]
  refine ix_num (i := 0) hG ⟨by decide, by decide⟩ fun z => ?_
  try simp only [↓Dy.wSeq, ↓Dy.wNext, ↓Dy.sIf, ↓Dy.sRet, ↓Dy.sRetN, ↓Dy.sSet, ↓Dy.sAsg, ↓Dy.sExp, ↓Dy.wPar, ↓Dy.wPar3, ↓Dy.wSub, ↓Dy.yOp, ↓Dy.yUn, ↓Dy.yCmT, ↓Dy.yCh, ↓Dy.yChT, ↓Dy.yVal, ↓Dy.yNotT, ↓Dy.yAndT, ↓Dy.yOrT, ↓Dy.yAnd, ↓Dy.yOr, ↓Dy.yNot, ↓Dy.yIf, ↓Dy.yTup, ↓Dy.yLst, ↓Dy.yNum, ↓Dy.yBl, ↓Dy.yCall, ↓Dy.yRev, ↓Dy.wVar, ↓Dy.wC, ↓Dy.aNil, ↓Dy.aCons, ↓Dy.look, ↓Dy.onB, ↓Dy.onT, ↓Dy.bindT, ↓Dy.bindTs, ↓Dy.addD, ↓Dy.subD, ↓Dy.mulD, ↓Dy.fdivD, ↓Dy.modD, ↓Dy.powD, ↓Dy.negD, ↓Dy.ltD, ↓Dy.leD, ↓Dy.gtD, ↓Dy.geD, ↓Dy.eqD_int, ↓Dy.neD_int, ↓Dy.eqD_str, ↓Dy.neD_str, ↓Dy.eqD_p, ↓Dy.neD_p, ↓Dy.ix_p0, ↓Dy.ix_p1, ↓Dy.ix_t0, ↓Dy.ix_t1, ↓Dy.ix_t2, ↓Dy.isiC, ↓Dy.notTy, ↓Dy.tyn, ↓Dy.isiB, ↓Dy.lenC, ↓Dy.seqOf, ↓Dy.lstOf, ↓Dy.allC, ↓Dy.allB, ↓Dy.tupC, ↓Dy.lstC, ↓Dy.revD, ↓Dy.wLc, ↓Dy.lcD, ↓Dy.wiS, ↓Dy.seqF, ↓Dy.wYes, ↓Dy.wipeR, ↓Option.map_some, ↓Option.map_none, ↓Bool.not_true, ↓Bool.not_false, ↓Bool.and_true, ↓Bool.true_and, ↓Dy.absC, ↓Dy.intC, ↓Dy.maxC, ↓Dy.minC, ↓List.set_cons_zero, ↓List.set_cons_succ, ↓List.append_nil, ↓List.cons_append, ↓List.nil_append, ↓decide_eq_true_eq, ↓Bool.not_eq_true', ↓decide_eq_false_iff_not, ↓if_true, ↓if_false, ↓Bool.false_eq_true, reduceIte, reduceCtorEq, ↓List.length_cons, ↓List.length_nil, ↓true_and, ↓and_true]
  refine ite_d' (c := 0 < z) (fun _ => ?_) fun _ => ?_
  · refine ix_num (i := 0) hG ⟨by decide, by decide⟩ fun z2 => ?_
    try simp only [↓Dy.wSeq, ↓Dy.wNext, ↓Dy.sIf, ↓Dy.sRet, ↓Dy.sRetN, ↓Dy.sSet, ↓Dy.sAsg, ↓Dy.sExp, ↓Dy.wPar, ↓Dy.wPar3, ↓Dy.wSub, ↓Dy.yOp, ↓Dy.yUn, ↓Dy.yCmT, ↓Dy.yCh, ↓Dy.yChT, ↓Dy.yVal, ↓Dy.yNotT, ↓Dy.yAndT, ↓Dy.yOrT, ↓Dy.yAnd, ↓Dy.yOr, ↓Dy.yNot, ↓Dy.yIf, ↓Dy.yTup, ↓Dy.yLst, ↓Dy.yNum, ↓Dy.yBl, ↓Dy.yCall, ↓Dy.yRev, ↓Dy.wVar, ↓Dy.wC, ↓Dy.aNil, ↓Dy.aCons, ↓Dy.look, ↓Dy.onB, ↓Dy.onT, ↓Dy.bindT, ↓Dy.bindTs, ↓Dy.addD, ↓Dy.subD, ↓Dy.mulD, ↓Dy.fdivD, ↓Dy.modD, ↓Dy.powD, ↓Dy.negD, ↓Dy.ltD, ↓Dy.leD, ↓Dy.gtD, ↓Dy.geD, ↓Dy.eqD_int, ↓Dy.neD_int, ↓Dy.eqD_str, ↓Dy.neD_str, ↓Dy.eqD_p, ↓Dy.neD_p, ↓Dy.ix_p0, ↓Dy.ix_p1, ↓Dy.ix_t0, ↓Dy.ix_t1, ↓Dy.ix_t2, ↓Dy.isiC, ↓Dy.notTy, ↓Dy.tyn, ↓Dy.isiB, ↓Dy.lenC, ↓Dy.seqOf, ↓Dy.lstOf, ↓Dy.allC, ↓Dy.allB, ↓Dy.tupC, ↓Dy.lstC, ↓Dy.revD, ↓Dy.wLc, ↓Dy.lcD, ↓Dy.wiS, ↓Dy.seqF, ↓Dy.wYes, ↓Dy.wipeR, ↓Option.map_some, ↓Option.map_none, ↓Bool.not_true, ↓Bool.not_false, ↓Bool.and_true, ↓Bool.true_and, ↓Dy.absC, ↓Dy.intC, ↓Dy.maxC, ↓Dy.minC, ↓List.set_cons_zero, ↓List.set_cons_succ, ↓List.append_nil, ↓List.cons_append, ↓List.nil_append, ↓decide_eq_true_eq, ↓Bool.not_eq_true', ↓decide_eq_false_iff_not, ↓if_true, ↓if_false, ↓Bool.false_eq_true, reduceIte, reduceCtorEq, ↓List.length_cons, ↓List.length_nil, ↓true_and, ↓and_true]
    refine ⟨h0, ?_⟩
    refine ix_num (i := 0) hG ⟨by decide, by decide⟩ fun z3 => ?_
    try simp only [↓Dy.wSeq, ↓Dy.wNext, ↓Dy.sIf, ↓Dy.sRet, ↓Dy.sRetN, ↓Dy.sSet, ↓Dy.sAsg, ↓Dy.sExp, ↓Dy.wPar, ↓Dy.wPar3, ↓Dy.wSub, ↓Dy.yOp, ↓Dy.yUn, ↓Dy.yCmT, ↓Dy.yCh, ↓Dy.yChT, ↓Dy.yVal, ↓Dy.yNotT, ↓Dy.yAndT, ↓Dy.yOrT, ↓Dy.yAnd, ↓Dy.yOr, ↓Dy.yNot, ↓Dy.yIf, ↓Dy.yTup, ↓Dy.yLst, ↓Dy.yNum, ↓Dy.yBl, ↓Dy.yCall, ↓Dy.yRev, ↓Dy.wVar, ↓Dy.wC, ↓Dy.aNil, ↓Dy.aCons, ↓Dy.look, ↓Dy.onB, ↓Dy.onT, ↓Dy.bindT, ↓Dy.bindTs, ↓Dy.addD, ↓Dy.subD, ↓Dy.mulD, ↓Dy.fdivD, ↓Dy.modD, ↓Dy.powD, ↓Dy.negD, ↓Dy.ltD, ↓Dy.leD, ↓Dy.gtD, ↓Dy.geD, ↓Dy.eqD_int, ↓Dy.neD_int, ↓Dy.eqD_str, ↓Dy.neD_str, ↓Dy.eqD_p, ↓Dy.neD_p, ↓Dy.ix_p0, ↓Dy.ix_p1, ↓Dy.ix_t0, ↓Dy.ix_t1, ↓Dy.ix_t2, ↓Dy.isiC, ↓Dy.notTy, ↓Dy.tyn, ↓Dy.isiB, ↓Dy.lenC, ↓Dy.seqOf, ↓Dy.lstOf, ↓Dy.allC, ↓Dy.allB, ↓Dy.tupC, ↓Dy.lstC, ↓Dy.revD, ↓Dy.wLc, ↓Dy.lcD, ↓Dy.wiS, ↓Dy.seqF, ↓Dy.wYes, ↓Dy.wipeR, ↓Option.map_some, ↓Option.map_none, ↓Bool.not_true, ↓Bool.not_false, ↓Bool.and_true, ↓Bool.true_and, ↓Dy.absC, ↓Dy.intC, ↓Dy.maxC, ↓Dy.minC, ↓List.set_cons_zero, ↓List.set_cons_succ, ↓List.append_nil, ↓List.cons_append, ↓List.nil_append, ↓decide_eq_true_eq, ↓Bool.not_eq_true', ↓decide_eq_false_iff_not, ↓if_true, ↓if_false, ↓Bool.false_eq_true, reduceIte, reduceCtorEq, ↓List.length_cons, ↓List.length_nil, ↓true_and, ↓and_true]
    refine ⟨dv _, ?_⟩
    refine set_num (i := 0) hG ⟨by decide, by decide⟩ ?_
    try simp only [↓Dy.wSeq, ↓Dy.wNext, ↓Dy.sIf, ↓Dy.sRet, ↓Dy.sRetN, ↓Dy.sSet, ↓Dy.sAsg, ↓Dy.sExp, ↓Dy.wPar, ↓Dy.wPar3, ↓Dy.wSub, ↓Dy.yOp, ↓Dy.yUn, ↓Dy.yCmT, ↓Dy.yCh, ↓Dy.yChT, ↓Dy.yVal, ↓Dy.yNotT, ↓Dy.yAndT, ↓Dy.yOrT, ↓Dy.yAnd, ↓Dy.yOr, ↓Dy.yNot, ↓Dy.yIf, ↓Dy.yTup, ↓Dy.yLst, ↓Dy.yNum, ↓Dy.yBl, ↓Dy.yCall, ↓Dy.yRev, ↓Dy.wVar, ↓Dy.wC, ↓Dy.aNil, ↓Dy.aCons, ↓Dy.look, ↓Dy.onB, ↓Dy.onT, ↓Dy.bindT, ↓Dy.bindTs, ↓Dy.addD, ↓Dy.subD, ↓Dy.mulD, ↓Dy.fdivD, ↓Dy.modD, ↓Dy.powD, ↓Dy.negD, ↓Dy.ltD, ↓Dy.leD, ↓Dy.gtD, ↓Dy.geD, ↓Dy.eqD_int, ↓Dy.neD_int, ↓Dy.eqD_str, ↓Dy.neD_str, ↓Dy.eqD_p, ↓Dy.neD_p, ↓Dy.ix_p0, ↓Dy.ix_p1, ↓Dy.ix_t0, ↓Dy.ix_t1, ↓Dy.ix_t2, ↓Dy.isiC, ↓Dy.notTy, ↓Dy.tyn, ↓Dy.isiB, ↓Dy.lenC, ↓Dy.seqOf, ↓Dy.lstOf, ↓Dy.allC, ↓Dy.allB, ↓Dy.tupC, ↓Dy.lstC, ↓Dy.revD, ↓Dy.wLc, ↓Dy.lcD, ↓Dy.wiS, ↓Dy.seqF, ↓Dy.wYes, ↓Dy.wipeR, ↓Option.map_some, ↓Option.map_none, ↓Bool.not_true, ↓Bool.not_false, ↓Bool.and_true, ↓Bool.true_and, ↓Dy.absC, ↓Dy.intC, ↓Dy.maxC, ↓Dy.minC, ↓List.set_cons_zero, ↓List.set_cons_succ, ↓List.append_nil, ↓List.cons_append, ↓List.nil_append, ↓decide_eq_true_eq, ↓Bool.not_eq_true', ↓decide_eq_false_iff_not, ↓if_true, ↓if_false, ↓Bool.false_eq_true, reduceIte, reduceCtorEq, ↓List.length_cons, ↓List.length_nil, ↓true_and, ↓and_true]
    exact k _ (fmod_in h1).1 (fmod_in h1).2
  · refine ix_num (i := 2) hG ⟨by decide, by decide⟩ fun z2 => ?_
    try simp only [↓Dy.wSeq, ↓Dy.wNext, ↓Dy.sIf, ↓Dy.sRet, ↓Dy.sRetN, ↓Dy.sSet, ↓Dy.sAsg, ↓Dy.sExp, ↓Dy.wPar, ↓Dy.wPar3, ↓Dy.wSub, ↓Dy.yOp, ↓Dy.yUn, ↓Dy.yCmT, ↓Dy.yCh, ↓Dy.yChT, ↓Dy.yVal, ↓Dy.yNotT, ↓Dy.yAndT, ↓Dy.yOrT, ↓Dy.yAnd, ↓Dy.yOr, ↓Dy.yNot, ↓Dy.yIf, ↓Dy.yTup, ↓Dy.yLst, ↓Dy.yNum, ↓Dy.yBl, ↓Dy.yCall, ↓Dy.yRev, ↓Dy.wVar, ↓Dy.wC, ↓Dy.aNil, ↓Dy.aCons, ↓Dy.look, ↓Dy.onB, ↓Dy.onT, ↓Dy.bindT, ↓Dy.bindTs, ↓Dy.addD, ↓Dy.subD, ↓Dy.mulD, ↓Dy.fdivD, ↓Dy.modD, ↓Dy.powD, ↓Dy.negD, ↓Dy.ltD, ↓Dy.leD, ↓Dy.gtD, ↓Dy.geD, ↓Dy.eqD_int, ↓Dy.neD_int, ↓Dy.eqD_str, ↓Dy.neD_str, ↓Dy.eqD_p, ↓Dy.neD_p, ↓Dy.ix_p0, ↓Dy.ix_p1, ↓Dy.ix_t0, ↓Dy.ix_t1, ↓Dy.ix_t2, ↓Dy.isiC, ↓Dy.notTy, ↓Dy.tyn, ↓Dy.isiB, ↓Dy.lenC, ↓Dy.seqOf, ↓Dy.lstOf, ↓Dy.allC, ↓Dy.allB, ↓Dy.tupC, ↓Dy.lstC, ↓Dy.revD, ↓Dy.wLc, ↓Dy.lcD, ↓Dy.wiS, ↓Dy.seqF, ↓Dy.wYes, ↓Dy.wipeR, ↓Option.map_some, ↓Option.map_none, ↓Bool.not_true, ↓Bool.not_false, ↓Bool.and_true, ↓Bool.true_and, ↓Dy.absC, ↓Dy.intC, ↓Dy.maxC, ↓Dy.minC, ↓List.set_cons_zero, ↓List.set_cons_succ, ↓List.append_nil, ↓List.cons_append, ↓List.nil_append, ↓decide_eq_true_eq, ↓Bool.not_eq_true', ↓decide_eq_false_iff_not, ↓if_true, ↓if_false, ↓Bool.false_eq_true, reduceIte, reduceCtorEq, ↓List.length_cons, ↓List.length_nil, ↓true_and, ↓and_true]
    refine set_num (i := 2) hG ⟨by decide, by decide⟩ ?_
    try simp only [↓Dy.wSeq, ↓Dy.wNext, ↓Dy.sIf, ↓Dy.sRet, ↓Dy.sRetN, ↓Dy.sSet, ↓Dy.sAsg, ↓Dy.sExp, ↓Dy.wPar, ↓Dy.wPar3, ↓Dy.wSub, ↓Dy.yOp, ↓Dy.yUn, ↓Dy.yCmT, ↓Dy.yCh, ↓Dy.yChT, ↓Dy.yVal, ↓Dy.yNotT, ↓Dy.yAndT, ↓Dy.yOrT, ↓Dy.yAnd, ↓Dy.yOr, ↓Dy.yNot, ↓Dy.yIf, ↓Dy.yTup, ↓Dy.yLst, ↓Dy.yNum, ↓Dy.yBl, ↓Dy.yCall, ↓Dy.yRev, ↓Dy.wVar, ↓Dy.wC, ↓Dy.aNil, ↓Dy.aCons, ↓Dy.look, ↓Dy.onB, ↓Dy.onT, ↓Dy.bindT, ↓Dy.bindTs, ↓Dy.addD, ↓Dy.subD, ↓Dy.mulD, ↓Dy.fdivD, ↓Dy.modD, ↓Dy.powD, ↓Dy.negD, ↓Dy.ltD, ↓Dy.leD, ↓Dy.gtD, ↓Dy.geD, ↓Dy.eqD_int, ↓Dy.neD_int, ↓Dy.eqD_str, ↓Dy.neD_str, ↓Dy.eqD_p, ↓Dy.neD_p, ↓Dy.ix_p0, ↓Dy.ix_p1, ↓Dy.ix_t0, ↓Dy.ix_t1, ↓Dy.ix_t2, ↓Dy.isiC, ↓Dy.notTy, ↓Dy.tyn, ↓Dy.isiB, ↓Dy.lenC, ↓Dy.seqOf, ↓Dy.lstOf, ↓Dy.allC, ↓Dy.allB, ↓Dy.tupC, ↓Dy.lstC, ↓Dy.revD, ↓Dy.wLc, ↓Dy.lcD, ↓Dy.wiS, ↓Dy.seqF, ↓Dy.wYes, ↓Dy.wipeR, ↓Option.map_some, ↓Option.map_none, ↓Bool.not_true, ↓Bool.not_false, ↓Bool.and_true, ↓Bool.true_and, ↓Dy.absC, ↓Dy.intC, ↓Dy.maxC, ↓Dy.minC, ↓List.set_cons_zero, ↓List.set_cons_succ, ↓List.append_nil, ↓List.cons_append, ↓List.nil_append, ↓decide_eq_true_eq, ↓Bool.not_eq_true', ↓decide_eq_false_iff_not, ↓if_true, ↓if_false, ↓Bool.false_eq_true, reduceIte, reduceCtorEq, ↓List.length_cons, ↓List.length_nil, ↓true_and, ↓and_true]
    refine ix_num (i := 1) hG ⟨by decide, by decide⟩ fun z3 => ?_
    try simp only [↓Dy.wSeq, ↓Dy.wNext, ↓Dy.sIf, ↓Dy.sRet, ↓Dy.sRetN, ↓Dy.sSet, ↓Dy.sAsg, ↓Dy.sExp, ↓Dy.wPar, ↓Dy.wPar3, ↓Dy.wSub, ↓Dy.yOp, ↓Dy.yUn, ↓Dy.yCmT, ↓Dy.yCh, ↓Dy.yChT, ↓Dy.yVal, ↓Dy.yNotT, ↓Dy.yAndT, ↓Dy.yOrT, ↓Dy.yAnd, ↓Dy.yOr, ↓Dy.yNot, ↓Dy.yIf, ↓Dy.yTup, ↓Dy.yLst, ↓Dy.yNum, ↓Dy.yBl, ↓Dy.yCall, ↓Dy.yRev, ↓Dy.wVar, ↓Dy.wC, ↓Dy.aNil, ↓Dy.aCons, ↓Dy.look, ↓Dy.onB, ↓Dy.onT, ↓Dy.bindT, ↓Dy.bindTs, ↓Dy.addD, ↓Dy.subD, ↓Dy.mulD, ↓Dy.fdivD, ↓Dy.modD, ↓Dy.powD, ↓Dy.negD, ↓Dy.ltD, ↓Dy.leD, ↓Dy.gtD, ↓Dy.geD, ↓Dy.eqD_int, ↓Dy.neD_int, ↓Dy.eqD_str, ↓Dy.neD_str, ↓Dy.eqD_p, ↓Dy.neD_p, ↓Dy.ix_p0, ↓Dy.ix_p1, ↓Dy.ix_t0, ↓Dy.ix_t1, ↓Dy.ix_t2, ↓Dy.isiC, ↓Dy.notTy, ↓Dy.tyn, ↓Dy.isiB, ↓Dy.lenC, ↓Dy.seqOf, ↓Dy.lstOf, ↓Dy.allC, ↓Dy.allB, ↓Dy.tupC, ↓Dy.lstC, ↓Dy.revD, ↓Dy.wLc, ↓Dy.lcD, ↓Dy.wiS, ↓Dy.seqF, ↓Dy.wYes, ↓Dy.wipeR, ↓Option.map_some, ↓Option.map_none, ↓Bool.not_true, ↓Bool.not_false, ↓Bool.and_true, ↓Bool.true_and, ↓Dy.absC, ↓Dy.intC, ↓Dy.maxC, ↓Dy.minC, ↓List.set_cons_zero, ↓List.set_cons_succ, ↓List.append_nil, ↓List.cons_append, ↓List.nil_append, ↓decide_eq_true_eq, ↓Bool.not_eq_true', ↓decide_eq_false_iff_not, ↓if_true, ↓if_false, ↓Bool.false_eq_true, reduceIte, reduceCtorEq, ↓List.length_cons, ↓List.length_nil, ↓true_and, ↓and_true]
    refine ix_num (i := 2) hG ⟨by decide, by decide⟩ fun z4 => ?_
    try simp only [↓Dy.wSeq, ↓Dy.wNext, ↓Dy.sIf, ↓Dy.sRet, ↓Dy.sRetN, ↓Dy.sSet, ↓Dy.sAsg, ↓Dy.sExp, ↓Dy.wPar, ↓Dy.wPar3, ↓Dy.wSub, ↓Dy.yOp, ↓Dy.yUn, ↓Dy.yCmT, ↓Dy.yCh, ↓Dy.yChT, ↓Dy.yVal, ↓Dy.yNotT, ↓Dy.yAndT, ↓Dy.yOrT, ↓Dy.yAnd, ↓Dy.yOr, ↓Dy.yNot, ↓Dy.yIf, ↓Dy.yTup, ↓Dy.yLst, ↓Dy.yNum, ↓Dy.yBl, ↓Dy.yCall, ↓Dy.yRev, ↓Dy.wVar, ↓Dy.wC, ↓Dy.aNil, ↓Dy.aCons, ↓Dy.look, ↓Dy.onB, ↓Dy.onT, ↓Dy.bindT, ↓Dy.bindTs, ↓Dy.addD, ↓Dy.subD, ↓Dy.mulD, ↓Dy.fdivD, ↓Dy.modD, ↓Dy.powD, ↓Dy.negD, ↓Dy.ltD, ↓Dy.leD, ↓Dy.gtD, ↓Dy.geD, ↓Dy.eqD_int, ↓Dy.neD_int, ↓Dy.eqD_str, ↓Dy.neD_str, ↓Dy.eqD_p, ↓Dy.neD_p, ↓Dy.ix_p0, ↓Dy.ix_p1, ↓Dy.ix_t0, ↓Dy.ix_t1, ↓Dy.ix_t2, ↓Dy.isiC, ↓Dy.notTy, ↓Dy.tyn, ↓Dy.isiB, ↓Dy.lenC, ↓Dy.seqOf, ↓Dy.lstOf, ↓Dy.allC, ↓Dy.allB, ↓Dy.tupC, ↓Dy.lstC, ↓Dy.revD, ↓Dy.wLc, ↓Dy.lcD, ↓Dy.wiS, ↓Dy.seqF, ↓Dy.wYes, ↓Dy.wipeR, ↓Option.map_some, ↓Option.map_none, ↓Bool.not_true, ↓Bool.not_false, ↓Bool.and_true, ↓Bool.true_and, ↓Dy.absC, ↓Dy.intC, ↓Dy.maxC, ↓Dy.minC, ↓List.set_cons_zero, ↓List.set_cons_succ, ↓List.append_nil, ↓List.cons_append, ↓List.nil_append, ↓decide_eq_true_eq, ↓Bool.not_eq_true', ↓decide_eq_false_iff_not, ↓if_true, ↓if_false, ↓Bool.false_eq_true, reduceIte, reduceCtorEq, ↓List.length_cons, ↓List.length_nil, ↓true_and, ↓and_true]
    refine ⟨mulOkL (by decide), ?_⟩
    refine ⟨by decide, ?_⟩
    obtain ⟨o1, o2⟩ := fmod_in (z := z3 + 49979687 * z4) (m := 2305843009213693951) (by decide)
    refine ⟨mulOkL (by omega), ?_⟩
    refine ix_num (i := 2) hG ⟨by decide, by decide⟩ fun z5 => ?_
    try simp only [↓Dy.wSeq, ↓Dy.wNext, ↓Dy.sIf, ↓Dy.sRet, ↓Dy.sRetN, ↓Dy.sSet, ↓Dy.sAsg, ↓Dy.sExp, ↓Dy.wPar, ↓Dy.wPar3, ↓Dy.wSub, ↓Dy.yOp, ↓Dy.yUn, ↓Dy.yCmT, ↓Dy.yCh, ↓Dy.yChT, ↓Dy.yVal, ↓Dy.yNotT, ↓Dy.yAndT, ↓Dy.yOrT, ↓Dy.yAnd, ↓Dy.yOr, ↓Dy.yNot, ↓Dy.yIf, ↓Dy.yTup, ↓Dy.yLst, ↓Dy.yNum, ↓Dy.yBl, ↓Dy.yCall, ↓Dy.yRev, ↓Dy.wVar, ↓Dy.wC, ↓Dy.aNil, ↓Dy.aCons, ↓Dy.look, ↓Dy.onB, ↓Dy.onT, ↓Dy.bindT, ↓Dy.bindTs, ↓Dy.addD, ↓Dy.subD, ↓Dy.mulD, ↓Dy.fdivD, ↓Dy.modD, ↓Dy.powD, ↓Dy.negD, ↓Dy.ltD, ↓Dy.leD, ↓Dy.gtD, ↓Dy.geD, ↓Dy.eqD_int, ↓Dy.neD_int, ↓Dy.eqD_str, ↓Dy.neD_str, ↓Dy.eqD_p, ↓Dy.neD_p, ↓Dy.ix_p0, ↓Dy.ix_p1, ↓Dy.ix_t0, ↓Dy.ix_t1, ↓Dy.ix_t2, ↓Dy.isiC, ↓Dy.notTy, ↓Dy.tyn, ↓Dy.isiB, ↓Dy.lenC, ↓Dy.seqOf, ↓Dy.lstOf, ↓Dy.allC, ↓Dy.allB, ↓Dy.tupC, ↓Dy.lstC, ↓Dy.revD, ↓Dy.wLc, ↓Dy.lcD, ↓Dy.wiS, ↓Dy.seqF, ↓Dy.wYes, ↓Dy.wipeR, ↓Option.map_some, ↓Option.map_none, ↓Bool.not_true, ↓Bool.not_false, ↓Bool.and_true, ↓Bool.true_and, ↓Dy.absC, ↓Dy.intC, ↓Dy.maxC, ↓Dy.minC, ↓List.set_cons_zero, ↓List.set_cons_succ, ↓List.append_nil, ↓List.cons_append, ↓List.nil_append, ↓decide_eq_true_eq, ↓Bool.not_eq_true', ↓decide_eq_false_iff_not, ↓if_true, ↓if_false, ↓Bool.false_eq_true, reduceIte, reduceCtorEq, ↓List.length_cons, ↓List.length_nil, ↓true_and, ↓and_true]
    refine ⟨mulOkL (by decide), ?_⟩
    refine ⟨by decide, ?_⟩
    refine ⟨mulOkR (by decide), ?_⟩
    refine ⟨divOk (a := 64) (by decide) (by decide) (by decide), ?_⟩
    refine ⟨h0, ?_⟩
    exact k _ (fmod_in h1).1 (fmod_in h1).2
theorem s_pick {n : Nat} {ds : List D} (hG : G[n]? = some (.nums 3)) (h1 : 1 ≤ ds.length) (hs : ds.length < 2 ^ 64) (k : ∀ d ∈ ds, Q d G) : Q__law_pick [.ref n, .lst ds] G Q := by
  unfold Q__law_pick
  refine ⟨rfl, ?_⟩
  refine s_roll hG (by omega) (by omega) fun r r0 r1 => ?_
  obtain ⟨i, rfl⟩ : ∃ i : Nat, r = i := ⟨r.toNat, by omega⟩
  have hi : i < ds.length := by omega
  exact ix_seq (ds := ds) (d := ds[i]) rfl rfl (fun z e => by cases e) (List.getElem?_eq_getElem hi) (k _ (List.getElem_mem hi))
theorem s_integer {n : Nat} (hG : G[n]? = some (.nums 3)) (k : ∀ i : Int, i ≠ 0 → i.natAbs < 2 ^ 64 → Q (.int i) G) : Q__law_integer [.ref n] G Q := by
  unfold Q__law_integer
  refine ⟨rfl, ?_⟩
  refine ⟨⟨by decide, by decide⟩, ?_⟩
  refine ⟨⟨by decide, by decide⟩, ?_⟩
  refine ⟨sz6, ?_⟩
  refine s_pick hG (by decide) (by decide) fun d hd => ?_
  have hb : ∃ b : Int, d = .int b ∧ 1 ≤ b ∧ b ≤ 10 ^ 19 := by
    simp only [List.mem_cons, List.not_mem_nil, or_false] at hd
    rcases hd with rfl | rfl | rfl | rfl | rfl | rfl <;> exact ⟨_, rfl, by decide, by decide⟩
  obtain ⟨b, rfl, b1, b2⟩ := hb
  refine s_roll hG b1 (by omega) fun r r0 r1 => ?_
  refine ⟨sz2, ?_⟩
  refine s_pick hG (by decide) (by decide) fun d hd => ?_
  have hb : d = .int 1 ∨ d = .int (-1) := by
    simp only [List.mem_cons, List.not_mem_nil, or_false] at hd
    exact hd
  rcases hb with rfl | rfl
  · exact ⟨mulOkR (by decide), k _ (by omega) (by omega)⟩
  · exact ⟨mulOkR (by decide), k _ (by omega) (by omega)⟩
theorem s_fr {j : Nat} (t b : Int) (hb : b ≠ 0) (hk : b.natAbs < 2 ^ j) (h9 : j ≤ 9000) (q : Q (fr (Rat.divInt t b)) G) : Q__law_fr [.int t, .int b] G Q := by
  unfold Q__law_fr
  refine ⟨rfl, ?_⟩
  refine gcd_loop (fun x y => [some (.int t), some (.int b), none, some (.int x), some (.int y)]) (fun x y G Q q => ?_) (fun x y De G h0 q => ?_) _ G b.natAbs t.natAbs ?_
  · show Q (decide ((0 : Int) < y)) G
    have e : decide ((0 : Int) < y) = decide (0 < y) := by
      rw [Bool.eq_iff_iff]; simp
    rw [e]
    exact q
  · refine ⟨by omega, ?_⟩
    show De.nx [some (.int t), some (.int b), none, some (.int y), some (.int ((x : Int).fmod y))] G
    rw [Int.fmod_eq_emod_of_nonneg _ (by omega)]
    exact q
  · obtain ⟨g1, g2⟩ := gcd_small (t := t) hb hk
    refine ite_d (c := b < 0) (fun h => ?_) fun h => ?_
    · refine ⟨mulOkL (by decide), divOk g1 g2 h9, mulOkL (by decide), divOk g1 g2 h9, sz2, ?_⟩
      obtain ⟨e1, e2⟩ := red_neg t b h
      show Q (.tup [.int ((-1 * t).fdiv (Int.gcd t b : Nat)), .int ((-1 * b).fdiv (Int.gcd t b : Nat))]) G
      rw [Int.neg_one_mul, Int.neg_one_mul, e1, e2]
      exact q
    · refine ⟨mulOkL (by decide), divOk g1 g2 h9, mulOkL (by decide), divOk g1 g2 h9, sz2, ?_⟩
      obtain ⟨e1, e2⟩ := red_pos t b (by omega)
      show Q (.tup [.int ((1 * t).fdiv (Int.gcd t b : Nat)), .int ((1 * b).fdiv (Int.gcd t b : Nat))]) G
      rw [Int.one_mul, Int.one_mul, e1, e2]
      exact q
theorem s_drawn {n : Nat} (hG : G[n]? = some (.nums 3)) (k : ∀ q : Rat, Bd 64 q → Q (fr q) G) : Q__law_drawn [.ref n] G Q := by
  unfold Q__law_drawn
  refine ⟨rfl, ?_⟩
  refine s_roll hG (by decide) (by decide) fun r r0 r1 => ?_
  refine eq_i (i := r) (j := 0) ?_
  refine ite_d (fun _ => ?_) fun _ => ?_
  · refine ⟨sz2, ?_⟩
    exact k 0 ⟨by decide, by decide⟩
  · refine s_integer hG fun i i0 i1 => ?_
    refine s_integer hG fun j j0 j1 => ?_
    have hj : ((j.natAbs : Nat) : Int) ≠ 0 := by omega
    exact s_fr i (j.natAbs : Nat) hj (by rw [Int.natAbs_natCast]; exact j1) (by decide) (k _ (Bd.of i1 (by rw [Int.natAbs_natCast]; exact j1) hj))
theorem s_lplus {p q : Rat} {a b : Nat} (hp : Bd a p) (hq : Bd b q) (h : a + b ≤ 7000) (k : Q (fr (p + q)) G) : Q__law_plus [fr p, fr q] G Q := by
  unfold Q__law_plus
  refine ⟨rfl, mulOk hp.1 hq.den (by omega), mulOk hq.1 hp.den (by omega), mulOk hp.den hq.den (by omega), ?_⟩
  refine s_fr _ _ (Int.mul_ne_zero (den_ne p) (den_ne q)) (abs_mul hp.den hq.den) (by omega) ?_
  rw [add_is]
  exact k
theorem s_lminus {p q : Rat} {a b : Nat} (hp : Bd a p) (hq : Bd b q) (h : a + b ≤ 7000) (k : Q (fr (p - q)) G) : Q__law_minus [fr p, fr q] G Q := by
  unfold Q__law_minus
  refine ⟨rfl, mulOk hp.1 hq.den (by omega), mulOk hq.1 hp.den (by omega), mulOk hp.den hq.den (by omega), ?_⟩
  refine s_fr _ _ (Int.mul_ne_zero (den_ne p) (den_ne q)) (abs_mul hp.den hq.den) (by omega) ?_
  rw [sub_is]
  exact k
theorem s_ltimes {p q : Rat} {a b : Nat} (hp : Bd a p) (hq : Bd b q) (h : a + b ≤ 7000) (k : Q (fr (p * q)) G) : Q__law_times [fr p, fr q] G Q := by
  unfold Q__law_times
  refine ⟨rfl, mulOk hp.1 hq.1 (by omega), mulOk hp.den hq.den (by omega), ?_⟩
  refine s_fr _ _ (Int.mul_ne_zero (den_ne p) (den_ne q)) (abs_mul hp.den hq.den) (by omega) ?_
  rw [mul_is]
  exact k
end
end Km

/-! text M76b -/
set_option maxHeartbeats 400000
namespace Km
open PySem PySem.Spec PyProof.Rows L2 Dy Kw
section
variable {G : GP} {Q : KD}
/-! ### sums -/
def sm (qs : List Rat) : Rat := qs.foldr (· + ·) 0
theorem sm_cons (q : Rat) (qs : List Rat) : sm (q :: qs) = q + sm qs := rfl
theorem sm_app (a b : List Rat) : sm (a ++ b) = sm a + sm b := by
  induction a with
  | nil => show sm b = 0 + sm b; grind
  | cons x a ih => show x + sm (a ++ b) = x + sm a + sm b; grind
theorem sm_rev (a : List Rat) : sm a.reverse = sm a := by
  induction a with
  | nil => rfl
  | cons x a ih =>
    rw [List.reverse_cons, sm_app, ih]
    show sm a + (x + 0) = x + sm a
    grind
theorem sum_loop (De : DEnds) (d0 : D) : ∀ (qs : List Rat) (acc : Rat) (a : Nat) (x : Option D), Bd a acc → (∀ q ∈ qs, Bd 64 q) → a + 65 * qs.length ≤ 6900 → (∀ x', De.nx [some d0, some (fr (acc + sm qs)), x'] G) →
    forD (.nm 2) (sSet 1 (yCall Q_added [] (aCons (wVar 1) (aCons (wVar 2) aNil)))) De (qs.map fr) [some d0, some (fr acc), x] G
  | [], acc, a, x, ha, hq, hl, k => by
    have := k x
    rw [show acc + sm [] = acc by show acc + 0 = acc; grind] at this
    exact this
  | q :: qs, acc, a, x, ha, hq, hl, k => by
    have h1 := hq q (List.mem_cons_self ..)
    rw [List.length_cons] at hl
    show Q_added [fr acc, fr q] G fun d G1 => forD (.nm 2) (sSet 1 (yCall Q_added [] (aCons (wVar 1) (aCons (wVar 2) aNil)))) De (qs.map fr) [some d0, some d, some (fr q)] G1
    refine s_added ha h1 (by omega) ?_
    refine sum_loop De d0 qs (acc + q) (a + 64 + 1) _ (Bd.add ha h1) (fun q h => hq q (List.mem_cons_of_mem _ h)) (by omega) fun x' => ?_
    have := k x'
    rw [sm_cons] at this
    rw [show acc + q + sm qs = acc + (q + sm qs) by grind]
    exact this
theorem bd0 : Bd 1 0 := ⟨by decide, by decide⟩
theorem bd1 : Bd 1 1 := ⟨by decide, by decide⟩
theorem s_sum {qs : List Rat} (hq : ∀ q ∈ qs, Bd 64 q) (hl : qs.length ≤ 100) (k : Q (fr (sm qs)) G) : Q_sum_of [.tup (qs.map fr)] G Q := by
  unfold Q_sum_of
  refine ⟨rfl, ?_⟩
  refine sum_loop _ _ qs 0 1 none bd0 hq (by omega) fun x' => ?_
  rw [show (0 : Rat) + sm qs = sm qs by grind]
  exact k
theorem lc_true {α : Type} (f : α → D) {g : Tg} {we : WE} {ρ : RHO} (hs : ∀ a G (Q : KD), Q (.bl true) G → onT g (f a) ρ fun ρ1 => we ρ1 G Q) : ∀ (as : List α) (Q : List D → GP → Prop) (G : GP), Q (as.map fun _ => D.bl true) G → lcD g wYes we ρ (as.map f) Q G
  | [], Q, G, k => k
  | a :: as, Q, G, k => by
    have h := hs a G (fun y G2 => lcD g wYes we ρ (as.map f) (fun r G3 => Q (y :: r) G3) G2) (lc_true f hs as (fun r G3 => Q (.bl true :: r) G3) G k)
    unfold onT at h
    show onT g (f a) ρ fun ρ1 => wYes ρ1 G fun b G1 => if b = true then we ρ1 G1 fun y G2 => lcD g wYes we ρ (as.map f) (fun r G3 => Q (y :: r) G3) G2 else lcD g wYes we ρ (as.map f) Q G1
    unfold onT
    cases e : bindT g (f a) ρ with
    | none => rw [e] at h; exact h
    | some ρ1 => rw [e] at h; exact h
theorem allB_true {α : Type} : ∀ as : List α, allB (as.map fun _ => D.bl true) = some true
  | [] => rfl
  | a :: as => by
    show (allB (as.map fun _ => D.bl true)).map (true && ·) = some true
    rw [allB_true as]
    rfl
theorem allC_true {α : Type} (as : List α) (k : Q (.bl true) G) : allC [.lst (as.map fun _ => D.bl true)] G Q := by
  show (match allB (as.map fun _ => D.bl true) with | some b => Q (.bl b) G | none => False)
  rw [allB_true]
  exact k
theorem s_total {qs : List Rat} (hq : ∀ q ∈ qs, Bd 64 q) (hl : qs.length ≤ 100) (k : Q (fr (sm qs)) G) : Q_total [.tup (qs.map fr)] G Q := by
  unfold Q_total
  refine ⟨rfl, rfl, ?_⟩
  refine lc_true (g := .nm 1) (we := yCall Q_is_fraction [] (aCons (wVar 1) aNil)) (ρ := wipeR [some (.tup (qs.map fr)), none] [1]) fr (fun a G Q q => ?_) qs _ G ?_
  · exact s_isfr a q
  refine allC_true qs ?_
  exact s_sum hq hl k
/-! ### powers -/
theorem pow_loop (De : DEnds) (one : Rat) (hb : Bd 64 one) (d1 : D) : ∀ (ds : List D) (acc : Rat) (a : Nat) (x : Option D), Bd a acc → a + 64 * ds.length ≤ 6900 → (∀ x', De.nx [some (fr one), some d1, some (fr (acc * one ^ ds.length)), x'] G) →
    forD (.nm 3) (sSet 2 (yCall Q_multiplied [] (aCons (wVar 2) (aCons (wVar 0) aNil)))) De ds [some (fr one), some d1, some (fr acc), x] G
  | [], acc, a, x, ha, hl, k => by
    have := k x
    rw [show acc * one ^ ([] : List D).length = acc by show acc * one ^ 0 = acc; grind] at this
    exact this
  | d :: ds, acc, a, x, ha, hl, k => by
    rw [List.length_cons] at hl
    show Q_multiplied [fr acc, fr one] G fun z G1 => forD (.nm 3) (sSet 2 (yCall Q_multiplied [] (aCons (wVar 2) (aCons (wVar 0) aNil)))) De ds [some (fr one), some d1, some z, some d] G1
    refine s_mult ha hb (by omega) ?_
    refine pow_loop De one hb d1 ds (acc * one) (a + 64) _ (Bd.mul ha hb) (by omega) fun x' => ?_
    have := k x'
    rw [List.length_cons, Rat.pow_succ] at this
    rw [show acc * one * one ^ ds.length = acc * (one ^ ds.length * one) by grind]
    exact this
theorem s_count {m : Int} (h0 : 0 ≤ m) (h1 : m ≤ 400) (k : Q .non G) : Q_require_count [.int m, .int 0, .int 400] G Q := by
  unfold Q_require_count
  refine ⟨rfl, ?_⟩
  show W_require_count _ [some (.int m), some (.int 0), some (.int 400)] G
  unfold W_require_count
  refine s_isint m ?_
  refine ite_b (b := decide ((0 : Int) ≤ m)) (fun _ => ?_) fun z => ?_
  · refine ite_no (c := m ≤ 400) h1 ?_
    exact k
  · have := of_decide_eq_false z; omega
theorem s_power {one : Rat} {m : Nat} (hb : Bd 64 one) (hm : m ≤ 100) (k : Q (fr (one ^ m)) G) : Q_power [fr one, .int m] G Q := by
  unfold Q_power
  refine ⟨rfl, ?_⟩
  show W_power _ [some (fr one), some (.int m), none, none] G
  unfold W_power
  refine s_reqfr one ?_
  refine s_count (by omega) (by omega) ?_
  refine ⟨⟨by omega, by rw [sizeLine_eq]; omega⟩, ?_⟩
  refine pow_loop _ one hb _ (rngD 0 ((m : Int).toNat)) 1 1 none bd1 (by rw [rngD_len]; omega) fun x' => ?_
  rw [rngD_len, Int.toNat_natCast, show (1 : Rat) * one ^ m = one ^ m by grind]
  exact k
/-! ### fraction -/
theorem s_fraction {t b : Int} (ht : t.natAbs < 10 ^ 40) (hb : b.natAbs < 10 ^ 40) (h0 : b ≠ 0) (k : Q (fr (Rat.divInt t b)) G) : Q_fraction [.int t, .int b] G Q := by
  unfold Q_fraction
  refine ⟨rfl, ?_⟩
  show W_fraction _ [some (.int t), some (.int b)] G
  unfold W_fraction
  refine s_isint t ?_
  refine ite_b (b := decide ((10000000000000000000000000000000000000000 : Int) ≤ t.natAbs)) (fun z => ?_) fun _ => ?_
  · have := of_decide_eq_true z; omega
  refine s_isint b ?_
  refine ite_b (b := decide ((10000000000000000000000000000000000000000 : Int) ≤ b.natAbs)) (fun z => ?_) fun _ => ?_
  · have := of_decide_eq_true z; omega
  refine eq_i (i := b) (j := 0) ?_
  rw [decide_eq_false h0]
  exact s_red (k := 200) t b h0 (by omega) (by decide) k
end
end Km

/-! text M76c -/
set_option maxHeartbeats 400000
namespace Km
open PySem PySem.Spec PyProof.Rows L2 Dy Kw
section
variable {G : GP} {Q : KD}
abbrev iD : Int → D := D.int
/-! ### divisors of rows -/
def gd : List Int → Nat → Nat
  | [], a => a
  | n :: ns, a => gd ns (Int.gcd a n)
theorem div_loop (De : DEnds) (d0 : D) : ∀ (ns : List Int) (a : Nat) (x : Option D), (∀ x', De.nx [some d0, some (.int (gd ns a : Nat)), x'] G) →
    forD (.nm 2) (sSet 1 (yCall Q_common_divisor [] (aCons (wVar 1) (aCons (wVar 2) aNil)))) De (ns.map D.int) [some d0, some (.int a), x] G
  | [], a, x, k => k x
  | n :: ns, a, x, k => by
    show Q_common_divisor [.int a, .int n] G fun d G1 => forD (.nm 2) (sSet 1 (yCall Q_common_divisor [] (aCons (wVar 1) (aCons (wVar 2) aNil)))) De (ns.map D.int) [some d0, some d, some (.int n)] G1
    exact s_cd a n (div_loop De d0 ns (Int.gcd a n) _ k)
theorem s_divof {ns : List Int} (k : Q (.int (gd ns 0 : Nat)) G) : Q_divisor_of [.tup (ns.map D.int)] G Q := by
  unfold Q_divisor_of
  refine ⟨rfl, ?_⟩
  exact div_loop _ _ ns 0 none fun x' => k
theorem s_reqints {ns : List Int} (k : Q .non G) : Q_require_integers [.tup (ns.map D.int)] G Q := by
  unfold Q_require_integers
  refine ⟨rfl, rfl, ?_⟩
  refine lc_true (g := .nm 1) (we := yCall Q_is_integer [] (aCons (wVar 1) aNil)) (ρ := wipeR [some (.tup (ns.map D.int)), none] [1]) D.int (fun a G Q q => ?_) ns _ G ?_
  · exact s_isint a q
  refine allC_true ns ?_
  exact k
theorem s_gdiv {ns : List Int} (k : Q (.int (gd ns 0 : Nat)) G) : Q_greatest_divisor [.tup (ns.map D.int)] G Q := by
  unfold Q_greatest_divisor
  refine ⟨rfl, ?_⟩
  refine s_reqints ?_
  exact s_divof k
theorem ldiv_loop (De : DEnds) (d0 : D) : ∀ (ns : List Int) (a : Nat) (x y z : Option D), (∀ x' y' z', De.nx [some d0, some (.int (gd ns a : Nat)), x', y', z'] G) →
    forD (.nm 2) (wSeq (wPar 3 4 (aCons (wVar 1) (aCons (yBl absC (aCons (wVar 2) aNil)) aNil))) (wSeq (wWh (yCmT gtD (wVar 4) (wC (.int 0))) (wPar 3 4 (aCons (wVar 4) (aCons (yOp modD (wVar 3) (wVar 4)) aNil)))) (sSet 1 (wVar 3)))) De (ns.map D.int) [some d0, some (.int a), x, y, z] G
  | [], a, x, y, z, k => k x y z
  | n :: ns, a, x, y, z, k => by
    refine gcd_loop (fun p q => [some d0, some (.int a), some (.int n), some (.int p), some (.int q)]) (fun x y G Q q => ?_) (fun x y De G h0 q => ?_) _ G n.natAbs a ?_
    · show Q (decide ((0 : Int) < y)) G
      have e : decide ((0 : Int) < y) = decide (0 < y) := by
        rw [Bool.eq_iff_iff]; simp
      rw [e]
      exact q
    · refine ⟨by omega, ?_⟩
      show De.nx [some d0, some (.int a), some (.int n), some (.int y), some (.int ((x : Int).fmod y))] G
      rw [Int.fmod_eq_emod_of_nonneg _ (by omega)]
      exact q
    · exact ldiv_loop De d0 ns (Int.gcd a n) _ _ _ k
theorem s_ldiv {ns : List Int} (k : Q (.int (gd ns 0 : Nat)) G) : Q__law_divisor [.lst (ns.map D.int)] G Q := by
  unfold Q__law_divisor
  refine ⟨rfl, ?_⟩
  exact ldiv_loop _ _ ns 0 none none none fun x' y' z' => k
/-! ### multiples -/
def st (a : Nat) (n : Int) : Nat := a / Nat.gcd a n.natAbs * n.natAbs
def ml : List Int → Nat → Nat
  | [], a => a
  | n :: ns, a => ml ns (st a n)
theorem st_pos {a : Nat} {n : Int} (ha : 0 < a) (hn : n ≠ 0) : 0 < st a n := by
  have h1 : 0 < Nat.gcd a n.natAbs := Nat.gcd_pos_of_pos_left _ ha
  have h2 : 0 < a / Nat.gcd a n.natAbs := Nat.div_pos (Nat.le_of_dvd ha (Nat.gcd_dvd_left ..)) h1
  exact Nat.mul_pos h2 (by omega)
theorem st_lt {a k : Nat} {n : Int} (ha : a < 2 ^ k) (hn : n.natAbs < 2 ^ 128) : st a n < 2 ^ (k + 128) := lt_mul (Nat.lt_of_le_of_lt (Nat.div_le_self _ _) ha) hn
theorem mul_loop (De : DEnds) (d0 : D) : ∀ (ns : List Int) (a k : Nat) (x : Option D), 0 < a → a < 2 ^ k → (∀ n ∈ ns, n.natAbs < 2 ^ 128) → k + 128 * ns.length ≤ 8000 → ((0 : Int) ∈ ns → De.rt (.int 0) G) → ((0 : Int) ∉ ns → ∀ x', De.nx [some d0, some (.int (ml ns a : Nat)), x'] G) →
    forD (.nm 2) (wSeq (sIf (yCmT eqD (wVar 2) (wC (.int 0))) (sRet (wC (.int 0))) wNext) (sSet 1 (yOp mulD (yOp fdivD (wVar 1) (yCall Q_common_divisor [] (aCons (wVar 1) (aCons (wVar 2) aNil)))) (yBl absC (aCons (wVar 2) aNil))))) De (ns.map D.int) [some d0, some (.int a), x] G
  | [], a, k, x, ha, hk, hn, hl, h0, h1 => h1 (by simp) x
  | n :: ns, a, k, x, ha, hk, hn, hl, h0, h1 => by
    have n1 := hn n (List.mem_cons_self ..)
    rw [List.length_cons] at hl
    refine eq_i (i := n) (j := 0) ?_
    refine ite_d (fun z => ?_) fun z => ?_
    · exact h0 (by rw [z]; exact List.mem_cons_self ..)
    · have go : ∀ v : Int, v = (Int.gcd a n : Nat) → DivOk a v ∧ IntMulOk ((a : Int).fdiv v) (n.natAbs : Nat) ∧ forD (.nm 2) (wSeq (sIf (yCmT eqD (wVar 2) (wC (.int 0))) (sRet (wC (.int 0))) wNext) (sSet 1 (yOp mulD (yOp fdivD (wVar 1) (yCall Q_common_divisor [] (aCons (wVar 1) (aCons (wVar 2) aNil)))) (yBl absC (aCons (wVar 2) aNil))))) De (ns.map D.int) [some d0, some (.int ((a : Int).fdiv v * (n.natAbs : Nat))), some (.int n)] G := fun v ev => by
        subst ev
        obtain ⟨g1, g2⟩ := gcd_small (t := (a : Int)) z n1
        have e : (a : Int).fdiv (Int.gcd a n : Nat) = ((a / Nat.gcd a n.natAbs : Nat) : Int) := by
          rw [Int.fdiv_eq_ediv_of_nonneg _ (by omega), Int.natCast_ediv]
          rfl
        rw [e]
        refine ⟨divOk g1 g2 (by decide), mulOk (a := k) (b := 128) ?_ (by rw [Int.natAbs_natCast]; exact n1) (by omega), ?_⟩
        · rw [Int.natAbs_natCast]
          exact Nat.lt_of_le_of_lt (Nat.div_le_self _ _) hk
        · rw [← Int.natCast_mul]
          exact mul_loop De d0 ns (st a n) (k + 128) _ (st_pos ha z) (st_lt hk n1) (fun m h => hn m (List.mem_cons_of_mem _ h)) (by omega) (fun h => h0 (List.mem_cons_of_mem _ h)) fun h => h1 fun h' => by
            rcases List.mem_cons.mp h' with h' | h'
            · exact z h'.symm
            · exact h h'
      obtain ⟨p1, p2, p3⟩ := go _ rfl
      show Q_common_divisor [.int a, .int n] G fun d G1 => fdivD (.int a) d G1 fun d2 G2 => mulD d2 (.int (n.natAbs : Nat)) G2 fun d3 G3 => forD (.nm 2) (wSeq (sIf (yCmT eqD (wVar 2) (wC (.int 0))) (sRet (wC (.int 0))) wNext) (sSet 1 (yOp mulD (yOp fdivD (wVar 1) (yCall Q_common_divisor [] (aCons (wVar 1) (aCons (wVar 2) aNil)))) (yBl absC (aCons (wVar 2) aNil))))) De (ns.map D.int) [some d0, some d3, some (.int n)] G3
      exact s_cd a n ⟨p1, p2, p3⟩
def mv (ns : List Int) : Int := if (0 : Int) ∈ ns then 0 else (ml ns 1 : Nat)
theorem s_mulof {ns : List Int} (hn : ∀ n ∈ ns, n.natAbs < 2 ^ 128) (hl : ns.length ≤ 50) (k : Q (.int (mv ns)) G) : Q_multiple_of [.tup (ns.map D.int)] G Q := by
  unfold Q_multiple_of
  refine ⟨rfl, ?_⟩
  refine mul_loop _ _ ns 1 1 none (by decide) (by decide) hn (by omega) (fun h => ?_) fun h x' => ?_
  · unfold mv at k; rw [if_pos h] at k; exact k
  · unfold mv at k; rw [if_neg h] at k; exact k
theorem s_lmul {ns : List Int} (hn : ∀ n ∈ ns, n.natAbs < 2 ^ 128) (hl : ns.length ≤ 50) (k : Q (.int (mv ns)) G) : Q_least_multiple_of [.tup (ns.map D.int)] G Q := by
  unfold Q_least_multiple_of
  refine ⟨rfl, ?_⟩
  refine s_reqints ?_
  exact s_mulof hn hl k
theorem gd2 (a : Nat) (n : Int) : gd [(a : Int), n] 0 = Nat.gcd a n.natAbs := by
  show Int.gcd (Int.gcd 0 (a : Int) : Nat) n = _
  rw [Int.gcd_zero_left, Int.natAbs_natCast]
  rfl
theorem lmul_loop (De : DEnds) (d0 : D) : ∀ (ns : List Int) (a k : Nat) (x : Option D), 0 < a → a < 2 ^ k → (∀ n ∈ ns, n.natAbs < 2 ^ 128) → k + 128 * ns.length ≤ 8000 → ((0 : Int) ∈ ns → De.rt (.int 0) G) → ((0 : Int) ∉ ns → ∀ x', De.nx [some d0, some (.int (ml ns a : Nat)), x'] G) →
    forD (.nm 2) (wSeq (sIf (yCmT eqD (wVar 2) (wC (.int 0))) (sRet (wC (.int 0))) wNext) (sSet 1 (yOp fdivD (yOp mulD (wVar 1) (yBl absC (aCons (wVar 2) aNil))) (yCall Q__law_divisor [] (aCons (yLst (aCons (wVar 1) (aCons (wVar 2) aNil))) aNil))))) De (ns.map D.int) [some d0, some (.int a), x] G
  | [], a, k, x, ha, hk, hn, hl, h0, h1 => h1 (by simp) x
  | n :: ns, a, k, x, ha, hk, hn, hl, h0, h1 => by
    have n1 := hn n (List.mem_cons_self ..)
    rw [List.length_cons] at hl
    refine eq_i (i := n) (j := 0) ?_
    refine ite_d (fun z => ?_) fun z => ?_
    · exact h0 (by rw [z]; exact List.mem_cons_self ..)
    · obtain ⟨g1, g2⟩ := gcd_small (t := (a : Int)) z n1
      have e : ((a : Int) * (n.natAbs : Nat)).fdiv (gd [(a : Int), n] 0 : Nat) = (st a n : Nat) := by
        rw [gd2, Int.fdiv_eq_ediv_of_nonneg _ (by omega), ← Int.natCast_mul, ← Int.natCast_ediv, ← Nat.div_mul_right_comm (Nat.gcd_dvd_left ..)]
        rfl
      refine ⟨mulOk (a := k) (b := 128) (by rw [Int.natAbs_natCast]; exact hk) (by rw [Int.natAbs_natCast]; exact n1) (by omega), ?_⟩
      refine ⟨sz2, ?_⟩
      refine s_ldiv (ns := [(a : Int), n]) ?_
      refine ⟨by rw [gd2]; exact divOk g1 g2 (by decide), ?_⟩
      show forD (.nm 2) (wSeq (sIf (yCmT eqD (wVar 2) (wC (.int 0))) (sRet (wC (.int 0))) wNext) (sSet 1 (yOp fdivD (yOp mulD (wVar 1) (yBl absC (aCons (wVar 2) aNil))) (yCall Q__law_divisor [] (aCons (yLst (aCons (wVar 1) (aCons (wVar 2) aNil))) aNil))))) De (ns.map D.int) [some d0, some (.int (((a : Int) * (n.natAbs : Nat)).fdiv (gd [(a : Int), n] 0 : Nat))), some (.int n)] G
      rw [e]
      exact lmul_loop De d0 ns (st a n) (k + 128) _ (st_pos ha z) (st_lt hk n1) (fun m h => hn m (List.mem_cons_of_mem _ h)) (by omega) (fun h => h0 (List.mem_cons_of_mem _ h)) fun h => h1 fun h' => by
        rcases List.mem_cons.mp h' with h' | h'
        · exact z h'.symm
        · exact h h'
theorem s_lmult {ns : List Int} (hn : ∀ n ∈ ns, n.natAbs < 2 ^ 128) (hl : ns.length ≤ 50) (k : Q (.int (mv ns)) G) : Q__law_multiple [.lst (ns.map D.int)] G Q := by
  unfold Q__law_multiple
  refine ⟨rfl, ?_⟩
  refine lmul_loop _ _ ns 1 1 none (by decide) (by decide) hn (by omega) (fun h => ?_) fun h x' => ?_
  · unfold mv at k; rw [if_pos h] at k; exact k
  · unfold mv at k; rw [if_neg h] at k; exact k
end
end Km

/-! text M76d -/
set_option maxHeartbeats 400000
namespace Km
open PySem PySem.Spec PyProof.Rows L2 Dy Kw
section
variable {G : GP} {Q : KD}
abbrev t3 (a b c : Int) : D := .tup [.int a, .int b, .int c]
/-- left, right = right, left - times * right -/
abbrev wbC : WS := (wSeq (sSet 4 (yOp fdivD (yOp ixQ (wVar 2) (wC (.int 0))) (yOp ixQ (wVar 3) (wC (.int 0)))))
  (wPar 2 3 (aCons (wVar 3) (aCons (yBl tupC (aCons (wLc (wiZ (aCons (wVar 2) (aCons (wVar 3) aNil))) (.tp [(.nm 6), (.nm 7)]) wYes (yOp subD (wVar 6) (yOp mulD (wVar 4) (wVar 7))) [6, 7]) aNil)) aNil))))
abbrev wcC : WT := (yCmT neD (yOp ixQ (wVar 3) (wC (.int 0))) (wC (.int 0)))
theorem body_c (De : DEnds) {f s lg lx ly rg rx ry : Int} {x4 x5 x6 x7 : Option D} (h0 : DivOk lg rg) (m1 : IntMulOk (lg.fdiv rg) rg) (m2 : IntMulOk (lg.fdiv rg) rx) (m3 : IntMulOk (lg.fdiv rg) ry)
    (k : De.nx [some (.int f), some (.int s), some (t3 rg rx ry), some (t3 (lg - lg.fdiv rg * rg) (lx - lg.fdiv rg * rx) (ly - lg.fdiv rg * ry)), some (.int (lg.fdiv rg)), x5, x6, x7] G) :
    wbC De [some (.int f), some (.int s), some (t3 lg lx ly), some (t3 rg rx ry), x4, x5, x6, x7] G := by
  refine ⟨h0, ?_⟩
  refine ⟨m1, ?_⟩
  refine ⟨m2, ?_⟩
  refine ⟨m3, ?_⟩
  exact k
theorem c_loop (De : DEnds) {f s : Int} {k : Nat} (hf : f.natAbs < 2 ^ k) (hs : s.natAbs < 2 ^ k) (hk : k ≤ 500) : ∀ (m : Nat) {lg lx ly rg rx ry : Int} (x4 x5 x6 x7 : Option D), rg.natAbs = m → Iv f s lg lx ly rg rx ry → (s = 0 → rg = 0) → ly.natAbs < 2 ^ (2 * k + 2) →
    (∀ g x y r3 y4, Iv f s g x y 0 r3 y4 → y.natAbs < 2 ^ (2 * k + 2) → ∀ r x4, De.nx [some (.int f), some (.int s), some (t3 g x y), some r, x4, x5, x6, x7] G) → wWh wcC wbC De [some (.int f), some (.int s), some (t3 lg lx ly), some (t3 rg rx ry), x4, x5, x6, x7] G := by
  intro m
  induction m using Nat.strongRecOn with
  | ind m ih =>
    intro lg lx ly rg rx ry x4 x5 x6 x7 em iv hsr hly kk
    by_cases h : rg = 0
    · subst h
      refine ⟨1, ?_⟩
      refine ne_i (i := 0) (j := 0) ?_
      exact kk _ _ _ _ _ iv hly _ _
    · obtain ⟨iv2, lt⟩ := iv.step h
      have hs0 : s ≠ 0 := fun e => h (hsr e)
      obtain ⟨y1, y2⟩ := iv.y hs0
      have pk : 2 ^ (k + 1) = 2 * 2 ^ k := by rw [Nat.pow_succ, Nat.mul_comm]
      have b1 : rg.natAbs < 2 ^ (k + 1) := by have := iv.c2; omega
      have b2 : lg.natAbs < 2 ^ (k + 1) := by have := iv.c1; omega
      have b3 : rx.natAbs < 2 ^ (k + 1) := by have := iv.d2; have : 0 < 2 ^ k := Nat.two_pow_pos k; omega
      have b4 : f.natAbs * rx.natAbs < 2 ^ (k + (k + 1)) := lt_mul hf b3
      have b5 : ry.natAbs < 2 ^ (2 * k + 2) := by
        have e1 : 2 ^ (2 * k + 2) = 2 * 2 ^ (k + (k + 1)) := by rw [show 2 * k + 2 = k + (k + 1) + 1 by omega, Nat.pow_succ, Nat.mul_comm]
        have e2 : 2 ^ (k + 1) ≤ 2 ^ (k + (k + 1)) := Nat.pow_le_pow_right (by decide) (by omega)
        omega
      have b6 : (lg.fdiv rg).natAbs < 2 ^ (k + 1) := Nat.lt_of_le_of_lt (natAbs_fdiv_le lg rg) b2
      obtain ⟨n, hn⟩ := ih _ (by omega) (some (.int (lg.fdiv rg))) x5 x6 x7 rfl iv2 (fun e => absurd e hs0) b5 kk
      refine ⟨n + 1, ?_⟩
      refine ne_i (i := rg) (j := 0) ?_
      refine ite_b (b := !decide (rg = 0)) (fun _ => ?_) fun z => absurd (by simpa using z) h
      exact body_c _ (divOk h b1 (by omega)) (mulOk b6 b1 (by omega)) (mulOk b6 b3 (by omega)) (mulOk b6 b5 (by omega)) hn
theorem s_comb {f s : Int} {k : Nat} (hf : f.natAbs < 2 ^ k) (hs : s.natAbs < 2 ^ k) (hk : k ≤ 500) (q : ∀ x y : Int, f * x + s * y = (Int.gcd f s : Nat) → x.natAbs < 2 ^ (k + 1) → y.natAbs < 2 ^ (2 * k + 2) → Q (t3 (Int.gcd f s : Nat) x y) G) : Q_combined [.int f, .int s] G Q := by
  unfold Q_combined
  refine ⟨rfl, ?_⟩
  refine ⟨sz3, ?_⟩
  refine ⟨sz3, ?_⟩
  refine c_loop _ hf hs hk s.natAbs none none none none rfl (Iv.start f s) (fun e => e) (by rw [Int.natAbs_zero]; exact Nat.two_pow_pos _) fun g x y r3 y4 iv hy r x4 => ?_
  have hg : g.natAbs = Int.gcd f s := by
    have := iv.b
    rw [Int.gcd_zero_right] at this
    exact this
  have hx : x.natAbs < 2 ^ (k + 1) := by
    have := iv.d1
    have : 0 < 2 ^ k := Nat.two_pow_pos k
    rw [Nat.pow_succ]
    omega
  have ha := iv.a1
  refine ite_b (b := decide (0 ≤ g)) (fun z => ?_) fun z => ?_
  · have z := of_decide_eq_true z
    have e : g = (Int.gcd f s : Nat) := by omega
    have := q x y (by rw [← e]; exact ha) hx hy
    rw [← e] at this
    exact this
  · have z := of_decide_eq_false z
    have e : 0 - g = (Int.gcd f s : Nat) := by omega
    have h2 : f * (0 - x) + s * (0 - y) = (Int.gcd f s : Nat) := by
      rw [← e]
      grind
    have := q (0 - x) (0 - y) h2 (by omega) (by omega)
    rw [← e] at this
    exact this
theorem s_bez {f s : Int} {k : Nat} (hf : f.natAbs < 2 ^ k) (hs : s.natAbs < 2 ^ k) (hk : k ≤ 500) (q : ∀ x y : Int, f * x + s * y = (Int.gcd f s : Nat) → x.natAbs < 2 ^ (k + 1) → y.natAbs < 2 ^ (2 * k + 2) → Q (t3 (Int.gcd f s : Nat) x y) G) : Q_bezout [.int f, .int s] G Q := by
  unfold Q_bezout
  refine ⟨rfl, ?_⟩
  refine ⟨sz2, ?_⟩
  refine s_isint f ?_
  refine s_isint s ?_
  exact s_comb hf hs hk q
end
end Km

/-! text M76e -/
set_option maxHeartbeats 400000
namespace Km
open PySem PySem.Spec PyProof.Rows L2 Dy Kw
theorem ite_yes {c : Prop} [Decidable c] {A B : Prop} (h : c) (h2 : A) : if decide c = true then A else B := ite_d (fun _ => h2) fun z => absurd h z
theorem smI_fr {k : Nat} {q : Rat} (h : Bd k q) (h0 : 0 < k) (hk : k ≤ 1920) : smI (fr q) = true := by
  have h1 := log2_small h.1 h0
  have h2 := log2_small h.2 h0
  show (decide (q.num.natAbs.log2 < 1920) && (decide (((q.den : Nat) : Int).natAbs.log2 < 1920) && true)) = true
  rw [decide_eq_true (by omega), Int.natAbs_natCast, decide_eq_true (by omega)]
  rfl
theorem smI_4 {a b c d : D} (h1 : smI a = true) (h2 : smI b = true) (h3 : smI c = true) (h4 : smI d = true) : smI (.lst [a, b, c, d]) = true := by
  show (smI a && (smI b && (smI c && (smI d && true)))) = true
  rw [h1, h2, h3, h4]
  rfl
theorem cmp_self (p : Rat) : cmpI p p = 0 := by
  unfold cmpI
  rw [if_neg (by omega)]
  rfl
section
variable {G : GP} {Q : KD}
theorem lc_drawn {n : Nat} (hG : G[n]? = some (.nums 3)) {ρ : RHO} (hρ : ∀ d, look (ρ.set 3 (some d)) 0 = some (.ref n)) : ∀ (ds : List D) (Q : List D → GP → Prop), (∀ qs : List Rat, qs.length = ds.length → (∀ q ∈ qs, Bd 64 q) → Q (qs.map fr) G) →
    lcD (.nm 3) wYes (yCall Q__law_drawn [] (aCons (wVar 0) aNil)) ρ ds Q G
  | [], Q, k => k [] rfl (by simp)
  | d :: ds, Q, k => by
    have go : Q__law_drawn [.ref n] G fun y G2 => lcD (.nm 3) wYes (yCall Q__law_drawn [] (aCons (wVar 0) aNil)) ρ ds (fun r G3 => Q (y :: r) G3) G2 := by
      refine s_drawn hG fun q hq => ?_
      refine lc_drawn hG hρ ds _ fun qs hl hqs => ?_
      exact k (q :: qs) (by rw [List.length_cons, hl]; rfl) fun r hr => by
        rcases List.mem_cons.mp hr with rfl | hr
        · exact hq
        · exact hqs r hr
    show yCall Q__law_drawn [] (aCons (wVar 0) aNil) (ρ.set 3 (some d)) G fun y G2 => lcD (.nm 3) wYes (yCall Q__law_drawn [] (aCons (wVar 0) aNil)) ρ ds (fun r G3 => Q (y :: r) G3) G2
    show wVar 0 (ρ.set 3 (some d)) G fun x G1 => Q__law_drawn [x] G1 fun y G2 => lcD (.nm 3) wYes (yCall Q__law_drawn [] (aCons (wVar 0) aNil)) ρ ds (fun r G3 => Q (y :: r) G3) G2
    unfold wVar
    rw [hρ d]
    exact go
abbrev e14 (a b c d e f g h i j k l m n : Option D) : RHO := [a, b, c, d, e, f, g, h, i, j, k, l, m, n]
theorem lsum_loop (De : DEnds) {a0 a1 a3 a4 a5 a6 a8 a9 a10 a11 a12 a13 : Option D} : ∀ (qs : List Rat) (acc : Rat) (a : Nat) (x : Option D), Bd a acc → (∀ q ∈ qs, Bd 64 q) → a + 65 * qs.length ≤ 6900 → (∀ x', De.nx (e14 a0 a1 x' a3 a4 a5 a6 (some (fr (acc + sm qs))) a8 a9 a10 a11 a12 a13) G) →
    forD (.nm 2) (sSet 7 (yCall Q__law_plus [] (aCons (wVar 7) (aCons (wVar 2) aNil)))) De (qs.map fr) (e14 a0 a1 x a3 a4 a5 a6 (some (fr acc)) a8 a9 a10 a11 a12 a13) G
  | [], acc, a, x, ha, hq, hl, k => by
    have := k x
    rw [show acc + sm [] = acc by show acc + 0 = acc; grind] at this
    exact this
  | q :: qs, acc, a, x, ha, hq, hl, k => by
    have h1 := hq q (List.mem_cons_self ..)
    rw [List.length_cons] at hl
    show Q__law_plus [fr acc, fr q] G fun d G1 => forD (.nm 2) (sSet 7 (yCall Q__law_plus [] (aCons (wVar 7) (aCons (wVar 2) aNil)))) De (qs.map fr) (e14 a0 a1 (some (fr q)) a3 a4 a5 a6 (some d) a8 a9 a10 a11 a12 a13) G1
    refine s_lplus ha h1 (by omega) ?_
    refine lsum_loop De qs (acc + q) (a + 64 + 1) _ (Bd.add ha h1) (fun q h => hq q (List.mem_cons_of_mem _ h)) (by omega) fun x' => ?_
    have := k x'
    rw [sm_cons] at this
    rw [show acc + q + sm qs = acc + (q + sm qs) by grind]
    exact this
theorem lpow_loop (De : DEnds) (one : Rat) (hb : Bd 64 one) {a0 a1 a2 a5 a6 a8 a9 a10 a11 a12 a13 : Option D} : ∀ (ds : List D) (acc : Rat) (a : Nat) (x : Option D), Bd a acc → a + 64 * ds.length ≤ 6900 → (∀ x', De.nx (e14 a0 a1 a2 x' (some (fr one)) a5 a6 (some (fr (acc * one ^ ds.length))) a8 a9 a10 a11 a12 a13) G) →
    forD (.nm 3) (sSet 7 (yCall Q__law_times [] (aCons (wVar 7) (aCons (wVar 4) aNil)))) De ds (e14 a0 a1 a2 x (some (fr one)) a5 a6 (some (fr acc)) a8 a9 a10 a11 a12 a13) G
  | [], acc, a, x, ha, hl, k => by
    have := k x
    rw [show acc * one ^ ([] : List D).length = acc by show acc * one ^ 0 = acc; grind] at this
    exact this
  | d :: ds, acc, a, x, ha, hl, k => by
    rw [List.length_cons] at hl
    show Q__law_times [fr acc, fr one] G fun z G1 => forD (.nm 3) (sSet 7 (yCall Q__law_times [] (aCons (wVar 7) (aCons (wVar 4) aNil)))) De ds (e14 a0 a1 a2 (some d) (some (fr one)) a5 a6 (some z) a8 a9 a10 a11 a12 a13) G1
    refine s_ltimes ha hb (by omega) ?_
    refine lpow_loop De one hb ds (acc * one) (a + 64) _ (Bd.mul ha hb) (by omega) fun x' => ?_
    have := k x'
    rw [List.length_cons, Rat.pow_succ] at this
    rw [show acc * one * one ^ ds.length = acc * (one ^ ds.length * one) by grind]
    exact this
/-! ### the law's first part, from behind -/
abbrev deR (Q : KD) : DEnds := { nx := fun _ G' => Q .non G', rt := Q }
theorem fr_end {n : Nat} (hG : G[n]? = some (.nums 3)) (k : Q (.bl true) G) {a1 a2 a3 a4 a5 a6 a7 a8 a9 a10 a11 a12 a13 : Option D} :
    (wSeq (wPar 12 13 (aCons (yCall Q__law_pick [] (aCons (wVar 0) (aCons (yLst (aCons (wC (.int 0)) (aCons (yCall Q__law_integer [] (aCons (wVar 0) aNil)) aNil))) aNil))) (aCons (yCall Q__law_integer [] (aCons (wVar 0) aNil)) aNil)))
  (sRet (yAnd (yOp eqD (yCall Q_fraction [] (aCons (wVar 12) (aCons (wVar 13) aNil))) (yCall Q__law_fr [] (aCons (wVar 12) (aCons (wVar 13) aNil)))) (yOp eqD (yBl repC (aCons (yCall Q_fraction [(.int 1)] (aCons (wVar 12) aNil)) aNil)) (yBl repC (aCons (yTup (aCons (wVar 12) (aCons (wC (.int 1)) aNil))) aNil)))))) (deR Q) (e14 (some (.ref n)) a1 a2 a3 a4 a5 a6 a7 a8 a9 a10 a11 a12 a13) G := by
  refine s_integer hG fun i i0 i1 => ?_
  refine ⟨sz2, ?_⟩
  refine s_pick hG (show 1 ≤ 2 by decide) (show 2 < 2 ^ 64 by decide) fun d hd => ?_
  obtain ⟨t, rfl, ht⟩ : ∃ t : Int, d = .int t ∧ t.natAbs < 2 ^ 64 := by
    simp only [List.mem_cons, List.not_mem_nil, or_false] at hd
    rcases hd with rfl | rfl
    · exact ⟨0, rfl, by decide⟩
    · exact ⟨i, rfl, i1⟩
  refine s_integer hG fun b b0 b1 => ?_
  refine s_fraction (by omega) (by omega) b0 ?_
  refine s_fr t b b0 b1 (by decide) ?_
  refine eq_p ?_
  refine ite_yes (c := _ ∧ _) ⟨rfl, rfl⟩ ?_
  refine s_fraction (b := 1) (by omega) (by decide) (by decide) ?_
  have bt : Bd 64 (t : Rat) := Bd.int ht (by decide)
  rw [int_is]
  refine ⟨okR_by (smI_fr bt (by decide) (by decide)) (Nat.le_of_ble_eq_true rfl) (Nat.le_of_ble_eq_true rfl), ?_⟩
  refine ⟨sz2, ?_⟩
  have e : D.tup [.int t, .int 1] = fr (t : Rat) := by
    show _ = D.tup [.int (t : Rat).num, .int ((t : Rat).den : Nat)]
    rw [num_int, den_int]
    rfl
  rw [e]
  refine ⟨okR_by (smI_fr bt (by decide) (by decide)) (Nat.le_of_ble_eq_true rfl) (Nat.le_of_ble_eq_true rfl), ?_⟩
  refine eq_s ?_
  rw [decide_eq_true rfl]
  exact k
theorem fr_pow {n : Nat} (hG : G[n]? = some (.nums 3)) (k : Q (.bl true) G) {one : Rat} (ho : Bd 64 one) {a1 a2 a3 a5 a6 a7 a8 a9 a10 a11 a12 a13 : Option D} :
    (wSeq (wPar 11 7 (aCons (yCall Q__law_roll [] (aCons (wVar 0) (aCons (wC (.int 7)) aNil))) (aCons (yTup (aCons (wC (.int 1)) (aCons (wC (.int 1)) aNil))) aNil)))
  (wSeq (wFor (wiR1 (aCons (wVar 11) aNil)) (.nm 3) (sSet 7 (yCall Q__law_times [] (aCons (wVar 7) (aCons (wVar 4) aNil)))))
  (wSeq (sIf (yOrT (yCmT neD (yCall Q_power [] (aCons (wVar 4) (aCons (wVar 11) aNil))) (wVar 7)) (yCmT neD (yCall Q_power [] (aCons (wVar 4) (aCons (wC (.int 0)) aNil))) (yTup (aCons (wC (.int 1)) (aCons (wC (.int 1)) aNil))))) (sRet (wC (.bl false))) wNext)
  (wSeq (wPar 12 13 (aCons (yCall Q__law_pick [] (aCons (wVar 0) (aCons (yLst (aCons (wC (.int 0)) (aCons (yCall Q__law_integer [] (aCons (wVar 0) aNil)) aNil))) aNil))) (aCons (yCall Q__law_integer [] (aCons (wVar 0) aNil)) aNil)))
  (sRet (yAnd (yOp eqD (yCall Q_fraction [] (aCons (wVar 12) (aCons (wVar 13) aNil))) (yCall Q__law_fr [] (aCons (wVar 12) (aCons (wVar 13) aNil)))) (yOp eqD (yBl repC (aCons (yCall Q_fraction [(.int 1)] (aCons (wVar 12) aNil)) aNil)) (yBl repC (aCons (yTup (aCons (wVar 12) (aCons (wC (.int 1)) aNil))) aNil))))))))) (deR Q) (e14 (some (.ref n)) a1 a2 a3 (some (fr one)) a5 a6 a7 a8 a9 a10 a11 a12 a13) G := by
  refine s_roll hG (by decide) (by decide) fun r r0 r1 => ?_
  obtain ⟨m, rfl⟩ : ∃ m : Nat, r = m := ⟨r.toNat, by omega⟩
  refine ⟨sz2, ?_⟩
  refine ⟨⟨by omega, by rw [sizeLine_eq]; omega⟩, ?_⟩
  refine lpow_loop _ one ho (rngD 0 ((m : Int).toNat)) 1 1 _ bd1 (by rw [rngD_len]; omega) fun x' => ?_
  rw [rngD_len, Int.toNat_natCast, show (1 : Rat) * one ^ m = one ^ m by grind]
  refine s_power ho (by omega) ?_
  refine ne_same ?_
  refine s_power (m := 0) ho (by decide) ?_
  rw [show one ^ 0 = (1 : Rat) by grind]
  refine ⟨sz2, ?_⟩
  refine ne_same ?_
  exact fr_end hG k
theorem fr_row {n : Nat} (hG : G[n]? = some (.nums 3)) (k : Q (.bl true) G) {one : Rat} (ho : Bd 64 one) {a1 a2 a3 a5 a6 a7 a8 a9 a10 a11 a12 a13 : Option D} :
    (wSeq (wPar 10 7 (aCons (wLc (wiR1 (aCons (yCall Q__law_roll [] (aCons (wVar 0) (aCons (wC (.int 6)) aNil))) aNil)) (.nm 3) wYes (yCall Q__law_drawn [] (aCons (wVar 0) aNil)) [3]) (aCons (yTup (aCons (wC (.int 0)) (aCons (wC (.int 1)) aNil))) aNil)))
  (wSeq (wFor (wiS (wVar 10)) (.nm 2) (sSet 7 (yCall Q__law_plus [] (aCons (wVar 7) (aCons (wVar 2) aNil)))))
  (wSeq (sIf (yOrT (yCmT neD (yCall Q_total [] (aCons (yBl tupC (aCons (wVar 10) aNil)) aNil)) (wVar 7)) (yCmT neD (yCall Q_total [] (aCons (yBl tupC (aCons (yRev (wVar 10)) aNil)) aNil)) (wVar 7))) (sRet (wC (.bl false))) wNext)
  (wSeq (wPar 11 7 (aCons (yCall Q__law_roll [] (aCons (wVar 0) (aCons (wC (.int 7)) aNil))) (aCons (yTup (aCons (wC (.int 1)) (aCons (wC (.int 1)) aNil))) aNil)))
  (wSeq (wFor (wiR1 (aCons (wVar 11) aNil)) (.nm 3) (sSet 7 (yCall Q__law_times [] (aCons (wVar 7) (aCons (wVar 4) aNil)))))
  (wSeq (sIf (yOrT (yCmT neD (yCall Q_power [] (aCons (wVar 4) (aCons (wVar 11) aNil))) (wVar 7)) (yCmT neD (yCall Q_power [] (aCons (wVar 4) (aCons (wC (.int 0)) aNil))) (yTup (aCons (wC (.int 1)) (aCons (wC (.int 1)) aNil))))) (sRet (wC (.bl false))) wNext)
  (wSeq (wPar 12 13 (aCons (yCall Q__law_pick [] (aCons (wVar 0) (aCons (yLst (aCons (wC (.int 0)) (aCons (yCall Q__law_integer [] (aCons (wVar 0) aNil)) aNil))) aNil))) (aCons (yCall Q__law_integer [] (aCons (wVar 0) aNil)) aNil)))
  (sRet (yAnd (yOp eqD (yCall Q_fraction [] (aCons (wVar 12) (aCons (wVar 13) aNil))) (yCall Q__law_fr [] (aCons (wVar 12) (aCons (wVar 13) aNil)))) (yOp eqD (yBl repC (aCons (yCall Q_fraction [(.int 1)] (aCons (wVar 12) aNil)) aNil)) (yBl repC (aCons (yTup (aCons (wVar 12) (aCons (wC (.int 1)) aNil))) aNil)))))))))))) (deR Q) (e14 (some (.ref n)) a1 a2 a3 (some (fr one)) a5 a6 a7 a8 a9 a10 a11 a12 a13) G := by
  refine s_roll hG (by decide) (by decide) fun r r0 r1 => ?_
  refine ⟨⟨by omega, by rw [sizeLine_eq]; omega⟩, ?_⟩
  refine lc_drawn hG (ρ := wipeR (e14 (some (.ref n)) a1 a2 a3 (some (fr one)) a5 a6 a7 a8 a9 a10 a11 a12 a13) [3]) (fun d => rfl) _ _ fun qs hl hq => ?_
  rw [rngD_len] at hl
  refine ⟨sz2, ?_⟩
  refine lsum_loop _ qs 0 1 _ bd0 hq (by omega) fun x' => ?_
  rw [show (0 : Rat) + sm qs = sm qs by grind]
  refine s_total hq (by omega) ?_
  refine ne_same ?_
  have e : (qs.map fr).reverse = qs.reverse.map fr := by rw [List.map_reverse]
  show Q_total [.tup (qs.map fr).reverse] G _
  rw [e]
  refine s_total (qs := qs.reverse) (fun q h => hq q (List.mem_reverse.mp h)) (by rw [List.length_reverse]; omega) ?_
  rw [sm_rev]
  refine ne_same ?_
  exact fr_pow hG k ho
theorem cmp_rhs {p q : Rat} {a0 a1 a2 a3 a4 a5 a6 a7 a10 a11 a12 a13 : Option D} (k : Q (.int (cmpI p q)) G) :
    (yOp subD (yBl intC (aCons (yOp gtD (wVar 8) (wVar 9)) aNil)) (yBl intC (aCons (yOp ltD (wVar 8) (wVar 9)) aNil))) (e14 a0 a1 a2 a3 a4 a5 a6 a7 (some (.int (p.num * (q.den : Nat)))) (some (.int (q.num * (p.den : Nat)))) a10 a11 a12 a13) G Q := by
  try simp only [↓Dy.wSeq, ↓Dy.wNext, ↓Dy.sIf, ↓Dy.sRet, ↓Dy.sRetN, ↓Dy.sSet, ↓Dy.sAsg, ↓Dy.sExp, ↓Dy.wPar, ↓Dy.wPar3, ↓Dy.wSub, ↓Dy.yOp, ↓Dy.yUn, ↓Dy.yCmT, ↓Dy.yCh, ↓Dy.yChT, ↓Dy.yVal, ↓Dy.yNotT, ↓Dy.yAndT, ↓Dy.yOrT, ↓Dy.yAnd, ↓Dy.yOr, ↓Dy.yNot, ↓Dy.yIf, ↓Dy.yTup, ↓Dy.yLst, ↓Dy.yNum, ↓Dy.yBl, ↓Dy.yCall, ↓Dy.yRev, ↓Dy.wVar, ↓Dy.wC, ↓Dy.aNil, ↓Dy.aCons, ↓Dy.look, ↓Dy.onB, ↓Dy.onT, ↓Dy.bindT, ↓Dy.bindTs, ↓Dy.addD, ↓Dy.subD, ↓Dy.mulD, ↓Dy.fdivD, ↓Dy.modD, ↓Dy.powD, ↓Dy.negD, ↓Dy.ltD, ↓Dy.leD, ↓Dy.gtD, ↓Dy.geD, ↓Dy.eqD_int, ↓Dy.neD_int, ↓Dy.eqD_str, ↓Dy.neD_str, ↓Dy.eqD_p, ↓Dy.neD_p, ↓Dy.ix_p0, ↓Dy.ix_p1, ↓Dy.ix_t0, ↓Dy.ix_t1, ↓Dy.ix_t2, ↓Dy.isiC, ↓Dy.notTy, ↓Dy.tyn, ↓Dy.isiB, ↓Dy.lenC, ↓Dy.seqOf, ↓Dy.lstOf, ↓Dy.allC, ↓Dy.allB, ↓Dy.tupC, ↓Dy.lstC, ↓Dy.revD, ↓Dy.wLc, ↓Dy.lcD, ↓Dy.wiS, ↓Dy.seqF, ↓Dy.wYes, ↓Dy.wipeR, ↓Option.map_some, ↓Option.map_none, ↓Bool.not_true, ↓Bool.not_false, ↓Bool.and_true, ↓Bool.true_and, ↓Dy.absC, ↓Dy.intC, ↓Dy.maxC, ↓Dy.minC, ↓List.set_cons_zero, ↓List.set_cons_succ, ↓List.append_nil, ↓List.cons_append, ↓List.nil_append, ↓decide_eq_true_eq, ↓Bool.not_eq_true', ↓decide_eq_false_iff_not, ↓if_true, ↓if_false, ↓Bool.false_eq_true, reduceIte, reduceCtorEq, ↓List.length_cons, ↓List.length_nil, ↓true_and, ↓and_true]
  exact k
theorem fr_cmp {n : Nat} (hG : G[n]? = some (.nums 3)) (k : Q (.bl true) G) {one other third : Rat} (h1 : Bd 64 one) (h2 : Bd 64 other) (h3 : Bd 64 third) {a1 a2 a3 a7 a8 a9 a10 a11 a12 a13 : Option D} :
    (wSeq (wPar 8 9 (aCons (yOp mulD (yOp ixQ (wVar 4) (wC (.int 0))) (yOp ixQ (wVar 5) (wC (.int 1)))) (aCons (yOp mulD (yOp ixQ (wVar 5) (wC (.int 0))) (yOp ixQ (wVar 4) (wC (.int 1)))) aNil)))
  (wSeq (sIf (yOrT (yCmT neD (yCall Q_compared [] (aCons (wVar 4) (aCons (wVar 5) aNil))) (yOp subD (yBl intC (aCons (yOp gtD (wVar 8) (wVar 9)) aNil)) (yBl intC (aCons (yOp ltD (wVar 8) (wVar 9)) aNil)))) (yCmT neD (yCall Q_compared [] (aCons (wVar 4) (aCons (wVar 4) aNil))) (wC (.int 0)))) (sRet (wC (.bl false))) wNext)
  (wSeq (sIf (yCmT neD (yCall Q_times [] (aCons (yCall Q_plus [] (aCons (wVar 4) (aCons (wVar 5) aNil))) (aCons (wVar 6) aNil))) (yCall Q_plus [] (aCons (yCall Q_times [] (aCons (wVar 4) (aCons (wVar 6) aNil))) (aCons (yCall Q_times [] (aCons (wVar 5) (aCons (wVar 6) aNil))) aNil)))) (sRet (wC (.bl false))) wNext)
  (wSeq (wPar 10 7 (aCons (wLc (wiR1 (aCons (yCall Q__law_roll [] (aCons (wVar 0) (aCons (wC (.int 6)) aNil))) aNil)) (.nm 3) wYes (yCall Q__law_drawn [] (aCons (wVar 0) aNil)) [3]) (aCons (yTup (aCons (wC (.int 0)) (aCons (wC (.int 1)) aNil))) aNil)))
  (wSeq (wFor (wiS (wVar 10)) (.nm 2) (sSet 7 (yCall Q__law_plus [] (aCons (wVar 7) (aCons (wVar 2) aNil)))))
  (wSeq (sIf (yOrT (yCmT neD (yCall Q_total [] (aCons (yBl tupC (aCons (wVar 10) aNil)) aNil)) (wVar 7)) (yCmT neD (yCall Q_total [] (aCons (yBl tupC (aCons (yRev (wVar 10)) aNil)) aNil)) (wVar 7))) (sRet (wC (.bl false))) wNext)
  (wSeq (wPar 11 7 (aCons (yCall Q__law_roll [] (aCons (wVar 0) (aCons (wC (.int 7)) aNil))) (aCons (yTup (aCons (wC (.int 1)) (aCons (wC (.int 1)) aNil))) aNil)))
  (wSeq (wFor (wiR1 (aCons (wVar 11) aNil)) (.nm 3) (sSet 7 (yCall Q__law_times [] (aCons (wVar 7) (aCons (wVar 4) aNil)))))
  (wSeq (sIf (yOrT (yCmT neD (yCall Q_power [] (aCons (wVar 4) (aCons (wVar 11) aNil))) (wVar 7)) (yCmT neD (yCall Q_power [] (aCons (wVar 4) (aCons (wC (.int 0)) aNil))) (yTup (aCons (wC (.int 1)) (aCons (wC (.int 1)) aNil))))) (sRet (wC (.bl false))) wNext)
  (wSeq (wPar 12 13 (aCons (yCall Q__law_pick [] (aCons (wVar 0) (aCons (yLst (aCons (wC (.int 0)) (aCons (yCall Q__law_integer [] (aCons (wVar 0) aNil)) aNil))) aNil))) (aCons (yCall Q__law_integer [] (aCons (wVar 0) aNil)) aNil)))
  (sRet (yAnd (yOp eqD (yCall Q_fraction [] (aCons (wVar 12) (aCons (wVar 13) aNil))) (yCall Q__law_fr [] (aCons (wVar 12) (aCons (wVar 13) aNil)))) (yOp eqD (yBl repC (aCons (yCall Q_fraction [(.int 1)] (aCons (wVar 12) aNil)) aNil)) (yBl repC (aCons (yTup (aCons (wVar 12) (aCons (wC (.int 1)) aNil))) aNil))))))))))))))) (deR Q) (e14 (some (.ref n)) a1 a2 a3 (some (fr one)) (some (fr other)) (some (fr third)) a7 a8 a9 a10 a11 a12 a13) G := by
  refine ⟨mulOk h1.1 h2.den (by decide), ?_⟩
  refine ⟨mulOk h2.1 h1.den (by decide), ?_⟩
  refine s_cmp h1 h2 (by decide) ?_
  refine cmp_rhs ?_
  refine ne_sameI ?_
  refine s_cmp h1 h1 (by decide) ?_
  rw [cmp_self]
  refine ne_sameI ?_
  refine s_plus h1 h2 (by decide) ?_
  refine s_times (Bd.add h1 h2) h3 (by decide) ?_
  refine s_times h1 h3 (by decide) ?_
  refine s_times h2 h3 (by decide) ?_
  refine s_plus (Bd.mul h1 h3) (Bd.mul h2 h3) (by decide) ?_
  rw [Rat.add_mul]
  refine ne_same ?_
  exact fr_row hG k h1
end
end Km

/-! text M76f -/
set_option maxHeartbeats 400000
namespace Km
open PySem PySem.Spec PyProof.Rows L2 Dy Kw
section
variable {G : GP} {Q : KD}
theorem fr_over {De : DEnds} {one other : Rat} (h1 : Bd 64 one) (h2 : Bd 64 other) {a0 a1 a2 a3 a6 a7 a8 a9 a10 a11 a12 a13 : Option D} (k : ∀ x7, De.nx (e14 a0 a1 a2 a3 (some (fr one)) (some (fr other)) a6 x7 a8 a9 a10 a11 a12 a13) G) :
    (sIf (yCmT neD (yOp ixQ (wVar 5) (wC (.int 0))) (wC (.int 0))) (wSeq (sSet 7 (yCall Q__law_fr [] (aCons (yOp mulD (yOp ixQ (wVar 4) (wC (.int 0))) (yOp ixQ (wVar 5) (wC (.int 1)))) (aCons (yOp mulD (yOp ixQ (wVar 4) (wC (.int 1))) (yOp ixQ (wVar 5) (wC (.int 0)))) aNil))))
  (sIf (yOrT (yCmT neD (yBl repC (aCons (yCall Q_over [] (aCons (wVar 4) (aCons (wVar 5) aNil))) aNil)) (yBl repC (aCons (wVar 7) aNil))) (yCmT neD (yCall Q_times [] (aCons (yCall Q_over [] (aCons (wVar 4) (aCons (wVar 5) aNil))) (aCons (wVar 5) aNil))) (wVar 4))) (sRet (wC (.bl false))) wNext)) wNext) De (e14 a0 a1 a2 a3 (some (fr one)) (some (fr other)) a6 a7 a8 a9 a10 a11 a12 a13) G := by
  refine ne_i (i := other.num) (j := 0) ?_
  refine ite_n (c := other.num = 0) (fun z => ?_) fun _ => ?_
  · have h0 : other ≠ 0 := fun e => z (Rat.num_eq_zero.mpr e)
    refine ⟨mulOk h1.1 h2.den (by decide), ?_⟩
    refine ⟨mulOk h1.den h2.1 (by decide), ?_⟩
    refine s_fr _ _ (Int.mul_ne_zero (den_ne one) (num_ne h0)) (abs_mul h1.den h2.1) (by decide) ?_
    rw [div_is]
    have sd := smI_fr (Bd.div h1 h2 h0) (by decide) (by decide)
    refine s_over h1 h2 (by decide) h0 ?_
    refine ⟨okR_by sd (Nat.le_of_ble_eq_true rfl) (Nat.le_of_ble_eq_true rfl), ?_⟩
    refine ⟨okR_by sd (Nat.le_of_ble_eq_true rfl) (Nat.le_of_ble_eq_true rfl), ?_⟩
    refine ne_sameS ?_
    refine s_over h1 h2 (by decide) h0 ?_
    refine s_times (Bd.div h1 h2 h0) h2 (by decide) ?_
    rw [Rat.div_mul_cancel h0]
    refine ne_same ?_
    exact k _
  · exact k _
theorem s_fright {n : Nat} (hG : G[n]? = some (.nums 3)) (k : Q (.bl true) G) : Q__law_fractions_right [.ref n] G Q := by
  unfold Q__law_fractions_right
  refine ⟨rfl, ?_⟩
  refine s_drawn hG fun one h1 => ?_
  refine s_drawn hG fun other h2 => ?_
  refine s_drawn hG fun third h3 => ?_
  refine s_plus h1 h2 (by decide) ?_
  refine s_minus h1 h2 (by decide) ?_
  refine s_times h1 h2 (by decide) ?_
  refine s_minus h1 h2 (by decide) ?_
  refine s_plus (Bd.sub h1 h2) h2 (by decide) ?_
  rw [Rat.sub_add_cancel]
  refine ⟨sz4, ?_⟩
  have sm4 := smI_4 (smI_fr (Bd.add h1 h2) (by decide) (by decide)) (smI_fr (Bd.sub h1 h2) (by decide) (by decide)) (smI_fr (Bd.mul h1 h2) (by decide) (by decide)) (smI_fr h1 (by decide) (by decide))
  refine ⟨okR_by sm4 (Nat.le_of_ble_eq_true rfl) (Nat.le_of_ble_eq_true rfl), ?_⟩
  refine s_lplus h1 h2 (by decide) ?_
  refine s_lminus h1 h2 (by decide) ?_
  refine s_ltimes h1 h2 (by decide) ?_
  refine ⟨sz4, ?_⟩
  refine ⟨okR_by sm4 (Nat.le_of_ble_eq_true rfl) (Nat.le_of_ble_eq_true rfl), ?_⟩
  refine ne_sameS ?_
  refine fr_over h1 h2 fun x7 => ?_
  exact fr_cmp hG k h1 h2 h3
end
end Km

/-! text M76g -/
set_option maxHeartbeats 400000
namespace Km
open PySem PySem.Spec PyProof.Rows L2 Dy Kw
section
variable {G : GP} {Q : KD}
/-! ### the dice are made -/
theorem dice_0 {De : DEnds} {ns : List Int} {spot : Nat} {a b c : Option D} (k : ∀ z : Int, De.nx [some (.fz (ns.map .int)), some (.int spot), some (.int z), b, c] G) :
    (sSet 2 (yIf (yCmT ltD (wVar 1) (yBl lenC (aCons (wVar 0) aNil))) (yBl intC (aCons (yOp ixQ (wVar 0) (wVar 1)) aNil)) (yOp addD (yOp mulD (wC (.int 131)) (wVar 1)) (wC (.int 37))))) De [some (.fz (ns.map .int)), some (.int spot), a, b, c] G := by
  refine ite_d (c := ((spot : Nat) : Int) < ((ns.map D.int).length : Nat)) (fun h => ?_) fun h => ?_
  · have hi : spot < ns.length := by rw [List.length_map] at h; omega
    show ixQ (.fz (ns.map .int)) (.int spot) G fun d G1 => intC [d] G1 fun d2 G2 => De.nx [some (.fz (ns.map .int)), some (.int spot), some d2, b, c] G2
    refine ix_seq (ds := ns.map .int) (d := .int ns[spot]) rfl rfl (fun z e => by cases e) ?_ ?_
    · rw [List.getElem?_map, List.getElem?_eq_getElem hi]
      rfl
    · exact k _
  · exact ⟨mulOkL (by decide), k _⟩
theorem dice_1 {De : DEnds} {s : D} {spot : Nat} {z : Int} {b c : Option D} (k : ∀ g : Int, De.nx [some s, some (.int spot), some (.int z), some (.int g), c] G) :
    (sSet 3 (yOp modD (yBl intC (aCons (yBl absC (aCons (wVar 2) aNil)) aNil)) (yOp powD (yOp powD (wC (.int 10)) (wC (.int 53))) (wC (.int 6))))) De [some s, some (.int spot), some (.int z), b, c] G := by
  refine ⟨⟨by decide, by decide +kernel⟩, ?_⟩
  refine ⟨⟨by decide, by decide +kernel⟩, ?_⟩
  refine ⟨by decide +kernel, ?_⟩
  exact k _
theorem dice_2 {De : DEnds} {s : D} {spot : Nat} {z g : Int} {c : Option D} (k : ∀ h : Int, De.nx [some s, some (.int spot), some (.int z), some (.int g), some (.int h)] G) :
    (sSet 4 (yOp addD (yOp addD (yOp addD (yOp mulD (yOp modD (wVar 3) (wC (.int 2305843009213693907))) (wC (.int 73))) (yOp mulD (wC (.int 619)) (wVar 1))) (yOp mulD (wC (.int 41)) (yBl intC (aCons (yOp ltD (wVar 2) (wC (.int 0))) aNil)))) (wC (.int 17)))) De [some s, some (.int spot), some (.int z), some (.int g), c] G := by
  refine Ev.set (.add (.add (.add (.mul (.mod (.var rfl) .c (by decide)) .c (mulOkR (by decide))) (.mul .c (.var rfl) (mulOkL (by decide)))) (.mul .c (.intB (.lt (.var rfl) .c)) (mulOkL (by decide)))) .c) ?_
  exact k _
theorem dice_3 {z g h : Int} {s p : D} (k : Q (.ref G.length) (G ++ [.nums 3])) : (sRet (yNum (aCons (yBl maxC (aCons (wC (.int 0)) (aCons (yOp subD (wVar 3) (yOp powD (wC (.int 10)) (wC (.int 16)))) aNil))) (aCons (wVar 4) (aCons (wC (.int 0)) aNil))))) (deR Q) [some s, some p, some (.int z), some (.int g), some (.int h)] G := by
  refine ⟨⟨by decide, by decide +kernel⟩, ?_⟩
  refine ⟨sz3, ?_⟩
  exact k
theorem s_dice {ns : List Int} {spot : Nat} (k : Q (.ref G.length) (G ++ [.nums 3])) : Q__law_dice [.fz (ns.map .int), .int spot] G Q := by
  unfold Q__law_dice
  refine ⟨rfl, ?_⟩
  show (wSeq (sSet 2 (yIf (yCmT ltD (wVar 1) (yBl lenC (aCons (wVar 0) aNil))) (yBl intC (aCons (yOp ixQ (wVar 0) (wVar 1)) aNil)) (yOp addD (yOp mulD (wC (.int 131)) (wVar 1)) (wC (.int 37)))))
  (wSeq (sSet 3 (yOp modD (yBl intC (aCons (yBl absC (aCons (wVar 2) aNil)) aNil)) (yOp powD (yOp powD (wC (.int 10)) (wC (.int 53))) (wC (.int 6)))))
  (wSeq (sSet 4 (yOp addD (yOp addD (yOp addD (yOp mulD (yOp modD (wVar 3) (wC (.int 2305843009213693907))) (wC (.int 73))) (yOp mulD (wC (.int 619)) (wVar 1))) (yOp mulD (wC (.int 41)) (yBl intC (aCons (yOp ltD (wVar 2) (wC (.int 0))) aNil)))) (wC (.int 17))))
  (sRet (yNum (aCons (yBl maxC (aCons (wC (.int 0)) (aCons (yOp subD (wVar 3) (yOp powD (wC (.int 10)) (wC (.int 16)))) aNil))) (aCons (wVar 4) (aCons (wC (.int 0)) aNil)))))))) (deR Q) [some (.fz (ns.map .int)), some (.int spot), none, none, none] G
  refine sq (dice_0 fun z => ?_)
  show (wSeq (sSet 3 (yOp modD (yBl intC (aCons (yBl absC (aCons (wVar 2) aNil)) aNil)) (yOp powD (yOp powD (wC (.int 10)) (wC (.int 53))) (wC (.int 6)))))
  (wSeq (sSet 4 (yOp addD (yOp addD (yOp addD (yOp mulD (yOp modD (wVar 3) (wC (.int 2305843009213693907))) (wC (.int 73))) (yOp mulD (wC (.int 619)) (wVar 1))) (yOp mulD (wC (.int 41)) (yBl intC (aCons (yOp ltD (wVar 2) (wC (.int 0))) aNil)))) (wC (.int 17))))
  (sRet (yNum (aCons (yBl maxC (aCons (wC (.int 0)) (aCons (yOp subD (wVar 3) (yOp powD (wC (.int 10)) (wC (.int 16)))) aNil))) (aCons (wVar 4) (aCons (wC (.int 0)) aNil))))))) (deR Q) [some (.fz (ns.map .int)), some (.int spot), some (.int z), none, none] G
  refine sq (dice_1 fun g => ?_)
  show (wSeq (sSet 4 (yOp addD (yOp addD (yOp addD (yOp mulD (yOp modD (wVar 3) (wC (.int 2305843009213693907))) (wC (.int 73))) (yOp mulD (wC (.int 619)) (wVar 1))) (yOp mulD (wC (.int 41)) (yBl intC (aCons (yOp ltD (wVar 2) (wC (.int 0))) aNil)))) (wC (.int 17))))
  (sRet (yNum (aCons (yBl maxC (aCons (wC (.int 0)) (aCons (yOp subD (wVar 3) (yOp powD (wC (.int 10)) (wC (.int 16)))) aNil))) (aCons (wVar 4) (aCons (wC (.int 0)) aNil)))))) (deR Q) [some (.fz (ns.map .int)), some (.int spot), some (.int z), some (.int g), none] G
  refine sq (dice_2 fun h => ?_)
  exact dice_3 k
/-! ### the law's second part -/
theorem gd_lt {k : Nat} : ∀ (ns : List Int) (a : Nat), a < 2 ^ k → (∀ n ∈ ns, n.natAbs < 2 ^ k) → gd ns a < 2 ^ k
  | [], a, h, _ => h
  | n :: ns, a, h, hn => by
    refine gd_lt ns _ ?_ fun m hm => hn m (List.mem_cons_of_mem _ hm)
    by_cases z : n = 0
    · subst z
      rw [Int.gcd_zero_right, Int.natAbs_natCast]
      exact h
    · have := (gcd_small (t := (a : Int)) z (hn n (List.mem_cons_self ..))).2
      rwa [Int.natAbs_natCast] at this
theorem ml_lt : ∀ (ns : List Int) (a k : Nat), a < 2 ^ k → (∀ n ∈ ns, n.natAbs < 2 ^ 128) → ml ns a < 2 ^ (k + 128 * ns.length)
  | [], a, k, h, _ => h
  | n :: ns, a, k, h, hn => by
    have := ml_lt ns (st a n) (k + 128) (st_lt h (hn n (List.mem_cons_self ..))) fun m hm => hn m (List.mem_cons_of_mem _ hm)
    rw [List.length_cons, show k + 128 * (ns.length + 1) = k + 128 + 128 * ns.length by omega]
    exact this
theorem smI_int {k : Nat} {z : Int} (h : z.natAbs < 2 ^ k) (h0 : 0 < k) (hk : k ≤ 1920) : smI (.int z) = true := by
  have := log2_small h h0
  exact decide_eq_true (by omega)
abbrev e9 (a b c d e f g h i : Option D) : RHO := [a, b, c, d, e, f, g, h, i]
abbrev S9 (n : Nat) (c : Int) (b d : Option D) : Prop := True
theorem lc_nums {n : Nat} (hG : G[n]? = some (.nums 3)) {c : Int} (c1 : c.natAbs < 2 ^ 32) {a2 a3 a4 a5 a6 a7 : Option D} : ∀ (ds : List D) (x : Option D) (Q : List D → GP → Prop), (∀ ns : List Int, ns.length = ds.length → (∀ z ∈ ns, z.natAbs < 2 ^ 96) → Q (ns.map .int) G) →
    lcD (.nm 8) wYes (yOp mulD (wVar 1) (yCall Q__law_pick [] (aCons (wVar 0) (aCons (yLst (aCons (wC (.int 0)) (aCons (wC (.int 1)) (aCons (yCall Q__law_integer [] (aCons (wVar 0) aNil)) (aCons (yCall Q__law_integer [] (aCons (wVar 0) aNil)) aNil))))) aNil)))) (e9 (some (.ref n)) (some (.int c)) a2 a3 a4 a5 a6 a7 x) ds Q G
  | [], x, Q, k => k [] rfl (by simp)
  | d :: ds, x, Q, k => by
    refine s_integer hG fun i i0 i1 => ?_
    refine s_integer hG fun j j0 j1 => ?_
    refine ⟨sz4, ?_⟩
    refine s_pick hG (show 1 ≤ 4 by decide) (show 4 < 2 ^ 64 by decide) fun t ht => ?_
    obtain ⟨t, rfl, h⟩ : ∃ z : Int, t = .int z ∧ z.natAbs < 2 ^ 64 := by
      simp only [List.mem_cons, List.not_mem_nil, or_false] at ht
      rcases ht with rfl | rfl | rfl | rfl
      · exact ⟨0, rfl, by decide⟩
      · exact ⟨1, rfl, by decide⟩
      · exact ⟨i, rfl, i1⟩
      · exact ⟨j, rfl, j1⟩
    refine ⟨mulOk c1 h (by decide), ?_⟩
    refine lc_nums hG c1 ds x _ fun ns hl hn => ?_
    exact k (c * t :: ns) (by rw [List.length_cons, hl]; rfl) fun z hz => by
      rcases List.mem_cons.mp hz with rfl | hz
      · exact abs_mul c1 h
      · exact hn z hz
/-- one pair -/
theorem bz_body {De : DEnds} {f s : Int} (hf : f.natAbs < 2 ^ 96) (hs : s.natAbs < 2 ^ 96) {a0 a1 a2 a3 a4 a7 a8 : Option D} (k : ∀ t, De.nx (e9 a0 a1 a2 a3 a4 (some (.int f)) (some (.int s)) t a8) G) :
    (wSeq (sSet 7 (yCall Q_bezout [] (aCons (wVar 5) (aCons (wVar 6) aNil))))
  (wSeq (sIf (yOrT (yNotT (yVal (yBl isiC (aCons (wVar 7) (aCons (wC (.ty .tuple)) aNil))))) (yOrT (yCmT neD (yBl lenC (aCons (wVar 7) aNil)) (wC (.int 3))) (yCmT neD (yOp ixQ (wVar 7) (wC (.int 0))) (yCall Q__law_divisor [] (aCons (yLst (aCons (wVar 5) (aCons (wVar 6) aNil))) aNil))))) (sRet (wC (.bl false))) wNext)
  (sIf (yCmT neD (yOp addD (yOp mulD (wVar 5) (yOp ixQ (wVar 7) (wC (.int 1)))) (yOp mulD (wVar 6) (yOp ixQ (wVar 7) (wC (.int 2))))) (yOp ixQ (wVar 7) (wC (.int 0)))) (sRet (wC (.bl false))) wNext)))
    De (e9 a0 a1 a2 a3 a4 (some (.int f)) (some (.int s)) a7 a8) G := by
  refine s_bez hf hs (by decide) fun x y e hx hy => ?_
  refine ⟨rfl, ?_⟩
  refine ne_sameI (a := 3) ?_
  refine ⟨sz2, ?_⟩
  refine s_ldiv (ns := [f, s]) ?_
  have eg : gd [f, s] 0 = Int.gcd f s := by
    show Int.gcd (Int.gcd 0 f : Nat) s = _
    rw [Int.gcd_zero_left]
    show Nat.gcd (((f.natAbs : Nat) : Int).natAbs) s.natAbs = _
    rw [Int.natAbs_natCast]
    rfl
  rw [eg]
  refine ne_sameI ?_
  have l5 : ∀ t : D, look (e9 a0 a1 a2 a3 a4 (some (.int f)) (some (.int s)) (some t) a8) 5 = some (.int f) := fun _ => rfl
  have l6 : ∀ t : D, look (e9 a0 a1 a2 a3 a4 (some (.int f)) (some (.int s)) (some t) a8) 6 = some (.int s) := fun _ => rfl
  have l7 : ∀ t : D, look (e9 a0 a1 a2 a3 a4 (some (.int f)) (some (.int s)) (some t) a8) 7 = some t := fun _ => rfl
  have ev := Et.neI (Ev.add (G := G) (Ev.mul (Ev.var (l5 (t3 (Int.gcd f s : Nat) x y))) (Ev.t1 (Ev.var (l7 (t3 (Int.gcd f s : Nat) x y)))) (mulOk hf hx (by decide))) (Ev.mul (Ev.var (l6 (t3 (Int.gcd f s : Nat) x y))) (Ev.t2 (Ev.var (l7 (t3 (Int.gcd f s : Nat) x y)))) (mulOk hs hy (by decide))))
    (by rw [e]; exact Ev.t0 (Ev.var (l7 (t3 (Int.gcd f s : Nat) x y))))
  exact Et.ff ev (k _)
end
end Km

/-! text M76h -/
set_option maxHeartbeats 400000
namespace Km
open PySem PySem.Spec PyProof.Rows L2 Dy Kw
theorem ev_t2 {wa wb : WE} {ρ : RHO} {G : GP} {a b : D} (ha : Ev wa ρ G a) (hb : Ev wb ρ G b) : Ev (yTup (aCons wa (aCons wb aNil))) ρ G (.tup [a, b]) := fun Q q => ha _ (hb _ ⟨sz2, q⟩)
theorem ev_t4 {wa wb wc wd : WE} {ρ : RHO} {G : GP} {a b c d : D} (ha : Ev wa ρ G a) (hb : Ev wb ρ G b) (hc : Ev wc ρ G c) (hd : Ev wd ρ G d) : Ev (yTup (aCons wa (aCons wb (aCons wc (aCons wd aNil))))) ρ G (.tup [a, b, c, d]) := fun Q q => ha _ (hb _ (hc _ (hd _ ⟨sz4, q⟩)))
theorem for_tup {wa : WE} {g : Tg} {wb : WS} {De : DEnds} {ρ : RHO} {G : GP} {ds : List D} (h : Ev wa ρ G (.tup ds)) (k : forD g wb De ds ρ G) : wFor (wiS wa) g wb De ρ G := h (fun d G1 => match seqF d with | some ds => forD g wb De ds ρ G1 | none => False) k
section
variable {G : GP} {Q : KD}
abbrev bodyB : WS := (wSeq (sSet 7 (yCall Q_bezout [] (aCons (wVar 5) (aCons (wVar 6) aNil))))
  (wSeq (sIf (yOrT (yNotT (yVal (yBl isiC (aCons (wVar 7) (aCons (wC (.ty .tuple)) aNil))))) (yOrT (yCmT neD (yBl lenC (aCons (wVar 7) aNil)) (wC (.int 3))) (yCmT neD (yOp ixQ (wVar 7) (wC (.int 0))) (yCall Q__law_divisor [] (aCons (yLst (aCons (wVar 5) (aCons (wVar 6) aNil))) aNil))))) (sRet (wC (.bl false))) wNext)
  (sIf (yCmT neD (yOp addD (yOp mulD (wVar 5) (yOp ixQ (wVar 7) (wC (.int 1)))) (yOp mulD (wVar 6) (yOp ixQ (wVar 7) (wC (.int 2))))) (yOp ixQ (wVar 7) (wC (.int 0)))) (sRet (wC (.bl false))) wNext)))
theorem bz_loop {De : DEnds} {a0 a1 a2 a3 a4 a8 : Option D} (k : ∀ x5 x6 x7, De.nx (e9 a0 a1 a2 a3 a4 x5 x6 x7 a8) G) : ∀ (ps : List (Int × Int)) (a5 a6 a7 : Option D), (∀ p ∈ ps, p.1.natAbs < 2 ^ 96 ∧ p.2.natAbs < 2 ^ 96) →
    forD (.tp [.nm 5, .nm 6]) bodyB De (ps.map fun p => D.tup [.int p.1, .int p.2]) (e9 a0 a1 a2 a3 a4 a5 a6 a7 a8) G
  | [], a5, a6, a7, h => k a5 a6 a7
  | p :: ps, a5, a6, a7, h => by
    obtain ⟨h1, h2⟩ := h p (List.mem_cons_self ..)
    show bodyB { De with nx := forD (.tp [.nm 5, .nm 6]) bodyB De (ps.map fun p => D.tup [.int p.1, .int p.2]), ct := forD (.tp [.nm 5, .nm 6]) bodyB De (ps.map fun p => D.tup [.int p.1, .int p.2]), bk := De.nx } (e9 a0 a1 a2 a3 a4 (some (.int p.1)) (some (.int p.2)) a7 a8) G
    refine bz_body h1 h2 fun t => ?_
    exact bz_loop k ps _ _ _ fun q hq => h q (List.mem_cons_of_mem _ hq)
theorem dr_5 {De : DEnds} {a0 a1 a2 a5 a6 a7 a8 : Option D} {f s : Int} (hf : f.natAbs < 2 ^ 96) (hs : s.natAbs < 2 ^ 96) (k : ∀ x5 x6 x7, De.nx (e9 a0 a1 a2 (some (.int f)) (some (.int s)) x5 x6 x7 a8) G) :
    (wFor (wiS (yTup (aCons (yTup (aCons (wVar 3) (aCons (wVar 4) aNil))) (aCons (yTup (aCons (wVar 4) (aCons (wVar 3) aNil))) (aCons (yTup (aCons (wVar 3) (aCons (wC (.int 0)) aNil))) (aCons (yTup (aCons (wVar 3) (aCons (wVar 3) aNil))) aNil)))))) (.tp [(.nm 5), (.nm 6)]) (wSeq (sSet 7 (yCall Q_bezout [] (aCons (wVar 5) (aCons (wVar 6) aNil))))
  (wSeq (sIf (yOrT (yNotT (yVal (yBl isiC (aCons (wVar 7) (aCons (wC (.ty .tuple)) aNil))))) (yOrT (yCmT neD (yBl lenC (aCons (wVar 7) aNil)) (wC (.int 3))) (yCmT neD (yOp ixQ (wVar 7) (wC (.int 0))) (yCall Q__law_divisor [] (aCons (yLst (aCons (wVar 5) (aCons (wVar 6) aNil))) aNil))))) (sRet (wC (.bl false))) wNext)
  (sIf (yCmT neD (yOp addD (yOp mulD (wVar 5) (yOp ixQ (wVar 7) (wC (.int 1)))) (yOp mulD (wVar 6) (yOp ixQ (wVar 7) (wC (.int 2))))) (yOp ixQ (wVar 7) (wC (.int 0)))) (sRet (wC (.bl false))) wNext)))) De (e9 a0 a1 a2 (some (.int f)) (some (.int s)) a5 a6 a7 a8) G := by
  refine for_tup (ev_t4 (ev_t2 (Ev.var (n := 3) (d := .int f) rfl) (Ev.var (n := 4) (d := .int s) rfl)) (ev_t2 (Ev.var (n := 4) (d := .int s) rfl) (Ev.var (n := 3) (d := .int f) rfl)) (ev_t2 (Ev.var (n := 3) (d := .int f) rfl) Ev.c) (ev_t2 (Ev.var (n := 3) (d := .int f) rfl) (Ev.var (n := 3) (d := .int f) rfl))) ?_
  refine bz_loop k [(f, s), (s, f), (f, 0), (f, f)] a5 a6 a7 fun p hp => ?_
  simp only [List.mem_cons, List.not_mem_nil, or_false] at hp
  rcases hp with rfl | rfl | rfl | rfl
  · exact ⟨hf, hs⟩
  · exact ⟨hs, hf⟩
  · exact ⟨hf, by show (0 : Int).natAbs < _; decide⟩
  · exact ⟨hf, hf⟩
theorem dr_4 {De : DEnds} {n : Nat} (hG : G[n]? = some (.nums 3)) {c : Int} (hc : c.natAbs < 2 ^ 32) {a2 a3 a4 a5 a6 a7 a8 : Option D} (k : ∀ f s : Int, f.natAbs < 2 ^ 96 → s.natAbs < 2 ^ 96 → De.nx (e9 (some (.ref n)) (some (.int c)) a2 (some (.int f)) (some (.int s)) a5 a6 a7 a8) G) :
    (wPar 3 4 (aCons (yOp mulD (wVar 1) (yCall Q__law_pick [] (aCons (wVar 0) (aCons (yLst (aCons (wC (.int 0)) (aCons (yCall Q__law_integer [] (aCons (wVar 0) aNil)) aNil))) aNil)))) (aCons (yOp mulD (wVar 1) (yCall Q__law_integer [] (aCons (wVar 0) aNil))) aNil))) De (e9 (some (.ref n)) (some (.int c)) a2 a3 a4 a5 a6 a7 a8) G := by
  refine s_integer hG fun i i0 i1 => ?_
  refine ⟨sz2, ?_⟩
  refine s_pick hG (show 1 ≤ 2 by decide) (show 2 < 2 ^ 64 by decide) fun d hd => ?_
  obtain ⟨t, rfl, ht⟩ : ∃ t : Int, d = .int t ∧ t.natAbs < 2 ^ 64 := by
    simp only [List.mem_cons, List.not_mem_nil, or_false] at hd
    rcases hd with rfl | rfl
    · exact ⟨0, rfl, by decide⟩
    · exact ⟨i, rfl, i1⟩
  refine ⟨mulOk hc ht (by decide), ?_⟩
  refine s_integer hG fun j j0 j1 => ?_
  refine ⟨mulOk hc j1 (by decide), ?_⟩
  exact k _ _ (abs_mul hc ht) (abs_mul hc j1)
theorem dr_2 {De : DEnds} {ns : List Int} (hn : ∀ z ∈ ns, z.natAbs < 2 ^ 96) {a0 a1 a3 a4 a5 a6 a7 a8 : Option D} (k : De.nx (e9 a0 a1 (some (.lst (ns.map .int))) a3 a4 a5 a6 a7 a8) G) :
    (sIf (yCmT neD (yBl repC (aCons (yCall Q_greatest_divisor [] (aCons (yBl tupC (aCons (wVar 2) aNil)) aNil)) aNil)) (yBl repC (aCons (yCall Q__law_divisor [] (aCons (wVar 2) aNil)) aNil))) (sRet (wC (.bl false))) wNext) De (e9 a0 a1 (some (.lst (ns.map .int))) a3 a4 a5 a6 a7 a8) G := by
  have hg := gd_lt (k := 96) ns 0 (by decide) hn
  have sg : smI (.int (gd ns 0 : Nat)) = true := smI_int (k := 96) (by rw [Int.natAbs_natCast]; exact hg) (by decide) (by decide)
  refine s_gdiv ?_
  refine ⟨okR_by sg (Nat.le_of_ble_eq_true rfl) (Nat.le_of_ble_eq_true rfl), ?_⟩
  refine s_ldiv ?_
  refine ⟨okR_by sg (Nat.le_of_ble_eq_true rfl) (Nat.le_of_ble_eq_true rfl), ?_⟩
  refine ne_sameS ?_
  exact k
theorem dr_3 {De : DEnds} {ns : List Int} (hn : ∀ z ∈ ns, z.natAbs < 2 ^ 96) (hl : ns.length ≤ 5) {a0 a1 a3 a4 a5 a6 a7 a8 : Option D} (k : De.nx (e9 a0 a1 (some (.lst (ns.map .int))) a3 a4 a5 a6 a7 a8) G) :
    (sIf (yCmT neD (yBl repC (aCons (yCall Q_least_multiple_of [] (aCons (yBl tupC (aCons (wVar 2) aNil)) aNil)) aNil)) (yBl repC (aCons (yCall Q__law_multiple [] (aCons (wVar 2) aNil)) aNil))) (sRet (wC (.bl false))) wNext) De (e9 a0 a1 (some (.lst (ns.map .int))) a3 a4 a5 a6 a7 a8) G := by
  have h8 : ∀ z ∈ ns, z.natAbs < 2 ^ 128 := fun z hz => abs_up (hn z hz) (by decide)
  have hm : (mv ns).natAbs < 2 ^ (1 + 128 * 5) := by
    unfold mv
    split
    · exact Nat.two_pow_pos _
    · rw [Int.natAbs_natCast]
      exact Nat.lt_of_lt_of_le (ml_lt ns 1 1 (by decide) h8) (Nat.pow_le_pow_right (by decide) (by omega))
  have sg : smI (.int (mv ns)) = true := smI_int hm (by decide) (by decide)
  refine s_lmul h8 (by omega) ?_
  refine ⟨okR_by sg (Nat.le_of_ble_eq_true rfl) (Nat.le_of_ble_eq_true rfl), ?_⟩
  refine s_lmult h8 (by omega) ?_
  refine ⟨okR_by sg (Nat.le_of_ble_eq_true rfl) (Nat.le_of_ble_eq_true rfl), ?_⟩
  refine ne_sameS ?_
  exact k
theorem dr_1 {De : DEnds} {n : Nat} (hG : G[n]? = some (.nums 3)) {c : Int} (hc : c.natAbs < 2 ^ 32) {a2 a3 a4 a5 a6 a7 a8 : Option D} (k : ∀ ns : List Int, ns.length ≤ 5 → (∀ z ∈ ns, z.natAbs < 2 ^ 96) → De.nx (e9 (some (.ref n)) (some (.int c)) (some (.lst (ns.map .int))) a3 a4 a5 a6 a7 a8) G) :
    (sSet 2 (wLc (wiR1 (aCons (yCall Q__law_roll [] (aCons (wVar 0) (aCons (wC (.int 5)) aNil))) aNil)) (.nm 8) wYes (yOp mulD (wVar 1) (yCall Q__law_pick [] (aCons (wVar 0) (aCons (yLst (aCons (wC (.int 0)) (aCons (wC (.int 1)) (aCons (yCall Q__law_integer [] (aCons (wVar 0) aNil)) (aCons (yCall Q__law_integer [] (aCons (wVar 0) aNil)) aNil))))) aNil)))) [8])) De (e9 (some (.ref n)) (some (.int c)) a2 a3 a4 a5 a6 a7 a8) G := by
  refine s_roll hG (by decide) (by decide) fun r r0 r1 => ?_
  refine ⟨⟨by omega, by rw [sizeLine_eq]; omega⟩, ?_⟩
  refine lc_nums hG hc _ none _ fun ns hl hn => ?_
  rw [rngD_len] at hl
  exact k ns (by omega) hn
theorem dr_0 {De : DEnds} {n : Nat} (hG : G[n]? = some (.nums 3)) {a1 a2 a3 a4 a5 a6 a7 a8 : Option D} (k : ∀ c : Int, c.natAbs < 2 ^ 32 → De.nx (e9 (some (.ref n)) (some (.int c)) a2 a3 a4 a5 a6 a7 a8) G) :
    (sSet 1 (yCall Q__law_pick [] (aCons (wVar 0) (aCons (yLst (aCons (wC (.int 1)) (aCons (wC (.int 1)) (aCons (wC (.int 2)) (aCons (wC (.int 6)) (aCons (yOp addD (yOp powD (wC (.int 10)) (wC (.int 9))) (wC (.int 7))) aNil)))))) aNil)))) De (e9 (some (.ref n)) a1 a2 a3 a4 a5 a6 a7 a8) G := by
  refine ⟨⟨by decide, by decide +kernel⟩, ?_⟩
  refine ⟨sz5, ?_⟩
  refine s_pick hG (show 1 ≤ 5 by decide) (show 5 < 2 ^ 64 by decide) fun d hd => ?_
  obtain ⟨t, rfl, ht⟩ : ∃ t : Int, d = .int t ∧ t.natAbs < 2 ^ 32 := by
    simp only [List.mem_cons, List.not_mem_nil, or_false] at hd
    rcases hd with rfl | rfl | rfl | rfl | rfl
    · exact ⟨_, rfl, by decide⟩
    · exact ⟨_, rfl, by decide⟩
    · exact ⟨_, rfl, by decide⟩
    · exact ⟨_, rfl, by decide⟩
    · exact ⟨_, rfl, by decide⟩
  exact k t ht
theorem s_dright {n : Nat} (hG : G[n]? = some (.nums 3)) (k : Q (.bl true) G) : Q__law_divisors_right [.ref n] G Q := by
  unfold Q__law_divisors_right
  refine ⟨rfl, ?_⟩
  show (wSeq (sSet 1 (yCall Q__law_pick [] (aCons (wVar 0) (aCons (yLst (aCons (wC (.int 1)) (aCons (wC (.int 1)) (aCons (wC (.int 2)) (aCons (wC (.int 6)) (aCons (yOp addD (yOp powD (wC (.int 10)) (wC (.int 9))) (wC (.int 7))) aNil)))))) aNil))))
  (wSeq (sSet 2 (wLc (wiR1 (aCons (yCall Q__law_roll [] (aCons (wVar 0) (aCons (wC (.int 5)) aNil))) aNil)) (.nm 8) wYes (yOp mulD (wVar 1) (yCall Q__law_pick [] (aCons (wVar 0) (aCons (yLst (aCons (wC (.int 0)) (aCons (wC (.int 1)) (aCons (yCall Q__law_integer [] (aCons (wVar 0) aNil)) (aCons (yCall Q__law_integer [] (aCons (wVar 0) aNil)) aNil))))) aNil)))) [8]))
  (wSeq (sIf (yCmT neD (yBl repC (aCons (yCall Q_greatest_divisor [] (aCons (yBl tupC (aCons (wVar 2) aNil)) aNil)) aNil)) (yBl repC (aCons (yCall Q__law_divisor [] (aCons (wVar 2) aNil)) aNil))) (sRet (wC (.bl false))) wNext)
  (wSeq (sIf (yCmT neD (yBl repC (aCons (yCall Q_least_multiple_of [] (aCons (yBl tupC (aCons (wVar 2) aNil)) aNil)) aNil)) (yBl repC (aCons (yCall Q__law_multiple [] (aCons (wVar 2) aNil)) aNil))) (sRet (wC (.bl false))) wNext)
  (wSeq (wPar 3 4 (aCons (yOp mulD (wVar 1) (yCall Q__law_pick [] (aCons (wVar 0) (aCons (yLst (aCons (wC (.int 0)) (aCons (yCall Q__law_integer [] (aCons (wVar 0) aNil)) aNil))) aNil)))) (aCons (yOp mulD (wVar 1) (yCall Q__law_integer [] (aCons (wVar 0) aNil))) aNil)))
  (wSeq (wFor (wiS (yTup (aCons (yTup (aCons (wVar 3) (aCons (wVar 4) aNil))) (aCons (yTup (aCons (wVar 4) (aCons (wVar 3) aNil))) (aCons (yTup (aCons (wVar 3) (aCons (wC (.int 0)) aNil))) (aCons (yTup (aCons (wVar 3) (aCons (wVar 3) aNil))) aNil)))))) (.tp [(.nm 5), (.nm 6)]) (wSeq (sSet 7 (yCall Q_bezout [] (aCons (wVar 5) (aCons (wVar 6) aNil))))
  (wSeq (sIf (yOrT (yNotT (yVal (yBl isiC (aCons (wVar 7) (aCons (wC (.ty .tuple)) aNil))))) (yOrT (yCmT neD (yBl lenC (aCons (wVar 7) aNil)) (wC (.int 3))) (yCmT neD (yOp ixQ (wVar 7) (wC (.int 0))) (yCall Q__law_divisor [] (aCons (yLst (aCons (wVar 5) (aCons (wVar 6) aNil))) aNil))))) (sRet (wC (.bl false))) wNext)
  (sIf (yCmT neD (yOp addD (yOp mulD (wVar 5) (yOp ixQ (wVar 7) (wC (.int 1)))) (yOp mulD (wVar 6) (yOp ixQ (wVar 7) (wC (.int 2))))) (yOp ixQ (wVar 7) (wC (.int 0)))) (sRet (wC (.bl false))) wNext))))
  (sRet (wC (.bl true))))))))) (deR Q) (e9 (some (.ref n)) none none none none none none none none) G
  refine sq (dr_0 hG fun c hc => ?_)
  show (wSeq (sSet 2 (wLc (wiR1 (aCons (yCall Q__law_roll [] (aCons (wVar 0) (aCons (wC (.int 5)) aNil))) aNil)) (.nm 8) wYes (yOp mulD (wVar 1) (yCall Q__law_pick [] (aCons (wVar 0) (aCons (yLst (aCons (wC (.int 0)) (aCons (wC (.int 1)) (aCons (yCall Q__law_integer [] (aCons (wVar 0) aNil)) (aCons (yCall Q__law_integer [] (aCons (wVar 0) aNil)) aNil))))) aNil)))) [8]))
  (wSeq (sIf (yCmT neD (yBl repC (aCons (yCall Q_greatest_divisor [] (aCons (yBl tupC (aCons (wVar 2) aNil)) aNil)) aNil)) (yBl repC (aCons (yCall Q__law_divisor [] (aCons (wVar 2) aNil)) aNil))) (sRet (wC (.bl false))) wNext)
  (wSeq (sIf (yCmT neD (yBl repC (aCons (yCall Q_least_multiple_of [] (aCons (yBl tupC (aCons (wVar 2) aNil)) aNil)) aNil)) (yBl repC (aCons (yCall Q__law_multiple [] (aCons (wVar 2) aNil)) aNil))) (sRet (wC (.bl false))) wNext)
  (wSeq (wPar 3 4 (aCons (yOp mulD (wVar 1) (yCall Q__law_pick [] (aCons (wVar 0) (aCons (yLst (aCons (wC (.int 0)) (aCons (yCall Q__law_integer [] (aCons (wVar 0) aNil)) aNil))) aNil)))) (aCons (yOp mulD (wVar 1) (yCall Q__law_integer [] (aCons (wVar 0) aNil))) aNil)))
  (wSeq (wFor (wiS (yTup (aCons (yTup (aCons (wVar 3) (aCons (wVar 4) aNil))) (aCons (yTup (aCons (wVar 4) (aCons (wVar 3) aNil))) (aCons (yTup (aCons (wVar 3) (aCons (wC (.int 0)) aNil))) (aCons (yTup (aCons (wVar 3) (aCons (wVar 3) aNil))) aNil)))))) (.tp [(.nm 5), (.nm 6)]) (wSeq (sSet 7 (yCall Q_bezout [] (aCons (wVar 5) (aCons (wVar 6) aNil))))
  (wSeq (sIf (yOrT (yNotT (yVal (yBl isiC (aCons (wVar 7) (aCons (wC (.ty .tuple)) aNil))))) (yOrT (yCmT neD (yBl lenC (aCons (wVar 7) aNil)) (wC (.int 3))) (yCmT neD (yOp ixQ (wVar 7) (wC (.int 0))) (yCall Q__law_divisor [] (aCons (yLst (aCons (wVar 5) (aCons (wVar 6) aNil))) aNil))))) (sRet (wC (.bl false))) wNext)
  (sIf (yCmT neD (yOp addD (yOp mulD (wVar 5) (yOp ixQ (wVar 7) (wC (.int 1)))) (yOp mulD (wVar 6) (yOp ixQ (wVar 7) (wC (.int 2))))) (yOp ixQ (wVar 7) (wC (.int 0)))) (sRet (wC (.bl false))) wNext))))
  (sRet (wC (.bl true)))))))) (deR Q) (e9 (some (.ref n)) (some (.int c)) none none none none none none none) G
  refine sq (dr_1 hG hc fun ns hl hn => ?_)
  show (wSeq (sIf (yCmT neD (yBl repC (aCons (yCall Q_greatest_divisor [] (aCons (yBl tupC (aCons (wVar 2) aNil)) aNil)) aNil)) (yBl repC (aCons (yCall Q__law_divisor [] (aCons (wVar 2) aNil)) aNil))) (sRet (wC (.bl false))) wNext)
  (wSeq (sIf (yCmT neD (yBl repC (aCons (yCall Q_least_multiple_of [] (aCons (yBl tupC (aCons (wVar 2) aNil)) aNil)) aNil)) (yBl repC (aCons (yCall Q__law_multiple [] (aCons (wVar 2) aNil)) aNil))) (sRet (wC (.bl false))) wNext)
  (wSeq (wPar 3 4 (aCons (yOp mulD (wVar 1) (yCall Q__law_pick [] (aCons (wVar 0) (aCons (yLst (aCons (wC (.int 0)) (aCons (yCall Q__law_integer [] (aCons (wVar 0) aNil)) aNil))) aNil)))) (aCons (yOp mulD (wVar 1) (yCall Q__law_integer [] (aCons (wVar 0) aNil))) aNil)))
  (wSeq (wFor (wiS (yTup (aCons (yTup (aCons (wVar 3) (aCons (wVar 4) aNil))) (aCons (yTup (aCons (wVar 4) (aCons (wVar 3) aNil))) (aCons (yTup (aCons (wVar 3) (aCons (wC (.int 0)) aNil))) (aCons (yTup (aCons (wVar 3) (aCons (wVar 3) aNil))) aNil)))))) (.tp [(.nm 5), (.nm 6)]) (wSeq (sSet 7 (yCall Q_bezout [] (aCons (wVar 5) (aCons (wVar 6) aNil))))
  (wSeq (sIf (yOrT (yNotT (yVal (yBl isiC (aCons (wVar 7) (aCons (wC (.ty .tuple)) aNil))))) (yOrT (yCmT neD (yBl lenC (aCons (wVar 7) aNil)) (wC (.int 3))) (yCmT neD (yOp ixQ (wVar 7) (wC (.int 0))) (yCall Q__law_divisor [] (aCons (yLst (aCons (wVar 5) (aCons (wVar 6) aNil))) aNil))))) (sRet (wC (.bl false))) wNext)
  (sIf (yCmT neD (yOp addD (yOp mulD (wVar 5) (yOp ixQ (wVar 7) (wC (.int 1)))) (yOp mulD (wVar 6) (yOp ixQ (wVar 7) (wC (.int 2))))) (yOp ixQ (wVar 7) (wC (.int 0)))) (sRet (wC (.bl false))) wNext))))
  (sRet (wC (.bl true))))))) (deR Q) (e9 (some (.ref n)) (some (.int c)) (some (.lst (ns.map .int))) none none none none none none) G
  refine sq (dr_2 hn ?_)
  show (wSeq (sIf (yCmT neD (yBl repC (aCons (yCall Q_least_multiple_of [] (aCons (yBl tupC (aCons (wVar 2) aNil)) aNil)) aNil)) (yBl repC (aCons (yCall Q__law_multiple [] (aCons (wVar 2) aNil)) aNil))) (sRet (wC (.bl false))) wNext)
  (wSeq (wPar 3 4 (aCons (yOp mulD (wVar 1) (yCall Q__law_pick [] (aCons (wVar 0) (aCons (yLst (aCons (wC (.int 0)) (aCons (yCall Q__law_integer [] (aCons (wVar 0) aNil)) aNil))) aNil)))) (aCons (yOp mulD (wVar 1) (yCall Q__law_integer [] (aCons (wVar 0) aNil))) aNil)))
  (wSeq (wFor (wiS (yTup (aCons (yTup (aCons (wVar 3) (aCons (wVar 4) aNil))) (aCons (yTup (aCons (wVar 4) (aCons (wVar 3) aNil))) (aCons (yTup (aCons (wVar 3) (aCons (wC (.int 0)) aNil))) (aCons (yTup (aCons (wVar 3) (aCons (wVar 3) aNil))) aNil)))))) (.tp [(.nm 5), (.nm 6)]) (wSeq (sSet 7 (yCall Q_bezout [] (aCons (wVar 5) (aCons (wVar 6) aNil))))
  (wSeq (sIf (yOrT (yNotT (yVal (yBl isiC (aCons (wVar 7) (aCons (wC (.ty .tuple)) aNil))))) (yOrT (yCmT neD (yBl lenC (aCons (wVar 7) aNil)) (wC (.int 3))) (yCmT neD (yOp ixQ (wVar 7) (wC (.int 0))) (yCall Q__law_divisor [] (aCons (yLst (aCons (wVar 5) (aCons (wVar 6) aNil))) aNil))))) (sRet (wC (.bl false))) wNext)
  (sIf (yCmT neD (yOp addD (yOp mulD (wVar 5) (yOp ixQ (wVar 7) (wC (.int 1)))) (yOp mulD (wVar 6) (yOp ixQ (wVar 7) (wC (.int 2))))) (yOp ixQ (wVar 7) (wC (.int 0)))) (sRet (wC (.bl false))) wNext))))
  (sRet (wC (.bl true)))))) (deR Q) (e9 (some (.ref n)) (some (.int c)) (some (.lst (ns.map .int))) none none none none none none) G
  refine sq (dr_3 hn hl ?_)
  show (wSeq (wPar 3 4 (aCons (yOp mulD (wVar 1) (yCall Q__law_pick [] (aCons (wVar 0) (aCons (yLst (aCons (wC (.int 0)) (aCons (yCall Q__law_integer [] (aCons (wVar 0) aNil)) aNil))) aNil)))) (aCons (yOp mulD (wVar 1) (yCall Q__law_integer [] (aCons (wVar 0) aNil))) aNil)))
  (wSeq (wFor (wiS (yTup (aCons (yTup (aCons (wVar 3) (aCons (wVar 4) aNil))) (aCons (yTup (aCons (wVar 4) (aCons (wVar 3) aNil))) (aCons (yTup (aCons (wVar 3) (aCons (wC (.int 0)) aNil))) (aCons (yTup (aCons (wVar 3) (aCons (wVar 3) aNil))) aNil)))))) (.tp [(.nm 5), (.nm 6)]) (wSeq (sSet 7 (yCall Q_bezout [] (aCons (wVar 5) (aCons (wVar 6) aNil))))
  (wSeq (sIf (yOrT (yNotT (yVal (yBl isiC (aCons (wVar 7) (aCons (wC (.ty .tuple)) aNil))))) (yOrT (yCmT neD (yBl lenC (aCons (wVar 7) aNil)) (wC (.int 3))) (yCmT neD (yOp ixQ (wVar 7) (wC (.int 0))) (yCall Q__law_divisor [] (aCons (yLst (aCons (wVar 5) (aCons (wVar 6) aNil))) aNil))))) (sRet (wC (.bl false))) wNext)
  (sIf (yCmT neD (yOp addD (yOp mulD (wVar 5) (yOp ixQ (wVar 7) (wC (.int 1)))) (yOp mulD (wVar 6) (yOp ixQ (wVar 7) (wC (.int 2))))) (yOp ixQ (wVar 7) (wC (.int 0)))) (sRet (wC (.bl false))) wNext))))
  (sRet (wC (.bl true))))) (deR Q) (e9 (some (.ref n)) (some (.int c)) (some (.lst (ns.map .int))) none none none none none none) G
  refine sq (dr_4 hG hc fun f s hf hs => ?_)
  show (wSeq (wFor (wiS (yTup (aCons (yTup (aCons (wVar 3) (aCons (wVar 4) aNil))) (aCons (yTup (aCons (wVar 4) (aCons (wVar 3) aNil))) (aCons (yTup (aCons (wVar 3) (aCons (wC (.int 0)) aNil))) (aCons (yTup (aCons (wVar 3) (aCons (wVar 3) aNil))) aNil)))))) (.tp [(.nm 5), (.nm 6)]) (wSeq (sSet 7 (yCall Q_bezout [] (aCons (wVar 5) (aCons (wVar 6) aNil))))
  (wSeq (sIf (yOrT (yNotT (yVal (yBl isiC (aCons (wVar 7) (aCons (wC (.ty .tuple)) aNil))))) (yOrT (yCmT neD (yBl lenC (aCons (wVar 7) aNil)) (wC (.int 3))) (yCmT neD (yOp ixQ (wVar 7) (wC (.int 0))) (yCall Q__law_divisor [] (aCons (yLst (aCons (wVar 5) (aCons (wVar 6) aNil))) aNil))))) (sRet (wC (.bl false))) wNext)
  (sIf (yCmT neD (yOp addD (yOp mulD (wVar 5) (yOp ixQ (wVar 7) (wC (.int 1)))) (yOp mulD (wVar 6) (yOp ixQ (wVar 7) (wC (.int 2))))) (yOp ixQ (wVar 7) (wC (.int 0)))) (sRet (wC (.bl false))) wNext))))
  (sRet (wC (.bl true)))) (deR Q) (e9 (some (.ref n)) (some (.int c)) (some (.lst (ns.map .int))) (some (.int f)) (some (.int s)) none none none none) G
  refine sq (dr_5 hf hs fun x5 x6 x7 => ?_)
  exact k
end
end Km

/-! text M76i -/
set_option maxHeartbeats 400000
set_option exponentiation.threshold 3000
namespace Km
open PySem PySem.Spec PyProof.Rows L2 Dy Kw
/-! ### the loops of the law -/
abbrev e6 (a b c d e f : Option D) : RHO := [a, b, c, d, e, f]
abbrev inB : WS := (sIf (yOrT (yNotT (yVal (yCall Q__law_fractions_right [] (aCons (wVar 4) aNil)))) (yNotT (yVal (yCall Q__law_divisors_right [] (aCons (wVar 4) aNil))))) (sRet (wC (.bl false))) wNext)
theorem in_loop {De : DEnds} {G : GP} {n : Nat} (hG : G[n]? = some (.nums 3)) {a0 a1 a2 a3 : Option D} (k : ∀ x5, De.nx (e6 a0 a1 a2 a3 (some (.ref n)) x5) G) : ∀ (ds : List D) (a5 : Option D), forD (.nm 5) inB De ds (e6 a0 a1 a2 a3 (some (.ref n)) a5) G
  | [], a5 => k a5
  | d :: ds, a5 => by
    show inB { De with nx := forD (.nm 5) inB De ds, ct := forD (.nm 5) inB De ds, bk := De.nx } (e6 a0 a1 a2 a3 (some (.ref n)) (some d)) G
    refine Et.ff (fun Q q => ?_) ?_
    · refine s_fright hG ?_
      refine s_dright hG ?_
      exact q
    · exact in_loop hG k ds (some d)
abbrev outB : WS := (wSeq (sSet 4 (yCall Q__law_dice [] (aCons (wVar 0) (aCons (wVar 1) aNil)))) (wFor (wiR1 (aCons (wC (.int 3)) aNil)) (.nm 5) inB))
theorem out_loop {De : DEnds} {ns : List Int} {a2 a3 : Option D} (k : ∀ G x1 x4 x5, De.nx (e6 (some (.fz (ns.map .int))) x1 a2 a3 x4 x5) G) : ∀ (sp : List Nat) (G : GP) (a1 a4 a5 : Option D), forD (.nm 1) outB De (sp.map fun i => D.int (i : Nat)) (e6 (some (.fz (ns.map .int))) a1 a2 a3 a4 a5) G
  | [], G, a1, a4, a5 => k G a1 a4 a5
  | i :: sp, G, a1, a4, a5 => by
    show outB { De with nx := forD (.nm 1) outB De (sp.map fun i => D.int (i : Nat)), ct := forD (.nm 1) outB De (sp.map fun i => D.int (i : Nat)), bk := De.nx } (e6 (some (.fz (ns.map .int))) (some (.int (i : Nat))) a2 a3 a4 a5) G
    refine sq ?_
    refine s_dice ?_
    refine ⟨⟨by decide, by decide⟩, ?_⟩
    refine in_loop (n := G.length) (by simp) (fun x5 => ?_) _ _
    exact out_loop k sp (G ++ [.nums 3]) _ _ _
theorem rng_eq (n : Nat) : rngD 0 n = (List.range n).map fun i => D.int (i : Nat) := by
  unfold rngD
  simp
theorem law_0 {De : DEnds} {ns : List Int} (hl : ns.length ≤ 63) {G : GP} {a1 a2 a3 a4 a5 : Option D} (k : ∀ G x1 x4 x5, De.nx (e6 (some (.fz (ns.map .int))) x1 a2 a3 x4 x5) G) :
    (wFor (wiR1 (aCons (yBl maxC (aCons (wC (.int 1)) (aCons (yBl minC (aCons (wC (.int 6)) (aCons (yBl lenC (aCons (wVar 0) aNil)) aNil))) aNil))) aNil)) (.nm 1) (wSeq (sSet 4 (yCall Q__law_dice [] (aCons (wVar 0) (aCons (wVar 1) aNil))))
  (wFor (wiR1 (aCons (wC (.int 3)) aNil)) (.nm 5) (sIf (yOrT (yNotT (yVal (yCall Q__law_fractions_right [] (aCons (wVar 4) aNil)))) (yNotT (yVal (yCall Q__law_divisors_right [] (aCons (wVar 4) aNil))))) (sRet (wC (.bl false))) wNext)))) De (e6 (some (.fz (ns.map .int))) a1 a2 a3 a4 a5) G := by
  have b : ∀ m : Int, m ≤ 6 → (-(2 ^ 62) ≤ (if m > 1 then m else 1 : Int) ∧ (if m > 1 then m else 1 : Int) ≤ sizeLine) := fun m h => by
    have : (6 : Int) ≤ sizeLine := by rw [sizeLine_eq]; decide
    split <;> omega
  refine ⟨b _ (by split <;> omega), ?_⟩
  show forD (.nm 1) outB De (rngD 0 _) (e6 (some (.fz (ns.map .int))) a1 a2 a3 a4 a5) G
  rw [rng_eq]
  exact out_loop k _ G a1 a4 a5
/-! ### the law's own numbers -/
def gq : Rat := { num := 1000000000000000000000000000000000000000000000000000000000001, den := 100000000000000000000000000000000000000000000000000000000003, den_nz := by decide, reduced := by decide +kernel }
def tq : Rat := { num := 1, den := 3, den_nz := by decide, reduced := by decide }
def hq : Rat := { num := -1, den := 2, den_nz := by decide, reduced := by decide }
def nq : Rat := { num := -1, den := 3, den_nz := by decide, reduced := by decide }
theorem bgq : Bd 256 gq := ⟨by decide +kernel, by decide +kernel⟩
theorem btq : Bd 64 tq := ⟨by decide +kernel, by decide +kernel⟩
theorem bhq : Bd 64 hq := ⟨by decide +kernel, by decide +kernel⟩
theorem bnq : Bd 64 nq := ⟨by decide +kernel, by decide +kernel⟩
section
variable {G : GP} {ρ : RHO}
theorem ev_c2 {wa wb : WE} {q : DSp} {x y d : D} (ha : Ev wa ρ G x) (hb : Ev wb ρ G y) (h : ∀ Q : KD, Q d G → q [x, y] G Q) : Ev (yCall q [] (aCons wa (aCons wb aNil))) ρ G d := fun Q k => ha _ (hb _ (h Q k))
theorem ev_c1 {wa : WE} {q : DSp} {x d : D} (ha : Ev wa ρ G x) (h : ∀ Q : KD, Q d G → q [x] G Q) : Ev (yCall q [] (aCons wa aNil)) ρ G d := fun Q k => ha _ (h Q k)
theorem ev_l2 {wa wb : WE} {a b : D} (ha : Ev wa ρ G a) (hb : Ev wb ρ G b) : Ev (yLst (aCons wa (aCons wb aNil))) ρ G (.lst [a, b]) := fun Q q => ha _ (hb _ ⟨sz2, q⟩)
theorem ev_l4 {wa wb wc wd : WE} {a b c d : D} (ha : Ev wa ρ G a) (hb : Ev wb ρ G b) (hc : Ev wc ρ G c) (hd : Ev wd ρ G d) : Ev (yLst (aCons wa (aCons wb (aCons wc (aCons wd aNil))))) ρ G (.lst [a, b, c, d]) := fun Q q => ha _ (hb _ (hc _ (hd _ ⟨sz4, q⟩)))
theorem ev_tn : Ev (yTup aNil) ρ G (.tup []) := fun Q q => ⟨Nat.zero_le _, q⟩
theorem ev_eqP {wa wb : WE} {a b : Int} (ha : Ev wa ρ G (.tup [.int a, .int b])) (hb : Ev wb ρ G (.tup [.int a, .int b])) : Ev (yOp eqD wa wb) ρ G (.bl true) := .op ha hb fun Q q => by
  refine eq_p ?_
  rw [decide_eq_true (⟨rfl, rfl⟩ : a = a ∧ b = b)]
  exact q
theorem ev_cat {wa wb : WE} {as bs : List D} (ha : Ev wa ρ G (.lst as)) (hb : Ev wb ρ G (.lst bs)) (h : as.length + bs.length ≤ 100) : Ev (yOp addD wa wb) ρ G (.lst (as ++ bs)) := .op ha hb fun Q q => ⟨Nat.le_trans h (by decide), q⟩
theorem ev_to {w : WE} {d d' : D} (h : Ev w ρ G d) (e : d = d') : Ev w ρ G d' := e ▸ h
theorem ev_fr (w : WE) (q : Rat) (a b : Int) (h : Ev w ρ G (fr q)) (e1 : q.num = a) (e2 : ((q.den : Nat) : Int) = b) : Ev w ρ G (.tup [.int a, .int b]) := ev_to h (by unfold fr; rw [e1, e2])
theorem fr_ev (w : WE) (q : Rat) (a b : Int) (h : Ev w ρ G (.tup [.int a, .int b])) (e1 : q.num = a) (e2 : ((q.den : Nat) : Int) = b) : Ev w ρ G (fr q) := ev_to h (by unfold fr; rw [e1, e2])
end
theorem law_1 {De : DEnds} {G : GP} {a0 a1 a2 a3 a4 a5 : Option D} (k : De.nx (e6 a0 a1 (some (fr gq)) a3 a4 a5) G) : (sSet 2 (yTup (aCons (yOp addD (yOp powD (wC (.int 10)) (wC (.int 60))) (wC (.int 1))) (aCons (yOp addD (yOp powD (wC (.int 10)) (wC (.int 59))) (wC (.int 3))) aNil)))) De (e6 a0 a1 a2 a3 a4 a5) G :=
  Ev.set (fr_ev _ gq _ _ (ev_t2 (.add (.pow .c .c ⟨by decide, by decide +kernel⟩) .c) (.add (.pow .c .c ⟨by decide, by decide +kernel⟩) .c)) (by decide +kernel) (by decide +kernel)) k
theorem law_2 {De : DEnds} {G : GP} {a0 a1 a3 a4 a5 : Option D} (k : De.nx (e6 a0 a1 (some (fr gq)) (some (.lst [.bl true, .bl true])) a4 a5) G) : (sSet 3 (yLst (aCons (yOp eqD (yCall Q_plus [] (aCons (wVar 2) (aCons (yTup (aCons (wC (.int 1)) (aCons (wC (.int 3)) aNil))) aNil))) (yCall Q__law_plus [] (aCons (wVar 2) (aCons (yTup (aCons (wC (.int 1)) (aCons (wC (.int 3)) aNil))) aNil)))) (aCons (yOp eqD (yCall Q_power [] (aCons (yTup (aCons (yUn negD (wC (.int 1))) (aCons (wC (.int 2)) aNil))) (aCons (wC (.int 60)) aNil))) (yTup (aCons (wC (.int 1)) (aCons (wC (.int 1152921504606846976)) aNil)))) aNil)))) De (e6 a0 a1 (some (fr gq)) a3 a4 a5) G := by
  have et : ∀ ρ : RHO, Ev (yTup (aCons (wC (.int 1)) (aCons (wC (.int 3)) aNil))) ρ G (fr tq) := fun ρ => fr_ev _ tq _ _ (ev_t2 .c .c) (by decide +kernel) (by decide +kernel)
  have eh : ∀ ρ : RHO, Ev (yTup (aCons (yUn negD (wC (.int 1))) (aCons (wC (.int 2)) aNil))) ρ G (fr hq) := fun ρ => fr_ev _ hq _ _ (ev_t2 (.neg .c) .c) (by decide +kernel) (by decide +kernel)
  refine Ev.set (d := .lst [.bl true, .bl true]) (ev_l2 (ev_eqP (ev_c2 (.var (n := 2) (d := fr gq) rfl) (et _) fun Q q => s_plus bgq btq (by decide) q) (ev_c2 (.var (n := 2) (d := fr gq) rfl) (et _) fun Q q => s_lplus bgq btq (by decide) q)) (ev_eqP (a := 1) (b := 1152921504606846976) (ev_fr _ (hq ^ 60) _ _ (ev_c2 (eh _) .c fun Q q => s_power (m := 60) bhq (by decide) q) (by decide +kernel) (by decide +kernel)) (ev_t2 .c .c))) k
theorem law_3 {De : DEnds} {G : GP} {a0 a1 a2 a4 a5 : Option D} {ds : List D} (hl : ds.length ≤ 50) (k : De.nx (e6 a0 a1 a2 (some (.lst (ds ++ [.tup [.int (-1), .int 1], .tup [.int (-3), .int 2], .tup [.int 0, .int 1], .int (-1)]))) a4 a5) G) : (sSet 3 (yOp addD (wVar 3) (yLst (aCons (yCall Q_fraction [] (aCons (yOp powD (wC (.int 10)) (wC (.int 39))) (aCons (yUn negD (yOp powD (wC (.int 10)) (wC (.int 39)))) aNil))) (aCons (yCall Q_fraction [] (aCons (yUn negD (wC (.int 6))) (aCons (wC (.int 4)) aNil))) (aCons (yCall Q_total [] (aCons (yTup aNil) aNil)) (aCons (yCall Q_compared [] (aCons (yTup (aCons (yUn negD (wC (.int 1))) (aCons (wC (.int 2)) aNil))) (aCons (yTup (aCons (yUn negD (wC (.int 1))) (aCons (wC (.int 3)) aNil))) aNil))) aNil))))))) De (e6 a0 a1 a2 (some (.lst ds)) a4 a5) G := by
  refine Ev.set (ev_cat (.var (n := 3) (d := .lst ds) rfl) (ev_l4
    (ev_fr _ (Rat.divInt (10 ^ 39) (-(10 ^ 39))) _ _ (ev_c2 (.pow .c .c ⟨by decide, by decide +kernel⟩) (.neg (.pow .c .c ⟨by decide, by decide +kernel⟩)) fun Q q => s_fraction (t := 10 ^ 39) (b := -(10 ^ 39)) (by decide +kernel) (by decide +kernel) (by decide +kernel) q) (by decide +kernel) (by decide +kernel))
    (ev_fr _ (Rat.divInt (-6) 4) _ _ (ev_c2 (.neg .c) .c fun Q q => s_fraction (t := -6) (b := 4) (by decide) (by decide) (by decide) q) (by decide +kernel) (by decide +kernel))
    (ev_fr _ (sm []) _ _ (ev_c1 ev_tn fun Q q => s_total (qs := []) (by simp) (by decide) q) (by decide +kernel) (by decide +kernel))
    (ev_to (ev_c2 (fr_ev _ hq _ _ (ev_t2 (.neg .c) .c) (by decide +kernel) (by decide +kernel)) (fr_ev _ nq _ _ (ev_t2 (.neg .c) .c) (by decide +kernel) (by decide +kernel)) fun Q q => s_cmp bhq bnq (by decide) q) (by rw [show cmpI hq nq = -1 by decide +kernel]))) (by show ds.length + 4 ≤ 100; omega)) k
theorem law_4 {De : DEnds} {G : GP} {a0 a1 a2 a4 a5 : Option D} {ds : List D} (hl : ds.length ≤ 50) (k : De.nx (e6 a0 a1 a2 (some (.lst (ds ++ [.int 0, .int 1, .int 6, .int 12]))) a4 a5) G) : (sSet 3 (yOp addD (wVar 3) (yLst (aCons (yCall Q_greatest_divisor [] (aCons (yTup aNil) aNil)) (aCons (yCall Q_least_multiple_of [] (aCons (yTup aNil) aNil)) (aCons (yCall Q_greatest_divisor [] (aCons (yTup (aCons (yUn negD (wC (.int 12))) (aCons (wC (.int 18)) aNil))) aNil)) (aCons (yCall Q_least_multiple_of [] (aCons (yTup (aCons (yUn negD (wC (.int 4))) (aCons (wC (.int 6)) aNil))) aNil)) aNil))))))) De (e6 a0 a1 a2 (some (.lst ds)) a4 a5) G := by
  refine Ev.set (ev_cat (.var (n := 3) (d := .lst ds) rfl) (ev_l4
    (ev_to (ev_c1 ev_tn fun Q q => s_gdiv (ns := []) q) rfl)
    (ev_to (ev_c1 ev_tn fun Q q => s_lmul (ns := []) (by simp) (by decide) q) (by rw [show mv [] = 1 by decide +kernel]))
    (ev_to (ev_c1 (ev_t2 (.neg .c) .c) fun Q q => s_gdiv (ns := [-12, 18]) q) (by rw [show gd [-12, 18] 0 = 6 by decide +kernel]; rfl))
    (ev_to (ev_c1 (ev_t2 (.neg .c) .c) fun Q q => s_lmul (ns := [-4, 6]) (fun n h => by
      simp only [List.mem_cons, List.not_mem_nil, or_false] at h
      rcases h with rfl | rfl <;> decide) (by decide) q) (by rw [show mv [-4, 6] = 12 by decide +kernel]))) (by show ds.length + 4 ≤ 100; omega)) k
abbrev told : List D := [.bl true, .bl true, .tup [.int (-1), .int 1], .tup [.int (-3), .int 2], .tup [.int 0, .int 1], .int (-1), .int 0, .int 1, .int 6, .int 12]
theorem sz10 : 10 ≤ sizeLine := by decide
theorem told_ok : okQ (.lst told) (.lst told) = true := by decide +kernel
theorem told_eq : eqvD (.lst told) (.lst told) = true := by decide +kernel
theorem law_5 {G : GP} {Q : KD} {a0 a1 a2 a4 a5 : Option D} (k : Q (.bl true) G) : (sRet (yOp eqD (wVar 3) (yLst (aCons (wC (.bl true)) (aCons (wC (.bl true)) (aCons (yTup (aCons (yUn negD (wC (.int 1))) (aCons (wC (.int 1)) aNil))) (aCons (yTup (aCons (yUn negD (wC (.int 3))) (aCons (wC (.int 2)) aNil))) (aCons (yTup (aCons (wC (.int 0)) (aCons (wC (.int 1)) aNil))) (aCons (yUn negD (wC (.int 1))) (aCons (wC (.int 0)) (aCons (wC (.int 1)) (aCons (wC (.int 6)) (aCons (wC (.int 12)) aNil))))))))))))) (deR Q) (e6 a0 a1 a2 (some (.lst told)) a4 a5) G := by
  have e : eqD (.lst told) (.lst told) G Q := ⟨told_ok, by rw [told_eq]; exact k⟩
  refine ⟨sz2, ?_⟩
  refine ⟨sz2, ?_⟩
  refine ⟨sz2, ?_⟩
  refine ⟨sz10, ?_⟩
  exact e
theorem law_true : Dy.Lw Kw.Q_law 63 := fun ns hl => by
  unfold Q_law
  refine ⟨rfl, ?_⟩
  show (wSeq (wFor (wiR1 (aCons (yBl maxC (aCons (wC (.int 1)) (aCons (yBl minC (aCons (wC (.int 6)) (aCons (yBl lenC (aCons (wVar 0) aNil)) aNil))) aNil))) aNil)) (.nm 1) (wSeq (sSet 4 (yCall Q__law_dice [] (aCons (wVar 0) (aCons (wVar 1) aNil))))
  (wFor (wiR1 (aCons (wC (.int 3)) aNil)) (.nm 5) (sIf (yOrT (yNotT (yVal (yCall Q__law_fractions_right [] (aCons (wVar 4) aNil)))) (yNotT (yVal (yCall Q__law_divisors_right [] (aCons (wVar 4) aNil))))) (sRet (wC (.bl false))) wNext))))
  (wSeq (sSet 2 (yTup (aCons (yOp addD (yOp powD (wC (.int 10)) (wC (.int 60))) (wC (.int 1))) (aCons (yOp addD (yOp powD (wC (.int 10)) (wC (.int 59))) (wC (.int 3))) aNil))))
  (wSeq (sSet 3 (yLst (aCons (yOp eqD (yCall Q_plus [] (aCons (wVar 2) (aCons (yTup (aCons (wC (.int 1)) (aCons (wC (.int 3)) aNil))) aNil))) (yCall Q__law_plus [] (aCons (wVar 2) (aCons (yTup (aCons (wC (.int 1)) (aCons (wC (.int 3)) aNil))) aNil)))) (aCons (yOp eqD (yCall Q_power [] (aCons (yTup (aCons (yUn negD (wC (.int 1))) (aCons (wC (.int 2)) aNil))) (aCons (wC (.int 60)) aNil))) (yTup (aCons (wC (.int 1)) (aCons (wC (.int 1152921504606846976)) aNil)))) aNil))))
  (wSeq (sSet 3 (yOp addD (wVar 3) (yLst (aCons (yCall Q_fraction [] (aCons (yOp powD (wC (.int 10)) (wC (.int 39))) (aCons (yUn negD (yOp powD (wC (.int 10)) (wC (.int 39)))) aNil))) (aCons (yCall Q_fraction [] (aCons (yUn negD (wC (.int 6))) (aCons (wC (.int 4)) aNil))) (aCons (yCall Q_total [] (aCons (yTup aNil) aNil)) (aCons (yCall Q_compared [] (aCons (yTup (aCons (yUn negD (wC (.int 1))) (aCons (wC (.int 2)) aNil))) (aCons (yTup (aCons (yUn negD (wC (.int 1))) (aCons (wC (.int 3)) aNil))) aNil))) aNil)))))))
  (wSeq (sSet 3 (yOp addD (wVar 3) (yLst (aCons (yCall Q_greatest_divisor [] (aCons (yTup aNil) aNil)) (aCons (yCall Q_least_multiple_of [] (aCons (yTup aNil) aNil)) (aCons (yCall Q_greatest_divisor [] (aCons (yTup (aCons (yUn negD (wC (.int 12))) (aCons (wC (.int 18)) aNil))) aNil)) (aCons (yCall Q_least_multiple_of [] (aCons (yTup (aCons (yUn negD (wC (.int 4))) (aCons (wC (.int 6)) aNil))) aNil)) aNil)))))))
  (sRet (yOp eqD (wVar 3) (yLst (aCons (wC (.bl true)) (aCons (wC (.bl true)) (aCons (yTup (aCons (yUn negD (wC (.int 1))) (aCons (wC (.int 1)) aNil))) (aCons (yTup (aCons (yUn negD (wC (.int 3))) (aCons (wC (.int 2)) aNil))) (aCons (yTup (aCons (wC (.int 0)) (aCons (wC (.int 1)) aNil))) (aCons (yUn negD (wC (.int 1))) (aCons (wC (.int 0)) (aCons (wC (.int 1)) (aCons (wC (.int 6)) (aCons (wC (.int 12)) aNil)))))))))))))))))) (deR fun d _ => d = .bl true) (e6 (some (.fz (ns.map .int))) none none none none none) []
  refine sq (law_0 hl fun G x1 x4 x5 => ?_)
  show (wSeq (sSet 2 (yTup (aCons (yOp addD (yOp powD (wC (.int 10)) (wC (.int 60))) (wC (.int 1))) (aCons (yOp addD (yOp powD (wC (.int 10)) (wC (.int 59))) (wC (.int 3))) aNil))))
  (wSeq (sSet 3 (yLst (aCons (yOp eqD (yCall Q_plus [] (aCons (wVar 2) (aCons (yTup (aCons (wC (.int 1)) (aCons (wC (.int 3)) aNil))) aNil))) (yCall Q__law_plus [] (aCons (wVar 2) (aCons (yTup (aCons (wC (.int 1)) (aCons (wC (.int 3)) aNil))) aNil)))) (aCons (yOp eqD (yCall Q_power [] (aCons (yTup (aCons (yUn negD (wC (.int 1))) (aCons (wC (.int 2)) aNil))) (aCons (wC (.int 60)) aNil))) (yTup (aCons (wC (.int 1)) (aCons (wC (.int 1152921504606846976)) aNil)))) aNil))))
  (wSeq (sSet 3 (yOp addD (wVar 3) (yLst (aCons (yCall Q_fraction [] (aCons (yOp powD (wC (.int 10)) (wC (.int 39))) (aCons (yUn negD (yOp powD (wC (.int 10)) (wC (.int 39)))) aNil))) (aCons (yCall Q_fraction [] (aCons (yUn negD (wC (.int 6))) (aCons (wC (.int 4)) aNil))) (aCons (yCall Q_total [] (aCons (yTup aNil) aNil)) (aCons (yCall Q_compared [] (aCons (yTup (aCons (yUn negD (wC (.int 1))) (aCons (wC (.int 2)) aNil))) (aCons (yTup (aCons (yUn negD (wC (.int 1))) (aCons (wC (.int 3)) aNil))) aNil))) aNil)))))))
  (wSeq (sSet 3 (yOp addD (wVar 3) (yLst (aCons (yCall Q_greatest_divisor [] (aCons (yTup aNil) aNil)) (aCons (yCall Q_least_multiple_of [] (aCons (yTup aNil) aNil)) (aCons (yCall Q_greatest_divisor [] (aCons (yTup (aCons (yUn negD (wC (.int 12))) (aCons (wC (.int 18)) aNil))) aNil)) (aCons (yCall Q_least_multiple_of [] (aCons (yTup (aCons (yUn negD (wC (.int 4))) (aCons (wC (.int 6)) aNil))) aNil)) aNil)))))))
  (sRet (yOp eqD (wVar 3) (yLst (aCons (wC (.bl true)) (aCons (wC (.bl true)) (aCons (yTup (aCons (yUn negD (wC (.int 1))) (aCons (wC (.int 1)) aNil))) (aCons (yTup (aCons (yUn negD (wC (.int 3))) (aCons (wC (.int 2)) aNil))) (aCons (yTup (aCons (wC (.int 0)) (aCons (wC (.int 1)) aNil))) (aCons (yUn negD (wC (.int 1))) (aCons (wC (.int 0)) (aCons (wC (.int 1)) (aCons (wC (.int 6)) (aCons (wC (.int 12)) aNil))))))))))))))))) (deR fun d _ => d = .bl true) (e6 (some (.fz (ns.map .int))) x1 none none x4 x5) G
  refine sq (law_1 ?_)
  show (wSeq (sSet 3 (yLst (aCons (yOp eqD (yCall Q_plus [] (aCons (wVar 2) (aCons (yTup (aCons (wC (.int 1)) (aCons (wC (.int 3)) aNil))) aNil))) (yCall Q__law_plus [] (aCons (wVar 2) (aCons (yTup (aCons (wC (.int 1)) (aCons (wC (.int 3)) aNil))) aNil)))) (aCons (yOp eqD (yCall Q_power [] (aCons (yTup (aCons (yUn negD (wC (.int 1))) (aCons (wC (.int 2)) aNil))) (aCons (wC (.int 60)) aNil))) (yTup (aCons (wC (.int 1)) (aCons (wC (.int 1152921504606846976)) aNil)))) aNil))))
  (wSeq (sSet 3 (yOp addD (wVar 3) (yLst (aCons (yCall Q_fraction [] (aCons (yOp powD (wC (.int 10)) (wC (.int 39))) (aCons (yUn negD (yOp powD (wC (.int 10)) (wC (.int 39)))) aNil))) (aCons (yCall Q_fraction [] (aCons (yUn negD (wC (.int 6))) (aCons (wC (.int 4)) aNil))) (aCons (yCall Q_total [] (aCons (yTup aNil) aNil)) (aCons (yCall Q_compared [] (aCons (yTup (aCons (yUn negD (wC (.int 1))) (aCons (wC (.int 2)) aNil))) (aCons (yTup (aCons (yUn negD (wC (.int 1))) (aCons (wC (.int 3)) aNil))) aNil))) aNil)))))))
  (wSeq (sSet 3 (yOp addD (wVar 3) (yLst (aCons (yCall Q_greatest_divisor [] (aCons (yTup aNil) aNil)) (aCons (yCall Q_least_multiple_of [] (aCons (yTup aNil) aNil)) (aCons (yCall Q_greatest_divisor [] (aCons (yTup (aCons (yUn negD (wC (.int 12))) (aCons (wC (.int 18)) aNil))) aNil)) (aCons (yCall Q_least_multiple_of [] (aCons (yTup (aCons (yUn negD (wC (.int 4))) (aCons (wC (.int 6)) aNil))) aNil)) aNil)))))))
  (sRet (yOp eqD (wVar 3) (yLst (aCons (wC (.bl true)) (aCons (wC (.bl true)) (aCons (yTup (aCons (yUn negD (wC (.int 1))) (aCons (wC (.int 1)) aNil))) (aCons (yTup (aCons (yUn negD (wC (.int 3))) (aCons (wC (.int 2)) aNil))) (aCons (yTup (aCons (wC (.int 0)) (aCons (wC (.int 1)) aNil))) (aCons (yUn negD (wC (.int 1))) (aCons (wC (.int 0)) (aCons (wC (.int 1)) (aCons (wC (.int 6)) (aCons (wC (.int 12)) aNil)))))))))))))))) (deR fun d _ => d = .bl true) (e6 (some (.fz (ns.map .int))) x1 (some (fr gq)) none x4 x5) G
  refine sq (law_2 ?_)
  show (wSeq (sSet 3 (yOp addD (wVar 3) (yLst (aCons (yCall Q_fraction [] (aCons (yOp powD (wC (.int 10)) (wC (.int 39))) (aCons (yUn negD (yOp powD (wC (.int 10)) (wC (.int 39)))) aNil))) (aCons (yCall Q_fraction [] (aCons (yUn negD (wC (.int 6))) (aCons (wC (.int 4)) aNil))) (aCons (yCall Q_total [] (aCons (yTup aNil) aNil)) (aCons (yCall Q_compared [] (aCons (yTup (aCons (yUn negD (wC (.int 1))) (aCons (wC (.int 2)) aNil))) (aCons (yTup (aCons (yUn negD (wC (.int 1))) (aCons (wC (.int 3)) aNil))) aNil))) aNil)))))))
  (wSeq (sSet 3 (yOp addD (wVar 3) (yLst (aCons (yCall Q_greatest_divisor [] (aCons (yTup aNil) aNil)) (aCons (yCall Q_least_multiple_of [] (aCons (yTup aNil) aNil)) (aCons (yCall Q_greatest_divisor [] (aCons (yTup (aCons (yUn negD (wC (.int 12))) (aCons (wC (.int 18)) aNil))) aNil)) (aCons (yCall Q_least_multiple_of [] (aCons (yTup (aCons (yUn negD (wC (.int 4))) (aCons (wC (.int 6)) aNil))) aNil)) aNil)))))))
  (sRet (yOp eqD (wVar 3) (yLst (aCons (wC (.bl true)) (aCons (wC (.bl true)) (aCons (yTup (aCons (yUn negD (wC (.int 1))) (aCons (wC (.int 1)) aNil))) (aCons (yTup (aCons (yUn negD (wC (.int 3))) (aCons (wC (.int 2)) aNil))) (aCons (yTup (aCons (wC (.int 0)) (aCons (wC (.int 1)) aNil))) (aCons (yUn negD (wC (.int 1))) (aCons (wC (.int 0)) (aCons (wC (.int 1)) (aCons (wC (.int 6)) (aCons (wC (.int 12)) aNil))))))))))))))) (deR fun d _ => d = .bl true) (e6 (some (.fz (ns.map .int))) x1 (some (fr gq)) (some (.lst [.bl true, .bl true])) x4 x5) G
  refine sq (law_3 (by decide) ?_)
  show (wSeq (sSet 3 (yOp addD (wVar 3) (yLst (aCons (yCall Q_greatest_divisor [] (aCons (yTup aNil) aNil)) (aCons (yCall Q_least_multiple_of [] (aCons (yTup aNil) aNil)) (aCons (yCall Q_greatest_divisor [] (aCons (yTup (aCons (yUn negD (wC (.int 12))) (aCons (wC (.int 18)) aNil))) aNil)) (aCons (yCall Q_least_multiple_of [] (aCons (yTup (aCons (yUn negD (wC (.int 4))) (aCons (wC (.int 6)) aNil))) aNil)) aNil)))))))
  (sRet (yOp eqD (wVar 3) (yLst (aCons (wC (.bl true)) (aCons (wC (.bl true)) (aCons (yTup (aCons (yUn negD (wC (.int 1))) (aCons (wC (.int 1)) aNil))) (aCons (yTup (aCons (yUn negD (wC (.int 3))) (aCons (wC (.int 2)) aNil))) (aCons (yTup (aCons (wC (.int 0)) (aCons (wC (.int 1)) aNil))) (aCons (yUn negD (wC (.int 1))) (aCons (wC (.int 0)) (aCons (wC (.int 1)) (aCons (wC (.int 6)) (aCons (wC (.int 12)) aNil)))))))))))))) (deR fun d _ => d = .bl true) (e6 (some (.fz (ns.map .int))) x1 (some (fr gq)) (some (.lst [.bl true, .bl true, .tup [.int (-1), .int 1], .tup [.int (-3), .int 2], .tup [.int 0, .int 1], .int (-1)])) x4 x5) G
  refine sq (law_4 (by simp) ?_)
  show (sRet (yOp eqD (wVar 3) (yLst (aCons (wC (.bl true)) (aCons (wC (.bl true)) (aCons (yTup (aCons (yUn negD (wC (.int 1))) (aCons (wC (.int 1)) aNil))) (aCons (yTup (aCons (yUn negD (wC (.int 3))) (aCons (wC (.int 2)) aNil))) (aCons (yTup (aCons (wC (.int 0)) (aCons (wC (.int 1)) aNil))) (aCons (yUn negD (wC (.int 1))) (aCons (wC (.int 0)) (aCons (wC (.int 1)) (aCons (wC (.int 6)) (aCons (wC (.int 12)) aNil))))))))))))) (deR fun d _ => d = .bl true) (e6 (some (.fz (ns.map .int))) x1 (some (fr gq)) (some (.lst told)) x4 x5) G
  exact law_5 rfl
end Km

/-! text End76 -/
set_option maxHeartbeats 0
open PySem PySem.W PySem.Calls PyProof.Rows
theorem PySem.Challenge.cw_gridturns_k76_whole_fractions_and_diviso_holds : PySem.Challenge.rw_gridturns_k76_whole_fractions_and_diviso.Holds := by
  w_on; o_law
  refine HandSHeadRun.head_any (r := OpenLaw.row PySem.Challenge.rw_gridturns_k76_whole_fractions_and_diviso) (q := view (OpenLaw.row PySem.Challenge.rw_gridturns_k76_whole_fractions_and_diviso).prog [51]) (H := K.hk) (ob := K.ob) (M := 3000) (loose := K.names) (d := HandSHeadRun.topDef (OpenLaw.row PySem.Challenge.rw_gridturns_k76_whole_fractions_and_diviso).prog 51) (kwd := []) K.ob_eq
    (by kernel_rfl) (fun s => by kernel_rfl) K.run (by kernel_rfl) (by kernel_rfl) (by kernel_rfl) (by rfl) (by first | assumption | decide +kernel) (by decide +kernel) ⟨rfl, rfl, rfl, rfl, rfl, by decide +kernel⟩ ?hw ?hc
  case hw => w_witness2
  case hc =>
    refine Dy.law_g (l := PySem.Challenge.rw_gridturns_k76_whole_fractions_and_diviso) (n := 63) (k := 7) (x := "script") (lx := "law") (q := Kw.Q_law) rfl (by decide) (by kernel_rfl) (by kernel_rfl) ⟨rfl, by decide, by decide⟩ Km.law_true ?_
    intro w mg fa h Y G hmg
    obtain ⟨K, KX, c, cg⟩ := Y
    obtain ⟨fd, hb, hF⟩ := Kw.facts (P := (PySem.Challenge.rw_gridturns_k76_whole_fractions_and_diviso).prog) (w := w) KX G hmg c cg
    exact ⟨K, fd, KX, hb, hF⟩
