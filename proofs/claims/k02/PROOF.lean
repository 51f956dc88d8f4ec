import PyProof.Rows.All
import Wide.All
import OpenK.AllK
import Wide.FinOn
import HandS.ForMost
import HandS.ForExc
import HandS.Deep
import HandS.TupAny
import HandS.IsInst
import HandS.Lambda
import HandS.HeadHook4
import HandS.Flow
import HandS.Style
import HandS.Zip
import KE.KStateDown
import Lean
import HandS.Ends
import HandS.Defaults
import HandS.Head0
import HandS.Head1
import HandS.Head2
import HandS.HeadEnd
import HandS.HeadHook1
import HandS.HeadHook2
import HandS.EndTab
import HandS.NestedK
import KE.GoesEnum
import HandS.Text
import HandS.FStr
import KE.DataCmp
import KE.LtData
import KE.SortData
import KE.SortKeyHeap
import KE.DataMinMax
import KE.DataFind
import PySem.Challenge.RW_nearpair_k02_neighbours_and_the_order_of
set_option Elab.async false
set_option linter.all false
set_option maxRecDepth 100000
set_option maxHeartbeats 4000000
/-! Nd1: contents, frozen heaps, what stands in the slots. -/
namespace Nd
open PySem L2

abbrev Frag := PySem.W.Frag
abbrev AS := Addr → Prop

/-- what a value holds: frozen data, or a thing of one's own (nothing else leads to it) -/
inductive C where
  | val (d : PyData)
  | tup (cs : List C)
  | lst (cs : List C)
  | dic (ks : List Key) (cs : List C)
  | obj (cl : Str) (ks : List Str) (cs : List C)

abbrev Env := List (Option C)

/-! ### frozen data -/
mutual
theorem Dp.mono {K : Frag} {F F' : Hp} (e : Same F F') : ∀ {d : PyData} {v : V}, Dp K F v d → Dp K F' v d
  | .none, _, h => by cases h; exact .non
  | .bool _, _, h => by cases h; exact .bl _
  | .int _, _, h => by cases h; exact .int _
  | .str _, _, h => by cases h; exact .str _
  | .list ds, _, h => by
    cases h with
    | lst s a => exact .lst (e.seq s) (DpAll.mono e a)
  | .tuple ds, _, h => by
    cases h with
    | tup s a =>
      refine .tup ?_ (DpAll.mono e a)
      rcases s with (s | ⟨o, s⟩) | s
      · exact .inl (.inl (e _ _ s))
      · exact .inl (.inr ⟨o, e _ _ s⟩)
      · exact .inr s
  | .dict _, _, h => by cases h
theorem DpAll.mono {K : Frag} {F F' : Hp} (e : Same F F') : ∀ {ds : List PyData} {vs : List V}, DpAll K F vs ds → DpAll K F' vs ds
  | [], _, h => by cases h; exact .nil
  | d :: ds, _, h => by
    cases h with
    | cons a b => exact .cons (Dp.mono e a) (DpAll.mono e b)
end
theorem DpAll.length {K : Frag} {F : Hp} : ∀ {ds : List PyData} {vs : List V}, DpAll K F vs ds → vs.length = ds.length
  | [], _, h => by cases h; rfl
  | d :: ds, _, h => by
    cases h with
    | cons a b => simp [DpAll.length b]
theorem DpAll.get {K : Frag} {F : Hp} : ∀ {ds : List PyData} {vs : List V} {i : Nat} {d : PyData}, DpAll K F vs ds → ds[i]? = some d → ∃ v, vs[i]? = some v ∧ Dp K F v d
  | [], _, i, d, h, e => by simp at e
  | d :: ds, _, 0, d', h, e => by
    cases h with
    | cons a b => simp at e; subst e; exact ⟨_, rfl, a⟩
  | d :: ds, _, i + 1, d', h, e => by
    cases h with
    | cons a b =>
      obtain ⟨v, e1, q⟩ := DpAll.get (i := i) b (by simpa using e)
      exact ⟨v, by simpa using e1, q⟩
theorem DpAll.get' {K : Frag} {F : Hp} {ds : List PyData} {vs : List V} {i : Nat} {v : V} (h : DpAll K F vs ds) (e : vs[i]? = some v) : ∃ d, ds[i]? = some d ∧ Dp K F v d := by
  have hi : i < ds.length := by rw [← DpAll.length h]; exact (List.getElem?_eq_some_iff.mp e).1
  obtain ⟨w, e1, q⟩ := DpAll.get h (List.getElem?_eq_getElem hi)
  rw [e] at e1; cases e1
  exact ⟨_, List.getElem?_eq_getElem hi, q⟩
theorem DpAll.append {K : Frag} {F : Hp} : ∀ {ds es : List PyData} {vs us : List V}, DpAll K F vs ds → DpAll K F us es → DpAll K F (vs ++ us) (ds ++ es)
  | [], _, _, _, h, q => by cases h; exact q
  | d :: ds, _, _, _, h, q => by
    cases h with
    | cons a b => exact .cons a (DpAll.append b q)
theorem DpAll.take {K : Frag} {F : Hp} : ∀ (n : Nat) {ds : List PyData} {vs : List V}, DpAll K F vs ds → DpAll K F (vs.take n) (ds.take n)
  | 0, _, _, h => by simp; exact .nil
  | n + 1, [], _, h => by cases h; exact .nil
  | n + 1, d :: ds, _, h => by
    cases h with
    | cons a b => exact .cons a (DpAll.take n b)
theorem DpAll.drop {K : Frag} {F : Hp} : ∀ (n : Nat) {ds : List PyData} {vs : List V}, DpAll K F vs ds → DpAll K F (vs.drop n) (ds.drop n)
  | 0, _, _, h => by simpa using h
  | n + 1, [], _, h => by cases h; exact .nil
  | n + 1, d :: ds, _, h => by
    cases h with
    | cons a b => exact DpAll.drop n b

/-- data whose texts are texts -/
def Dq (K : Frag) (F : Hp) (v : V) (d : PyData) : Prop := Dp K F v d ∧ d.canLay0 = true
def DqAll (K : Frag) (F : Hp) (vs : List V) (ds : List PyData) : Prop := DpAll K F vs ds ∧ PyData.canLayAll0 ds = true
section
variable {K : Frag} {F F' : Hp}
theorem lay_cons {d : PyData} {ds : List PyData} : PyData.canLayAll0 (d :: ds) = true ↔ d.canLay0 = true ∧ PyData.canLayAll0 ds = true := by simp [PyData.canLayAll0]
theorem lay_mem : ∀ {ds : List PyData}, PyData.canLayAll0 ds = true ↔ ∀ d ∈ ds, d.canLay0 = true
  | [] => by simp [PyData.canLayAll0]
  | d :: ds => by
    rw [lay_cons, lay_mem (ds := ds)]
    simp
theorem Dq.mono {v : V} {d : PyData} (e : Same F F') (h : Dq K F v d) : Dq K F' v d := ⟨Dp.mono e h.1, h.2⟩
theorem DqAll.mono {vs : List V} {ds : List PyData} (e : Same F F') (h : DqAll K F vs ds) : DqAll K F' vs ds := ⟨DpAll.mono e h.1, h.2⟩
theorem Dq.non : Dq K F .non .none := ⟨.non, rfl⟩
theorem Dq.bl (b : Bool) : Dq K F (.bl b) (.bool b) := ⟨.bl b, rfl⟩
theorem Dq.int (i : Int) : Dq K F (.int i) (.int i) := ⟨.int i, rfl⟩
theorem Dq.str {x : Str} (h : PyData.canLay0 (.str x) = true) : Dq K F (.str x) (.str x) := ⟨.str x, h⟩
theorem Dq.lst {a : Addr} {xs : List V} {ds : List PyData} (s : SqL K F a xs) (h : DqAll K F xs ds) : Dq K F (.ref a) (.list ds) := ⟨.lst s h.1, by simpa [PyData.canLay0] using h.2⟩
theorem Dq.tup {a : Addr} {xs : List V} {ds : List PyData} (s : SqT K F a xs) (h : DqAll K F xs ds) : Dq K F (.ref a) (.tuple ds) := ⟨.tup s h.1, by simpa [PyData.canLay0] using h.2⟩
theorem DqAll.nil : DqAll K F [] [] := ⟨.nil, rfl⟩
theorem DqAll.cons {v : V} {vs : List V} {d : PyData} {ds : List PyData} (a : Dq K F v d) (b : DqAll K F vs ds) : DqAll K F (v :: vs) (d :: ds) := ⟨.cons a.1 b.1, lay_cons.mpr ⟨a.2, b.2⟩⟩
theorem DqAll.length {ds : List PyData} {vs : List V} (h : DqAll K F vs ds) : vs.length = ds.length := DpAll.length h.1
theorem DqAll.get {ds : List PyData} {vs : List V} {i : Nat} {d : PyData} (h : DqAll K F vs ds) (e : ds[i]? = some d) : ∃ v, vs[i]? = some v ∧ Dq K F v d := by
  obtain ⟨v, e1, q⟩ := DpAll.get h.1 e
  exact ⟨v, e1, q, lay_mem.mp h.2 d (List.mem_of_getElem? e)⟩
theorem DqAll.get' {ds : List PyData} {vs : List V} {i : Nat} {v : V} (h : DqAll K F vs ds) (e : vs[i]? = some v) : ∃ d, ds[i]? = some d ∧ Dq K F v d := by
  obtain ⟨d, e1, q⟩ := DpAll.get' h.1 e
  exact ⟨d, e1, q, lay_mem.mp h.2 d (List.mem_of_getElem? e1)⟩
theorem DqAll.append {ds es : List PyData} {vs us : List V} (h : DqAll K F vs ds) (q : DqAll K F us es) : DqAll K F (vs ++ us) (ds ++ es) := ⟨DpAll.append h.1 q.1, lay_mem.mpr fun d m => (List.mem_append.mp m).elim (lay_mem.mp h.2 d) (lay_mem.mp q.2 d)⟩
theorem DqAll.take (n : Nat) {ds : List PyData} {vs : List V} (h : DqAll K F vs ds) : DqAll K F (vs.take n) (ds.take n) := ⟨DpAll.take n h.1, lay_mem.mpr fun d m => lay_mem.mp h.2 d (List.mem_of_mem_take m)⟩
theorem DqAll.drop (n : Nat) {ds : List PyData} {vs : List V} (h : DqAll K F vs ds) : DqAll K F (vs.drop n) (ds.drop n) := ⟨DpAll.drop n h.1, lay_mem.mpr fun d m => lay_mem.mp h.2 d (List.mem_of_mem_drop m)⟩
/-- the kinds -/
theorem Dq.list_inv {v : V} {ds : List PyData} (h : Dq K F v (.list ds)) : ∃ a vs, v = .ref a ∧ SqL K F a vs ∧ DqAll K F vs ds := by
  obtain ⟨h, l⟩ := h
  cases h with
  | lst s a => exact ⟨_, _, rfl, s, a, by simpa [PyData.canLay0] using l⟩
theorem Dq.tup_inv {v : V} {ds : List PyData} (h : Dq K F v (.tuple ds)) : ∃ a vs, v = .ref a ∧ SqT K F a vs ∧ DqAll K F vs ds := by
  obtain ⟨h, l⟩ := h
  cases h with
  | tup s a => exact ⟨_, _, rfl, s, a, by simpa [PyData.canLay0] using l⟩
theorem Dq.int_inv {v : V} {i : Int} (h : Dq K F v (.int i)) : v = .int i := by cases h.1; rfl
theorem Dq.str_inv {v : V} {x : Str} (h : Dq K F v (.str x)) : v = .str x ∧ PyData.canLay0 (.str x) = true := by
  have l := h.2
  cases h.1
  exact ⟨rfl, l⟩
theorem Dq.bl_inv {v : V} {b : Bool} (h : Dq K F v (.bool b)) : v = .bl b := by cases h.1; rfl
theorem Dq.non_inv {v : V} (h : Dq K F v .none) : v = .non := by cases h.1; rfl
theorem SqT.mono {a : Addr} {xs : List V} (e : Same F F') (s : SqT K F a xs) : SqT K F' a xs := by
  rcases s with (s | ⟨o, s⟩) | s
  · exact .inl (.inl (e _ _ s))
  · exact .inl (.inr ⟨o, e _ _ s⟩)
  · exact .inr s
end

/-! ### contents -/
section
variable (K : Frag) (mg : Str → Option Value) (F H : Hp)
mutual
def Rc : C → V → AS → Prop
  | .val d, v, fp => Dq K F v d ∧ ∀ a, ¬ fp a
  | .tup cs, v, fp => ∃ a vs f, v = .ref a ∧ H a = some (.tup vs) ∧ F a = none ∧ Rcs cs vs f ∧ ¬ f a ∧ ∀ b, fp b ↔ b = a ∨ f b
  | .lst cs, v, fp => ∃ a vs f, v = .ref a ∧ H a = some (.lst vs) ∧ F a = none ∧ Rcs cs vs f ∧ ¬ f a ∧ ∀ b, fp b ↔ b = a ∨ f b
  | .dic ks cs, v, fp => ∃ a vs f, v = .ref a ∧ H a = some (.dK (ks.zip vs)) ∧ F a = none ∧ vs.length = ks.length ∧ Rcs cs vs f ∧ ¬ f a ∧ ∀ b, fp b ↔ b = a ∨ f b
  | .obj cl ks cs, v, fp => ∃ a dx c vs f, v = .ref a ∧ mg cl = some (.ref c) ∧ H a = some (.ins c dx (ks.zip vs)) ∧ F a = none ∧ vs.length = ks.length ∧ Rcs cs vs f ∧ ¬ f a ∧ ∀ b, fp b ↔ b = a ∨ f b
def Rcs : List C → List V → AS → Prop
  | [], vs, fp => vs = [] ∧ ∀ a, ¬ fp a
  | c :: cs, vs, fp => ∃ v r f1 f2, vs = v :: r ∧ Rc c v f1 ∧ Rcs cs r f2 ∧ (∀ a, f1 a → ¬ f2 a) ∧ ∀ a, fp a ↔ f1 a ∨ f2 a
end
/-- what stands in the slots -/
def Re0 : Env → St → AS → Prop
  | [], σ, fp => σ = [] ∧ ∀ a, ¬ fp a
  | none :: ρ, σ, fp => ∃ x σ', σ = x :: σ' ∧ Re0 ρ σ' fp
  | some c :: ρ, σ, fp => ∃ v σ' f1 f2, σ = some v :: σ' ∧ Rc K mg F H c v f1 ∧ Re0 ρ σ' f2 ∧ (∀ a, f1 a → ¬ f2 a) ∧ ∀ a, fp a ↔ f1 a ∨ f2 a
end

section
variable {K : Frag} {mg : Str → Option Value} {F H F' H' : Hp}
theorem Rc.iff : ∀ {c : C} {v : V} {fp fp' : AS}, Rc K mg F H c v fp → (∀ a, fp' a ↔ fp a) → Rc K mg F H c v fp'
  | .val d, v, fp, fp', h, e => by
    simp only [Rc] at h ⊢
    exact ⟨h.1, fun a q => h.2 a ((e a).mp q)⟩
  | .tup cs, v, fp, fp', h, e => by
    simp only [Rc] at h ⊢
    obtain ⟨a, vs, f, h1, h2, h3, h4, h5, h6⟩ := h
    exact ⟨a, vs, f, h1, h2, h3, h4, h5, fun b => (e b).trans (h6 b)⟩
  | .lst cs, v, fp, fp', h, e => by
    simp only [Rc] at h ⊢
    obtain ⟨a, vs, f, h1, h2, h3, h4, h5, h6⟩ := h
    exact ⟨a, vs, f, h1, h2, h3, h4, h5, fun b => (e b).trans (h6 b)⟩
  | .dic ks cs, v, fp, fp', h, e => by
    simp only [Rc] at h ⊢
    obtain ⟨a, vs, f, h1, h2, h3, h4, h5, h6, h7⟩ := h
    exact ⟨a, vs, f, h1, h2, h3, h4, h5, h6, fun b => (e b).trans (h7 b)⟩
  | .obj cl ks cs, v, fp, fp', h, e => by
    simp only [Rc] at h ⊢
    obtain ⟨a, dx, c, vs, f, h1, h2, h3, h4, h5, h6, h7, h8⟩ := h
    exact ⟨a, dx, c, vs, f, h1, h2, h3, h4, h5, h6, h7, fun b => (e b).trans (h8 b)⟩
theorem Rcs.iff : ∀ {cs : List C} {vs : List V} {fp fp' : AS}, Rcs K mg F H cs vs fp → (∀ a, fp' a ↔ fp a) → Rcs K mg F H cs vs fp'
  | [], vs, fp, fp', h, e => by
    simp only [Rcs] at h ⊢
    exact ⟨h.1, fun a q => h.2 a ((e a).mp q)⟩
  | c :: cs, vs, fp, fp', h, e => by
    simp only [Rcs] at h ⊢
    obtain ⟨v, r, f1, f2, h1, h2, h3, h4, h5⟩ := h
    exact ⟨v, r, f1, f2, h1, h2, h3, h4, fun a => (e a).trans (h5 a)⟩
theorem Re0.iff : ∀ {ρ : Env} {σ : St} {fp fp' : AS}, Re0 K mg F H ρ σ fp → (∀ a, fp' a ↔ fp a) → Re0 K mg F H ρ σ fp'
  | [], σ, fp, fp', h, e => ⟨h.1, fun a q => h.2 a ((e a).mp q)⟩
  | none :: ρ, σ, fp, fp', h, e => by
    obtain ⟨x, σ', h1, h2⟩ := h
    exact ⟨x, σ', h1, Re0.iff h2 e⟩
  | some c :: ρ, σ, fp, fp', h, e => by
    obtain ⟨v, r, f1, f2, h1, h2, h3, h4, h5⟩ := h
    exact ⟨v, r, f1, f2, h1, h2, h3, h4, fun a => (e a).trans (h5 a)⟩

mutual
/-- what is one's own stands there and isn't frozen -/
theorem Rc.own : ∀ {c : C} {v : V} {fp : AS}, Rc K mg F H c v fp → ∀ a, fp a → F a = none ∧ ∃ o, H a = some o
  | .val d, v, fp, h, a, q => by simp only [Rc] at h; exact (h.2 a q).elim
  | .tup cs, v, fp, h, a, q => by
    simp only [Rc] at h
    obtain ⟨a', vs, f, h1, h2, h3, h4, h5, h6⟩ := h
    rcases (h6 a).mp q with e | e
    · subst e; exact ⟨h3, _, h2⟩
    · exact Rcs.own h4 a e
  | .lst cs, v, fp, h, a, q => by
    simp only [Rc] at h
    obtain ⟨a', vs, f, h1, h2, h3, h4, h5, h6⟩ := h
    rcases (h6 a).mp q with e | e
    · subst e; exact ⟨h3, _, h2⟩
    · exact Rcs.own h4 a e
  | .dic ks cs, v, fp, h, a, q => by
    simp only [Rc] at h
    obtain ⟨a', vs, f, h1, h2, h3, h4, h5, h6, h7⟩ := h
    rcases (h7 a).mp q with e | e
    · subst e; exact ⟨h3, _, h2⟩
    · exact Rcs.own h5 a e
  | .obj cl ks cs, v, fp, h, a, q => by
    simp only [Rc] at h
    obtain ⟨a', dx, c, vs, f, h1, h2, h3, h4, h5, h6, h7, h8⟩ := h
    rcases (h8 a).mp q with e | e
    · subst e; exact ⟨h4, _, h3⟩
    · exact Rcs.own h6 a e
theorem Rcs.own : ∀ {cs : List C} {vs : List V} {fp : AS}, Rcs K mg F H cs vs fp → ∀ a, fp a → F a = none ∧ ∃ o, H a = some o
  | [], vs, fp, h, a, q => by simp only [Rcs] at h; exact (h.2 a q).elim
  | c :: cs, vs, fp, h, a, q => by
    simp only [Rcs] at h
    obtain ⟨v, r, f1, f2, h1, h2, h3, h4, h5⟩ := h
    rcases (h5 a).mp q with e | e
    · exact Rc.own h2 a e
    · exact Rcs.own h3 a e
end
theorem Re0.own : ∀ {ρ : Env} {σ : St} {fp : AS}, Re0 K mg F H ρ σ fp → ∀ a, fp a → F a = none ∧ ∃ o, H a = some o
  | [], σ, fp, h, a, q => (h.2 a q).elim
  | none :: ρ, σ, fp, h, a, q => by
    obtain ⟨x, σ', h1, h2⟩ := h
    exact Re0.own h2 a q
  | some c :: ρ, σ, fp, h, a, q => by
    obtain ⟨v, r, f1, f2, h1, h2, h3, h4, h5⟩ := h
    rcases (h5 a).mp q with e | e
    · exact Rc.own h2 a e
    · exact Re0.own h3 a e

mutual
/-- what stands at one's own places alone matters -/
theorem Rc.frame (e : Same F F') : ∀ {c : C} {v : V} {fp : AS}, Rc K mg F H c v fp → (∀ a, fp a → H' a = H a ∧ F' a = F a) → Rc K mg F' H' c v fp
  | .val d, v, fp, h, k => by
    simp only [Rc] at h ⊢
    exact ⟨Dq.mono e h.1, h.2⟩
  | .tup cs, v, fp, h, k => by
    simp only [Rc] at h ⊢
    obtain ⟨a, vs, f, h1, h2, h3, h4, h5, h6⟩ := h
    have ka := k a ((h6 a).mpr (.inl rfl))
    exact ⟨a, vs, f, h1, ka.1.trans h2, ka.2.trans h3, Rcs.frame e h4 fun b q => k b ((h6 b).mpr (.inr q)), h5, h6⟩
  | .lst cs, v, fp, h, k => by
    simp only [Rc] at h ⊢
    obtain ⟨a, vs, f, h1, h2, h3, h4, h5, h6⟩ := h
    have ka := k a ((h6 a).mpr (.inl rfl))
    exact ⟨a, vs, f, h1, ka.1.trans h2, ka.2.trans h3, Rcs.frame e h4 fun b q => k b ((h6 b).mpr (.inr q)), h5, h6⟩
  | .dic ks cs, v, fp, h, k => by
    simp only [Rc] at h ⊢
    obtain ⟨a, vs, f, h1, h2, h3, h4, h5, h6, h7⟩ := h
    have ka := k a ((h7 a).mpr (.inl rfl))
    exact ⟨a, vs, f, h1, ka.1.trans h2, ka.2.trans h3, h4, Rcs.frame e h5 fun b q => k b ((h7 b).mpr (.inr q)), h6, h7⟩
  | .obj cl ks cs, v, fp, h, k => by
    simp only [Rc] at h ⊢
    obtain ⟨a, dx, c, vs, f, h1, h2, h3, h4, h5, h6, h7, h8⟩ := h
    have ka := k a ((h8 a).mpr (.inl rfl))
    exact ⟨a, dx, c, vs, f, h1, h2, ka.1.trans h3, ka.2.trans h4, h5, Rcs.frame e h6 fun b q => k b ((h8 b).mpr (.inr q)), h7, h8⟩
theorem Rcs.frame (e : Same F F') : ∀ {cs : List C} {vs : List V} {fp : AS}, Rcs K mg F H cs vs fp → (∀ a, fp a → H' a = H a ∧ F' a = F a) → Rcs K mg F' H' cs vs fp
  | [], vs, fp, h, k => by
    simp only [Rcs] at h ⊢
    exact h
  | c :: cs, vs, fp, h, k => by
    simp only [Rcs] at h ⊢
    obtain ⟨v, r, f1, f2, h1, h2, h3, h4, h5⟩ := h
    exact ⟨v, r, f1, f2, h1, Rc.frame e h2 fun a q => k a ((h5 a).mpr (.inl q)), Rcs.frame e h3 fun a q => k a ((h5 a).mpr (.inr q)), h4, h5⟩
end
theorem Re0.frame (e : Same F F') : ∀ {ρ : Env} {σ : St} {fp : AS}, Re0 K mg F H ρ σ fp → (∀ a, fp a → H' a = H a ∧ F' a = F a) → Re0 K mg F' H' ρ σ fp
  | [], σ, fp, h, k => h
  | none :: ρ, σ, fp, h, k => by
    obtain ⟨x, σ', h1, h2⟩ := h
    exact ⟨x, σ', h1, Re0.frame e h2 k⟩
  | some c :: ρ, σ, fp, h, k => by
    obtain ⟨v, r, f1, f2, h1, h2, h3, h4, h5⟩ := h
    exact ⟨v, r, f1, f2, h1, Rc.frame e h2 fun a q => k a ((h5 a).mpr (.inl q)), Re0.frame e h3 fun a q => k a ((h5 a).mpr (.inr q)), h4, h5⟩
theorem Re0.length : ∀ {ρ : Env} {σ : St} {fp : AS}, Re0 K mg F H ρ σ fp → σ.length = ρ.length
  | [], σ, fp, h => by rw [h.1]; rfl
  | none :: ρ, σ, fp, h => by
    obtain ⟨x, σ', h1, h2⟩ := h
    rw [h1]; simp [Re0.length h2]
  | some c :: ρ, σ, fp, h => by
    obtain ⟨v, r, f1, f2, h1, h2, h3, h4, h5⟩ := h
    rw [h1]; simp [Re0.length h3]

/-- what a slot holds, new -/
def Slot (K : Frag) (mg : Str → Option Value) (F H : Hp) (oc : Option C) (ov : Option V) (f : AS) : Prop :=
  match oc with
  | none => ∀ a, ¬ f a
  | some c => ∃ v, ov = some v ∧ Rc K mg F H c v f

/-- THE FOCUS: the i-th slot, taken out and put back -/
theorem Re0.focus : ∀ {ρ : Env} {σ : St} {fp : AS} {i : Nat} {oc : Option C}, Re0 K mg F H ρ σ fp → ρ[i]? = some oc →
    ∃ (ov : Option V) (f1 f2 : AS), σ[i]? = some ov ∧ Slot K mg F H oc ov f1 ∧ (∀ a, f1 a → ¬ f2 a) ∧ (∀ a, fp a ↔ f1 a ∨ f2 a) ∧
      ∀ (oc' : Option C) (ov' : Option V) (F' H' : Hp) (f1' : AS), Same F F' → (∀ a, f2 a → H' a = H a ∧ F' a = F a) → Slot K mg F' H' oc' ov' f1' → (∀ a, f1' a → ¬ f2 a) →
        Re0 K mg F' H' (ρ.set i oc') (σ.set i ov') (fun a => f1' a ∨ f2 a)
  | [], σ, fp, i, oc, h, e => by simp at e
  | none :: ρ, σ, fp, 0, oc, h, e => by
    simp at e; subst e
    obtain ⟨x, σ', h1, h2⟩ := h
    subst h1
    refine ⟨x, fun _ => False, fp, rfl, fun _ z => z, fun _ z => z.elim, fun a => by simp, fun oc' ov' F' H' f1' se k sl dj => ?_⟩
    simp only [List.set_cons_zero]
    cases oc' with
    | none => exact ⟨ov', σ', rfl, (Re0.frame se h2 k).iff fun a => ⟨fun z => z.elim (fun q => (sl a q).elim) id, .inr⟩⟩
    | some c =>
      obtain ⟨v, e, r⟩ := sl
      subst e
      exact ⟨v, σ', f1', fp, rfl, r, Re0.frame se h2 k, dj, fun a => Iff.rfl⟩
  | some c :: ρ, σ, fp, 0, oc, h, e => by
    simp at e; subst e
    obtain ⟨v, σ', f1, f2, h1, h2, h3, h4, h5⟩ := h
    subst h1
    refine ⟨some v, f1, f2, rfl, ⟨v, rfl, h2⟩, h4, h5, fun oc' ov' F' H' f1' se k sl dj => ?_⟩
    simp only [List.set_cons_zero]
    cases oc' with
    | none => exact ⟨ov', σ', rfl, (Re0.frame se h3 k).iff fun a => ⟨fun z => z.elim (fun q => (sl a q).elim) id, .inr⟩⟩
    | some c =>
      obtain ⟨v, e, r⟩ := sl
      subst e
      exact ⟨v, σ', f1', f2, rfl, r, Re0.frame se h3 k, dj, fun a => Iff.rfl⟩
  | none :: ρ, σ, fp, i + 1, oc, h, e => by
    obtain ⟨x, σ', h1, h2⟩ := h
    subst h1
    obtain ⟨ov, f1, f2, q1, q2, q3, q4, q5⟩ := Re0.focus (i := i) h2 (by simpa using e)
    exact ⟨ov, f1, f2, by simpa using q1, q2, q3, q4, fun oc' ov' F' H' f1' se k sl dj => ⟨x, _, rfl, q5 oc' ov' F' H' f1' se k sl dj⟩⟩
  | some c :: ρ, σ, fp, i + 1, oc, h, e => by
    obtain ⟨v, σ', g1, g2, h1, h2, h3, h4, h5⟩ := h
    subst h1
    obtain ⟨ov, f1, f2, q1, q2, q3, q4, q5⟩ := Re0.focus (i := i) h3 (by simpa using e)
    refine ⟨ov, f1, fun a => g1 a ∨ f2 a, by simpa using q1, q2, fun a z y => ?_, fun a => ?_, fun oc' ov' F' H' f1' se k sl dj => ?_⟩
    · rcases y with y | y
      · exact h4 a y ((q4 a).mpr (.inl z))
      · exact q3 a z y
    · rw [h5 a, q4 a]
      exact ⟨fun z => z.elim (fun y => .inr (.inl y)) fun y => y.elim .inl fun y => .inr (.inr y), fun z => z.elim (fun y => .inr (.inl y)) fun y => y.elim .inl fun y => .inr (.inr y)⟩
    · refine ⟨v, _, g1, _, rfl, Rc.frame se h2 fun a z => k a (.inl z), q5 oc' ov' F' H' f1' se (fun a z => k a (.inr z)) sl fun a z y => dj a z (.inr y), fun a z y => ?_, fun a => ?_⟩
      · rcases y with y | y
        · exact dj a y (.inl z)
        · exact h4 a z ((q4 a).mpr (.inr y))
      · exact ⟨fun z => z.elim (fun y => .inr (.inl y)) fun y => y.elim .inl fun y => .inr (.inr y), fun z => z.elim (fun y => .inr (.inl y)) fun y => y.elim .inl fun y => .inr (.inr y)⟩
end

/-! ### the tables of code objects -/
/-- the defs that make lambdas, with their lambdas' qualified names -/
class TF where
  tf : List (He.Defn × Str)
def tabs [TF] (K : Frag) : List (Addr × Str) := TF.tf.map fun p => ((He.cT K p.1).2, p.2)
/-- the tables; the code objects that they tell are frozen -/
def Tb [TF] (K : Frag) (F H : Hp) (fp : AS) : Prop := (∀ a, fp a ↔ ∃ q, (a, q) ∈ tabs K) ∧
  ∀ p ∈ tabs K, F p.1 = none ∧ ∃ ps, H p.1 = some (.tbl ps) ∧ TriplesOk ps.toList ∧ ∀ (pos : Pos) (cv : Value), codeAmong pos ps.toList = some cv → ∃ c, cv = .ref c ∧ F c = some (LamX.CodeO c p.2)
section
variable [TF] {K : Frag} {mg : Str → Option Value} {F H F' H' : Hp}
theorem Tb.iff {fp fp' : AS} (h : Tb K F H fp) (e : ∀ a, fp' a ↔ fp a) : Tb K F H fp' := ⟨fun a => (e a).trans (h.1 a), h.2⟩
theorem Tb.own {fp : AS} (h : Tb K F H fp) : ∀ a, fp a → F a = none ∧ ∃ o, H a = some o := fun a z => by
  obtain ⟨q, m⟩ := (h.1 a).mp z
  obtain ⟨e1, ps, e2, _⟩ := h.2 _ m
  exact ⟨e1, _, e2⟩
theorem Tb.frame (e : Same F F') {fp : AS} (h : Tb K F H fp) (k : ∀ a, fp a → H' a = H a ∧ F' a = F a) : Tb K F' H' fp := by
  refine ⟨h.1, fun p m => ?_⟩
  obtain ⟨e1, ps, e2, e3, e4⟩ := h.2 p m
  have ka := k p.1 ((h.1 _).mpr ⟨p.2, m⟩)
  refine ⟨ka.2.trans e1, ps, ka.1.trans e2, e3, fun pos cv hc => ?_⟩
  obtain ⟨c, c1, c2⟩ := e4 pos cv hc
  exact ⟨c, c1, e _ _ c2⟩
/-- what stands in the slots, and the tables -/
def Re (K : Frag) (mg : Str → Option Value) (F H : Hp) (ρ : Env) (σ : St) (fp : AS) : Prop := ∃ f1 f2, Re0 K mg F H ρ σ f1 ∧ Tb K F H f2 ∧ (∀ a, f1 a → ¬ f2 a) ∧ ∀ a, fp a ↔ f1 a ∨ f2 a
theorem Re.iff {ρ : Env} {σ : St} {fp fp' : AS} (h : Re K mg F H ρ σ fp) (e : ∀ a, fp' a ↔ fp a) : Re K mg F H ρ σ fp' := by
  obtain ⟨f1, f2, h1, h2, h3, h4⟩ := h
  exact ⟨f1, f2, h1, h2, h3, fun a => (e a).trans (h4 a)⟩
theorem Re.own {ρ : Env} {σ : St} {fp : AS} (h : Re K mg F H ρ σ fp) : ∀ a, fp a → F a = none ∧ ∃ o, H a = some o := fun a z => by
  obtain ⟨f1, f2, h1, h2, h3, h4⟩ := h
  exact ((h4 a).mp z).elim (Re0.own h1 a) (h2.own a)
theorem Re.frame (e : Same F F') {ρ : Env} {σ : St} {fp : AS} (h : Re K mg F H ρ σ fp) (k : ∀ a, fp a → H' a = H a ∧ F' a = F a) : Re K mg F' H' ρ σ fp := by
  obtain ⟨f1, f2, h1, h2, h3, h4⟩ := h
  exact ⟨f1, f2, Re0.frame e h1 fun a z => k a ((h4 a).mpr (.inl z)), h2.frame e fun a z => k a ((h4 a).mpr (.inr z)), h3, h4⟩
theorem Re.length {ρ : Env} {σ : St} {fp : AS} (h : Re K mg F H ρ σ fp) : σ.length = ρ.length := by
  obtain ⟨f1, f2, h1, h2, h3, h4⟩ := h
  exact Re0.length h1
theorem Re.focus {ρ : Env} {σ : St} {fp : AS} {i : Nat} {oc : Option C} (h : Re K mg F H ρ σ fp) (e : ρ[i]? = some oc) :
    ∃ (ov : Option V) (f1 f2 : AS), σ[i]? = some ov ∧ Slot K mg F H oc ov f1 ∧ (∀ a, f1 a → ¬ f2 a) ∧ (∀ a, fp a ↔ f1 a ∨ f2 a) ∧
      ∀ (oc' : Option C) (ov' : Option V) (F' H' : Hp) (f1' : AS), Same F F' → (∀ a, f2 a → H' a = H a ∧ F' a = F a) → Slot K mg F' H' oc' ov' f1' → (∀ a, f1' a → ¬ f2 a) →
        Re K mg F' H' (ρ.set i oc') (σ.set i ov') (fun a => f1' a ∨ f2 a) := by
  obtain ⟨g1, g2, h1, h2, h3, h4⟩ := h
  obtain ⟨ov, f1, f2, q1, q2, q3, q4, put⟩ := Re0.focus h1 e
  refine ⟨ov, f1, fun a => f2 a ∨ g2 a, q1, q2, fun a z y => ?_, fun a => ?_, fun oc' ov' F' H' f1' se k sl dj => ?_⟩
  · rcases y with y | y
    · exact q3 a z y
    · exact h3 a ((q4 a).mpr (.inl z)) y
  · rw [h4 a, q4 a]
    exact ⟨fun z => z.elim (fun y => y.imp id .inl) fun y => .inr (.inr y), fun z => z.elim (fun y => .inl (.inl y)) fun y => y.elim (fun u => .inl (.inr u)) .inr⟩
  · refine ⟨fun a => f1' a ∨ f2 a, g2, put oc' ov' F' H' f1' se (fun a z => k a (.inl z)) sl (fun a z y => dj a z (.inl y)), h2.frame se fun a z => k a (.inr z), fun a z y => ?_, fun a => ?_⟩
    · rcases z with z | z
      · exact dj a z (.inr y)
      · exact h3 a ((q4 a).mpr (.inr z)) y
    · exact ⟨fun z => z.elim (fun y => .inl (.inl y)) fun y => y.elim (fun u => .inl (.inr u)) .inr, fun z => z.elim (fun y => y.imp id .inl) fun y => .inr (.inr y)⟩
/-- arguments' contents, and the tables -/
def Rct (K : Frag) (mg : Str → Option Value) (F H : Hp) (cs : List C) (vs : List V) (fp : AS) : Prop := ∃ f1 f2, Rcs K mg F H cs vs f1 ∧ Tb K F H f2 ∧ (∀ a, f1 a → ¬ f2 a) ∧ ∀ a, fp a ↔ f1 a ∨ f2 a
theorem Rct.own {cs : List C} {vs : List V} {fp : AS} (h : Rct K mg F H cs vs fp) : ∀ a, fp a → F a = none ∧ ∃ o, H a = some o := fun a z => by
  obtain ⟨f1, f2, h1, h2, h3, h4⟩ := h
  exact ((h4 a).mp z).elim (Rcs.own h1 a) (h2.own a)
end
structure Wd [TF] (K : Frag) (mg : Str → Option Value) (F H : Hp) (ρ : Env) (fp : AS) (σ : St) : Prop where
  sub : Same F H
  re : Re K mg F H ρ σ fp

/-! ### what an evaluation may change -/
structure Chg (fp : AS) (F H : Hp) (fp' : AS) (F' H' : Hp) : Prop where
  fz : Same F F'
  kp : ∀ a o, ¬ fp a → H a = some o → H' a = some o
  fn : ∀ a, ¬ fp a → H a ≠ none → F' a = F a
  nw : ∀ a, fp' a → fp a ∨ H a = none
theorem Chg.refl {fp : AS} {F H : Hp} : Chg fp F H fp F H := ⟨Same.refl _, fun _ _ _ e => e, fun _ _ _ => rfl, fun _ h => .inl h⟩
theorem Chg.trans {fp fp1 fp2 : AS} {F H F1 H1 F2 H2 : Hp} (x : Chg fp F H fp1 F1 H1) (y : Chg fp1 F1 H1 fp2 F2 H2) : Chg fp F H fp2 F2 H2 := by
  have n1 : ∀ a, ¬ fp a → H a ≠ none → ¬ fp1 a := fun a n e q => (x.nw a q).elim n e
  refine ⟨x.fz.trans y.fz, fun a o n e => ?_, fun a n e => ?_, fun a q => ?_⟩
  · exact y.kp a o (n1 a n (by rw [e]; simp)) (x.kp a o n e)
  · have h1 : H1 a ≠ none := by
      cases q : H a with
      | none => exact absurd q e
      | some o => rw [x.kp a o n q]; simp
    exact (y.fn a (n1 a n e) h1).trans (x.fn a n e)
  · rcases y.nw a q with z | z
    · exact x.nw a z
    · by_cases hf : fp a
      · exact .inl hf
      · right
        cases q : H a with
        | none => rfl
        | some o => rw [x.kp a o hf q] at z; cases z
theorem Chg.to {fp fp1 fp2 : AS} {F H F1 H1 : Hp} (x : Chg fp F H fp1 F1 H1) (h : ∀ a, fp2 a → fp1 a) : Chg fp F H fp2 F1 H1 := ⟨x.fz, x.kp, x.fn, fun a q => x.nw a (h a q)⟩
/-- a thing of one's own beside the slots stays -/
theorem Chg.aside {fp fp1 fv : AS} {F H F1 H1 : Hp} (x : Chg fp F H fp1 F1 H1) (o : ∀ a, fv a → ∃ o, H a = some o) (d : ∀ a, fv a → ¬ fp a) : (∀ a, fv a → H1 a = H a ∧ F1 a = F a) ∧ ∀ a, fv a → ¬ fp1 a := by
  refine ⟨fun a q => ?_, fun a q z => ?_⟩
  · obtain ⟨ob, e⟩ := o a q
    exact ⟨by rw [x.kp a ob (d a q) e, e], x.fn a (d a q) (by rw [e]; simp)⟩
  · obtain ⟨ob, e⟩ := o a q
    rcases x.nw a z with y | y
    · exact d a q y
    · rw [e] at y; cases y
/-- nothing but new things -/
structure Frs (F H F' H' : Hp) : Prop where
  fz : Same F F'
  sub : Same F' H'
  kp : Same H H'
  fn : ∀ a, H a ≠ none → F' a = F a
theorem Frs.refl {F H : Hp} (s : Same F H) : Frs F H F H := ⟨Same.refl _, s, Same.refl _, fun _ _ => rfl⟩
theorem Frs.trans {F H F1 H1 F2 H2 : Hp} (x : Frs F H F1 H1) (y : Frs F1 H1 F2 H2) : Frs F H F2 H2 := ⟨x.fz.trans y.fz, y.sub, x.kp.trans y.kp, fun a e => (y.fn a (by
  cases q : H a with
  | none => exact absurd q e
  | some o => rw [x.kp a o q]; simp)).trans (x.fn a e)⟩
theorem Frs.chg {fp : AS} {F H F' H' : Hp} (x : Frs F H F' H') : Chg fp F H fp F' H' := ⟨x.fz, fun a o _ e => x.kp a o e, fun a _ e => x.fn a e, fun _ h => .inl h⟩
section
variable [TF] {K : Frag} {mg : Str → Option Value} {F H F' H' : Hp} {ρ : Env} {fp : AS} {σ : St}
theorem Wd.frs (w : Wd K mg F H ρ fp σ) (x : Frs F H F' H') : Wd K mg F' H' ρ fp σ := ⟨x.sub, w.re.frame x.fz fun a q => by
  obtain ⟨_, o, e⟩ := w.re.own a q
  exact ⟨by rw [x.kp a o e, e], x.fn a (by rw [e]; simp)⟩⟩
end
end Nd

/-! Nd2: outcomes, transformers, expressions. -/
namespace Nd
open PySem L2

/-- a refusal: a class by its name, perhaps one field -/
inductive Xc where
  | plain (nm : Str)
  | fld (nm f : Str) (i : Int)
def Xr (mg : Str → Option Value) (x : Xc) (cls : Value) (dd : Option Addr) (H : Hp) : Prop :=
  match x with
  | .plain nm => mg nm = some cls ∧ dd = none
  | .fld nm f i => mg nm = some cls ∧ ∃ a, dd = some a ∧ H a = some (.xd [(f, .int i)])

inductive R (α : Type) where
  | ok (a : α) (ρ : Env)
  | ex (x : Xc) (ρ : Env)
  | bad
abbrev G (α : Type) := Env → R α
def R.bind {α β : Type} (r : R α) (f : α → G β) : R β :=
  match r with
  | .ok a ρ => f a ρ
  | .ex x ρ => .ex x ρ
  | .bad => .bad
def G.ret {α : Type} (a : α) : G α := fun ρ => .ok a ρ
def G.bind {α β : Type} (g : G α) (f : α → G β) : G β := fun ρ => (g ρ).bind f
def G.bad {α : Type} : G α := fun _ => .bad
def ofOpt {α : Type} (o : Option α) : G α := fun ρ => match o with | some a => .ok a ρ | none => .bad
@[simp] theorem R.bind_ok {α β : Type} {a : α} {ρ : Env} {f : α → G β} : (R.ok a ρ).bind f = f a ρ := rfl
@[simp] theorem R.bind_ex {α β : Type} {x : Xc} {ρ : Env} {f : α → G β} : (R.ex x ρ : R α).bind f = .ex x ρ := rfl
@[simp] theorem R.bind_bad {α β : Type} {f : α → G β} : (R.bad : R α).bind f = .bad := rfl

theorem G.bind_at {α β : Type} {g : G α} {f : α → G β} {ρ : Env} : G.bind g f ρ = (g ρ).bind f := rfl

/-- an operand: frozen data, or the slot that it is read from when the operation comes -/
inductive Op where
  | d (d : PyData)
  | s (i : Nat)
def vals : List C → Option (List PyData)
  | [] => some []
  | .val d :: r => (vals r).map (d :: ·)
  | _ :: _ => none
def shal : C → Option PyData
  | .val d => some d
  | .lst cs => (vals cs).map .list
  | _ => none
def deref (ρ : Env) : Op → Option PyData
  | .d d => some d
  | .s i => match ρ[i]? with
    | some (some c) => shal c
    | _ => none
/-! what may be frozen -/
mutual
def fz : C → Option PyData
  | .val d => some d
  | .lst cs => (fzs cs).map .list
  | .tup cs => (fzs cs).map .tuple
  | .dic _ _ => none
  | .obj _ _ _ => none
def fzs : List C → Option (List PyData)
  | [] => some []
  | c :: cs => match fz c, fzs cs with
    | some d, some ds => some (d :: ds)
    | _, _ => none
end

section
variable [TF] (K : Frag) (mg : Str → Option Value)
def Ro (F : Hp) (σ : St) (o : Op) (v : V) : Prop :=
  match o with
  | .d d => Dq K F v d
  | .s i => σ[i]? = some (some v)
def Ros (F : Hp) (σ : St) : List Op → List V → Prop
  | [], vs => vs = []
  | o :: os, vs => ∃ v r, vs = v :: r ∧ Ro K F σ o v ∧ Ros F σ os r
/-- data to be read now: frozen, or a list of one's own with frozen items -/
def Sh (F H : Hp) (v : V) (d : PyData) : Prop := Dq K F v d ∨ ∃ a vs ds, v = .ref a ∧ d = .list ds ∧ H a = some (.lst vs) ∧ DqAll K F vs ds
def Shs (F H : Hp) : List V → List PyData → Prop
  | [], ds => ds = []
  | v :: vs, ds => ∃ d r, ds = d :: r ∧ Sh K F H v d ∧ Shs F H vs r

/-- an exception comes -/
def exPost (W : WX) (F H : Hp) (fp : AS) (σ : St) (x : Xc) (ρ' : Env) : Prop :=
  ∀ cls dd F' H' fp', Wd K mg F' H' ρ' fp' σ → Chg fp F H fp' F' H' → Xr mg x cls dd H' → W cls dd σ H'
/-- an expression whose value is one's own -/
def tE (W : WX) (g : G C) : TE := fun σ H Q => ∃ ρ fp F, Wd K mg F H ρ fp σ ∧
  match g ρ with
  | .ok c ρ' => ∀ v F' H' fp' fv, Wd K mg F' H' ρ' fp' σ → Rc K mg F' H' c v fv → (∀ a, fv a → ¬ fp' a) → Chg fp F H (fun a => fp' a ∨ fv a) F' H' → Q v H'
  | .ex x ρ' => exPost K mg W F H fp σ x ρ'
  | .bad => False
/-- several -/
def tEs (W : WX) (g : G (List C)) : TA := fun σ H Q => ∃ ρ fp F, Wd K mg F H ρ fp σ ∧
  match g ρ with
  | .ok cs ρ' => ∀ vs F' H' fp' fv, Wd K mg F' H' ρ' fp' σ → Rcs K mg F' H' cs vs fv → (∀ a, fv a → ¬ fp' a) → Chg fp F H (fun a => fp' a ∨ fv a) F' H' → Q vs H'
  | .ex x ρ' => exPost K mg W F H fp σ x ρ'
  | .bad => False
/-- an operand -/
def tO (W : WX) (g : G Op) : TE := fun σ H Q => ∃ ρ fp F, Wd K mg F H ρ fp σ ∧
  match g ρ with
  | .ok o ρ' => ∀ v F' H' fp', Wd K mg F' H' ρ' fp' σ → Ro K F' σ o v → Chg fp F H fp' F' H' → Q v H'
  | .ex x ρ' => exPost K mg W F H fp σ x ρ'
  | .bad => False
def tOs (W : WX) (g : G (List Op)) : TA := fun σ H Q => ∃ ρ fp F, Wd K mg F H ρ fp σ ∧
  match g ρ with
  | .ok os ρ' => ∀ vs F' H' fp', Wd K mg F' H' ρ' fp' σ → Ros K F' σ os vs → Chg fp F H fp' F' H' → Q vs H'
  | .ex x ρ' => exPost K mg W F H fp σ x ρ'
  | .bad => False
/-- a test -/
def tT (W : WX) (g : G Bool) : TT := fun σ H Q => ∃ ρ fp F, Wd K mg F H ρ fp σ ∧
  match g ρ with
  | .ok b ρ' => ∀ F' H' fp', Wd K mg F' H' ρ' fp' σ → Chg fp F H fp' F' H' → Q b H'
  | .ex x ρ' => exPost K mg W F H fp σ x ρ'
  | .bad => False
end

section
variable [TF] {K : Frag} {mg : Str → Option Value} {F H F' H' : Hp} {ρ : Env} {fp : AS} {σ : St} {W : WX}
theorem Ro.mono {o : Op} {v : V} (e : Same F F') (h : Ro K F σ o v) : Ro K F' σ o v := by
  cases o with
  | d d => exact Dq.mono e h
  | s i => exact h
theorem Ros.mono (e : Same F F') : ∀ {os : List Op} {vs : List V}, Ros K F σ os vs → Ros K F' σ os vs
  | [], _, h => h
  | o :: os, vs, ⟨v, r, h1, h2, h3⟩ => ⟨v, r, h1, h2.mono e, Ros.mono e h3⟩
theorem vals_sh : ∀ {cs : List C} {ds : List PyData} {vs : List V} {f : AS}, Rcs K mg F H cs vs f → vals cs = some ds → DqAll K F vs ds
  | [], ds, vs, f, h, e => by
    simp only [vals, Option.some.injEq] at e
    simp only [Rcs] at h
    rw [h.1, ← e]; exact .nil
  | .val d :: r, ds, vs, f, h, e => by
    simp only [vals] at e
    simp only [Rcs, Rc] at h
    obtain ⟨v, vr, f1, f2, h1, h2, h3, h4, h5⟩ := h
    cases q : vals r with
    | none => rw [q] at e; cases e
    | some dr =>
      rw [q] at e
      cases e
      rw [h1]
      exact .cons h2.1 (vals_sh h3 q)
  | .tup _ :: r, ds, vs, f, h, e => by simp [vals] at e
  | .lst _ :: r, ds, vs, f, h, e => by simp [vals] at e
  | .dic _ _ :: r, ds, vs, f, h, e => by simp [vals] at e
  | .obj _ _ _ :: r, ds, vs, f, h, e => by simp [vals] at e
theorem shal_sh {c : C} {d : PyData} {v : V} {f : AS} (h : Rc K mg F H c v f) (e : shal c = some d) : Sh K F H v d := by
  cases c with
  | val d' =>
    simp only [shal, Option.some.injEq] at e
    subst e
    simp only [Rc] at h
    exact .inl h.1
  | lst cs =>
    simp only [shal] at e
    simp only [Rc] at h
    obtain ⟨a, vs, f', h1, h2, h3, h4, h5, h6⟩ := h
    cases q : vals cs with
    | none => rw [q] at e; cases e
    | some ds =>
      rw [q] at e
      cases e
      exact .inr ⟨a, vs, ds, h1, rfl, h2, vals_sh h4 q⟩
  | tup _ => simp [shal] at e
  | dic _ _ => simp [shal] at e
  | obj _ _ _ => simp [shal] at e
/-- the operand as it is now -/
theorem deref_sh {o : Op} {v : V} {d : PyData} (w : Wd K mg F H ρ fp σ) (r : Ro K F σ o v) (e : deref ρ o = some d) : Sh K F H v d := by
  cases o with
  | d d' =>
    simp only [deref, Option.some.injEq] at e
    subst e
    exact .inl r
  | s i =>
    simp only [deref] at e
    cases q : ρ[i]? with
    | none => rw [q] at e; cases e
    | some oc =>
      cases oc with
      | none => rw [q] at e; cases e
      | some c =>
        rw [q] at e
        obtain ⟨ov, f1, f2, q1, ⟨v', q2, q2'⟩, _⟩ := w.re.focus q
        have r' : σ[i]? = some (some v) := r
        rw [q1, q2] at r'
        cases r'
        exact shal_sh q2' e
theorem Sh.frs {v : V} {d : PyData} (h : Sh K F H v d) (x : Frs F H F' H') : Sh K F' H' v d := by
  rcases h with h | ⟨a, vs, ds, h1, h2, h3, h4⟩
  · exact .inl (Dq.mono x.fz h)
  · exact .inr ⟨a, vs, ds, h1, h2, x.kp a _ h3, DqAll.mono x.fz h4⟩

/-! ### freezing -/
open Classical in
/-- the heap of the frozen with some more of H -/
noncomputable def More (F H : Hp) (f : AS) : Hp := fun a => if f a then H a else F a
mutual
theorem fz_ok : ∀ {c : C} {d : PyData} {v : V} {f : AS}, Rc K mg F H c v f → fz c = some d → ∀ F', Same F F' → (∀ a, f a → F' a = H a) → Dq K F' v d
  | .val d, d', v, f, h, e, F', se, k => by
    simp only [fz, Option.some.injEq] at e
    subst e
    simp only [Rc] at h
    exact Dq.mono se h.1
  | .lst cs, d, v, f, h, e, F', se, k => by
    simp only [fz] at e
    simp only [Rc] at h
    obtain ⟨a, vs, f', h1, h2, h3, h4, h5, h6⟩ := h
    cases q : fzs cs with
    | none => rw [q] at e; cases e
    | some ds =>
      rw [q] at e
      cases e
      rw [h1]
      exact .lst (.of ((k a ((h6 a).mpr (.inl rfl))).trans h2)) (fzs_ok h4 q F' se fun b z => k b ((h6 b).mpr (.inr z)))
  | .tup cs, d, v, f, h, e, F', se, k => by
    simp only [fz] at e
    simp only [Rc] at h
    obtain ⟨a, vs, f', h1, h2, h3, h4, h5, h6⟩ := h
    cases q : fzs cs with
    | none => rw [q] at e; cases e
    | some ds =>
      rw [q] at e
      cases e
      rw [h1]
      exact .tup (.of ((k a ((h6 a).mpr (.inl rfl))).trans h2)) (fzs_ok h4 q F' se fun b z => k b ((h6 b).mpr (.inr z)))
  | .dic _ _, d, v, f, h, e, F', se, k => by simp [fz] at e
  | .obj _ _ _, d, v, f, h, e, F', se, k => by simp [fz] at e
theorem fzs_ok : ∀ {cs : List C} {ds : List PyData} {vs : List V} {f : AS}, Rcs K mg F H cs vs f → fzs cs = some ds → ∀ F', Same F F' → (∀ a, f a → F' a = H a) → DqAll K F' vs ds
  | [], ds, vs, f, h, e, F', se, k => by
    simp only [fzs, Option.some.injEq] at e
    simp only [Rcs] at h
    rw [h.1, ← e]; exact .nil
  | c :: cs, ds, vs, f, h, e, F', se, k => by
    simp only [fzs] at e
    simp only [Rcs] at h
    obtain ⟨v, r, f1, f2, h1, h2, h3, h4, h5⟩ := h
    cases q : fz c with
    | none => rw [q] at e; cases e
    | some d =>
      cases q2 : fzs cs with
      | none => rw [q, q2] at e; cases e
      | some dr =>
        rw [q, q2] at e
        cases e
        rw [h1]
        exact .cons (fz_ok h2 q F' se fun a z => k a ((h5 a).mpr (.inl z))) (fzs_ok h3 q2 F' se fun a z => k a ((h5 a).mpr (.inr z)))
end
open Classical in
/-- things of one's own beside the slots are frozen -/
theorem Wd.freeze {f : AS} (w : Wd K mg F H ρ fp σ) (own : ∀ a, f a → F a = none ∧ ∃ o, H a = some o) (d : ∀ a, f a → ¬ fp a) : Same F (More F H f) ∧ Wd K mg (More F H f) H ρ fp σ ∧ (∀ a, f a → More F H f a = H a) ∧ ∀ a, ¬ f a → More F H f a = F a := by
  have se : Same F (More F H f) := fun a o e => by
    unfold More
    by_cases h : f a
    · rw [(own a h).1] at e; cases e
    · rw [if_neg h]; exact e
  refine ⟨se, ⟨fun a o e => ?_, w.re.frame se fun a q => ⟨rfl, ?_⟩⟩, fun a h => if_pos h, fun a h => if_neg h⟩
  · unfold More at e
    by_cases h : f a
    · rw [if_pos h] at e; exact e
    · rw [if_neg h] at e; exact w.sub a o e
  · exact if_neg fun z => d a z q
end

/-! ### weakening -/
theorem _root_.L2.PE.imp {X : Cx} {e : Expr} {t t' : TE} (h : PE X e t) (k : ∀ σ H Q, t' σ H Q → t σ H Q) : PE X e t' := ⟨fun pins s σ H Q I hw => h.run pins s σ H Q I (k σ H Q hw)⟩
theorem _root_.L2.PT.imp {X : Cx} {e : Expr} {t t' : TT} (h : PT X e t) (k : ∀ σ H Q, t' σ H Q → t σ H Q) : PT X e t' := ⟨fun pins s σ H Q I hw => h.run pins s σ H Q I (k σ H Q hw)⟩
theorem _root_.L2.PW.imp {X : Cx} {e : Expr} {t t' : TT} (h : PW X e t) (k : ∀ σ H Q, t' σ H Q → t σ H Q) : PW X e t' := ⟨fun wh pins s σ H Q I hw => h.run wh pins s σ H Q I (k σ H Q hw)⟩
theorem _root_.L2.PA.imp {X : Cx} {e : List Expr} {t t' : TA} (h : PA X e t) (k : ∀ σ H Q, t' σ H Q → t σ H Q) : PA X e t' := ⟨fun pos pins s σ H Q I hw => h.run pos pins s σ H Q I (k σ H Q hw)⟩
theorem _root_.L2.PS.imp {X : Cx} {e : Stmt} {t t' : TS} (h : PS X e t) (k : ∀ D σ H, t' D σ H → t D σ H) : PS X e t' := ⟨fun pins s σ H D I hw => h.run pins s σ H D I (k D σ H hw)⟩
theorem _root_.L2.PSs.imp {X : Cx} {e : List Stmt} {t t' : TS} (h : PSs X e t) (k : ∀ D σ H, t' D σ H → t D σ H) : PSs X e t' := ⟨fun pins s σ H D I hw => h.run pins s σ H D I (k D σ H hw)⟩

/-! ### names, constants -/
section
variable [TF] {X : Cx} {K : Frag} {mg : Str → Option Value} {W : WX}
/-- the value of a slot: data is read, a thing of one's own is taken away -/
def gName (i : Nat) : G C := fun ρ => match ρ[i]? with
  | some (some (.val d)) => .ok (.val d) ρ
  | some (some c) => .ok c (ρ.set i none)
  | _ => .bad
def gSlot (i : Nat) : G Op := fun ρ => match ρ[i]? with
  | some (some _) => .ok (.s i) ρ
  | _ => .bad
theorem eName_ok {i : Nat} {σ : St} {H : Hp} {Q : VK} (h : tE K mg W (gName i) σ H Q) : tVar i σ H Q := by
  obtain ⟨ρ, fp, F, w, h⟩ := h
  unfold gName at h
  cases q : ρ[i]? with
  | none => rw [q] at h; exact h.elim
  | some oc =>
    cases oc with
    | none => rw [q] at h; exact h.elim
    | some c =>
      obtain ⟨ov, f1, f2, q1, ⟨v, q2, q3⟩, dj, cv, put⟩ := w.re.focus q
      subst q2
      refine ⟨v, q1, ?_⟩
      have mv : ∀ (hm : (∀ v F' H' fp' fv, Wd K mg F' H' (ρ.set i none) fp' σ → Rc K mg F' H' c v fv → (∀ a, fv a → ¬ fp' a) → Chg fp F H (fun a => fp' a ∨ fv a) F' H' → Q v H')), Q v H := fun hm => by
        refine hm v F H f2 f1 ⟨w.sub, ?_⟩ q3 dj ⟨Same.refl _, fun _ _ _ e => e, fun _ _ _ => rfl, fun a z => .inl ((cv a).mpr z.symm)⟩
        have z := put none (some v) F H (fun _ => False) (Same.refl _) (fun _ _ => ⟨rfl, rfl⟩) (fun _ z => z) (fun _ z => z.elim)
        have e : σ.set i (some v) = σ := by
          apply List.ext_getElem?
          intro j
          by_cases hj : j = i
          · subst hj; rw [q1]; exact List.getElem?_set_self (List.getElem?_eq_some_iff.mp q1).1
          · exact List.getElem?_set_ne (Ne.symm hj)
        rw [e] at z
        exact z.iff fun a => by simp
      cases c with
      | val d =>
        rw [q] at h
        exact h v F H fp f1 w q3 (fun a z => by simp only [Rc] at q3; exact (q3.2 a z).elim) ⟨Same.refl _, fun _ _ _ e => e, fun _ _ _ => rfl, fun a z => .inl (z.elim id fun y => by simp only [Rc] at q3; exact (q3.2 a y).elim)⟩
      | tup cs => rw [q] at h; exact mv h
      | lst cs => rw [q] at h; exact mv h
      | dic ks cs => rw [q] at h; exact mv h
      | obj cl ks cs => rw [q] at h; exact mv h
theorem oSlot_ok {i : Nat} {σ : St} {H : Hp} {Q : VK} (h : tO K mg W (gSlot i) σ H Q) : tVar i σ H Q := by
  obtain ⟨ρ, fp, F, w, h⟩ := h
  unfold gSlot at h
  cases q : ρ[i]? with
  | none => rw [q] at h; exact h.elim
  | some oc =>
    cases oc with
    | none => rw [q] at h; exact h.elim
    | some c =>
      rw [q] at h
      obtain ⟨ov, f1, f2, q1, ⟨v, q2, q3⟩, dj, cv, put⟩ := w.re.focus q
      subst q2
      exact ⟨v, q1, h v F H fp w q1 Chg.refl⟩
theorem e_name (i : Nat) {x : Str} {pos : Pos} (hN : X.N[i]? = some x := by rfl) (hv : Vis X.env.scope x := by first | exact Or.inl rfl | exact Or.inr (Or.inl rfl) | exact Or.inr (Or.inr rfl)) (hd : (x == ("__debug__" : Str)) = false := by decide)
    (hcd : (x == ("__classdict__" : Str)) = false := by decide) : PE X (.Name x pos) (tE K mg W (gName i)) := (pe_var hN hv hd hcd).imp fun _ _ _ => eName_ok
theorem o_name (i : Nat) {x : Str} {pos : Pos} (hN : X.N[i]? = some x := by rfl) (hv : Vis X.env.scope x := by first | exact Or.inl rfl | exact Or.inr (Or.inl rfl) | exact Or.inr (Or.inr rfl)) (hd : (x == ("__debug__" : Str)) = false := by decide)
    (hcd : (x == ("__classdict__" : Str)) = false := by decide) : PE X (.Name x pos) (tO K mg W (gSlot i)) := (pe_var hN hv hd hcd).imp fun _ _ _ => oSlot_ok

theorem Rc.of_dp {F H : Hp} {v : V} {d : PyData} (h : Dq K F v d) : Rc K mg F H (.val d) v (fun _ => False) := by
  simp only [Rc]
  exact ⟨h, fun _ z => z⟩
theorem Chg.or_false {fp fp' : AS} {F H F' H' : Hp} (x : Chg fp F H fp' F' H') : Chg fp F H (fun a => fp' a ∨ False) F' H' := x.to fun a z => z.elim id False.elim
/-- a constant -/
def gC (d : PyData) : G C := fun ρ => .ok (.val d) ρ
def oC (d : PyData) : G Op := fun ρ => .ok (.d d) ρ
theorem eC_ok {d : PyData} {v : V} (hd : ∀ F, Dq K F v d) {σ : St} {H : Hp} {Q : VK} (h : tE K mg W (gC d) σ H Q) : tC v σ H Q := by
  obtain ⟨ρ, fp, F, w, h⟩ := h
  exact h v F H fp _ w (Rc.of_dp (hd F)) (fun _ z => z.elim) Chg.refl.or_false
theorem oC_ok {d : PyData} {v : V} (hd : ∀ F, Dq K F v d) {σ : St} {H : Hp} {Q : VK} (h : tO K mg W (oC d) σ H Q) : tC v σ H Q := by
  obtain ⟨ρ, fp, F, w, h⟩ := h
  exact h v F H fp w (hd F) Chg.refl
theorem e_int {i j pos} : PE X (.Constant (.int i) j pos) (tE K mg W (gC (.int i))) := pe_int.imp fun _ _ _ => eC_ok fun _ => .int _
theorem e_str {x j pos} (hx : PyData.canLay0 (.str x) = true := by decide) : PE X (.Constant (.str x) j pos) (tE K mg W (gC (.str x))) := pe_str.imp fun _ _ _ => eC_ok fun _ => .str hx
theorem e_bl {b j pos} : PE X (.Constant (.bool b) j pos) (tE K mg W (gC (.bool b))) := pe_bl.imp fun _ _ _ => eC_ok fun _ => .bl _
theorem e_non {j pos} : PE X (.Constant .none j pos) (tE K mg W (gC .none)) := pe_non.imp fun _ _ _ => eC_ok fun _ => .non
theorem o_int {i j pos} : PE X (.Constant (.int i) j pos) (tO K mg W (oC (.int i))) := pe_int.imp fun _ _ _ => oC_ok fun _ => .int _
theorem o_str {x j pos} (hx : PyData.canLay0 (.str x) = true := by decide) : PE X (.Constant (.str x) j pos) (tO K mg W (oC (.str x))) := pe_str.imp fun _ _ _ => oC_ok fun _ => .str hx
theorem o_bl {b j pos} : PE X (.Constant (.bool b) j pos) (tO K mg W (oC (.bool b))) := pe_bl.imp fun _ _ _ => oC_ok fun _ => .bl _
theorem o_non {j pos} : PE X (.Constant .none j pos) (tO K mg W (oC .none)) := pe_non.imp fun _ _ _ => oC_ok fun _ => .non
/-- a module's constant -/
theorem e_glob {x : Str} {v : V} {d : PyData} {u : Value} {pos : Pos} (hg : Gl X x) (hm : X.mg x = some u) (r : RelV v u) (hd : ∀ F, Dq K F v d) (hdb : (x == ("__debug__" : Str)) = false := by decide) : PE X (.Name x pos) (tE K mg W (gC d)) := (pe_glob hg hm r hdb).imp fun _ _ _ => eC_ok hd
theorem o_glob {x : Str} {v : V} {d : PyData} {u : Value} {pos : Pos} (hg : Gl X x) (hm : X.mg x = some u) (r : RelV v u) (hd : ∀ F, Dq K F v d) (hdb : (x == ("__debug__" : Str)) = false := by decide) : PE X (.Name x pos) (tO K mg W (oC d)) := (pe_glob hg hm r hdb).imp fun _ _ _ => oC_ok hd

/-! ### what is one's own, frozen, as an operand -/
def gFz (g : G C) : G Op := G.bind g fun c => match fz c with | some d => G.ret (.d d) | none => G.bad
theorem o_of {e : Expr} {g : G C} (h : PE X e (tE K mg W g)) : PE X e (tO K mg W (gFz g)) := h.imp fun σ H Q hq => by
  obtain ⟨ρ, fp, F, w, hq⟩ := hq
  refine ⟨ρ, fp, F, w, ?_⟩
  unfold gFz G.bind at hq
  cases q : g ρ with
  | bad => rw [q] at hq; exact hq.elim
  | ex x ρ' => rw [q] at hq; exact hq
  | ok c ρ' =>
    rw [q] at hq
    intro v F' H' fp' fv w' r dj ch
    simp only [R.bind_ok] at hq
    cases z : fz c with
    | none => rw [z] at hq; exact hq.elim
    | some d =>
      rw [z] at hq
      obtain ⟨se, w2, k1, k2⟩ := w'.freeze (f := fv) (Rc.own r) dj
      classical
      refine hq v (More F' H' fv) H' fp' w2 (fz_ok r z _ se k1) ⟨ch.fz.trans se, ch.kp, fun a n e => ?_, fun a z => ch.nw a (.inl z)⟩
      have hn : ¬ fv a := fun y => (ch.nw a (.inr y)).elim n e
      exact (k2 a hn).trans (ch.fn a n e)
end
end Nd

/-! Nd3: expressions put together. -/
namespace Nd
open PySem L2
section
variable [TF] {X : Cx} {K : Frag} {mg : Str → Option Value} {W : WX} {F H F0 H0 : Hp} {ρ : Env} {fp fp0 : AS} {σ : St}
theorem exPost.of {x : Xc} {ρ' : Env} (ch : Chg fp0 F0 H0 fp F H) (h : exPost K mg W F0 H0 fp0 σ x ρ') : exPost K mg W F H fp σ x ρ' := fun cls dd F' H' fp' w c r => h cls dd F' H' fp' w (ch.trans c) r
/-- one step within a longer evaluation: an operand -/
theorem oRun {g : G Op} {Q : VK} (w : Wd K mg F H ρ fp σ) (ch : Chg fp0 F0 H0 fp F H)
    (h : match g ρ with
      | .ok o ρ' => ∀ v F' H' fp', Wd K mg F' H' ρ' fp' σ → Ro K F' σ o v → Same F F' → Chg fp0 F0 H0 fp' F' H' → Q v H'
      | .ex x ρ' => exPost K mg W F0 H0 fp0 σ x ρ'
      | .bad => False) : tO K mg W g σ H Q := by
  refine ⟨ρ, fp, F, w, ?_⟩
  cases q : g ρ with
  | bad => rw [q] at h; exact h.elim
  | ex x ρ' => rw [q] at h; exact exPost.of ch h
  | ok o ρ' =>
    rw [q] at h
    exact fun v F' H' fp' w' r c => h v F' H' fp' w' r c.fz (ch.trans c)
theorem osRun {g : G (List Op)} {Q : List V → Hp → Prop} (w : Wd K mg F H ρ fp σ) (ch : Chg fp0 F0 H0 fp F H)
    (h : match g ρ with
      | .ok o ρ' => ∀ v F' H' fp', Wd K mg F' H' ρ' fp' σ → Ros K F' σ o v → Same F F' → Chg fp0 F0 H0 fp' F' H' → Q v H'
      | .ex x ρ' => exPost K mg W F0 H0 fp0 σ x ρ'
      | .bad => False) : tOs K mg W g σ H Q := by
  refine ⟨ρ, fp, F, w, ?_⟩
  cases q : g ρ with
  | bad => rw [q] at h; exact h.elim
  | ex x ρ' => rw [q] at h; exact exPost.of ch h
  | ok o ρ' =>
    rw [q] at h
    exact fun v F' H' fp' w' r c => h v F' H' fp' w' r c.fz (ch.trans c)
theorem tRun {g : G Bool} {Q : Bool → Hp → Prop} (w : Wd K mg F H ρ fp σ) (ch : Chg fp0 F0 H0 fp F H)
    (h : match g ρ with
      | .ok b ρ' => ∀ F' H' fp', Wd K mg F' H' ρ' fp' σ → Same F F' → Chg fp0 F0 H0 fp' F' H' → Q b H'
      | .ex x ρ' => exPost K mg W F0 H0 fp0 σ x ρ'
      | .bad => False) : tT K mg W g σ H Q := by
  refine ⟨ρ, fp, F, w, ?_⟩
  cases q : g ρ with
  | bad => rw [q] at h; exact h.elim
  | ex x ρ' => rw [q] at h; exact exPost.of ch h
  | ok o ρ' =>
    rw [q] at h
    exact fun F' H' fp' w' c => h F' H' fp' w' c.fz (ch.trans c)
/-- a value, a thing of one's own at fa put aside -/
theorem eRun {g : G C} {Q : VK} (w : Wd K mg F H ρ fp σ) (ch : Chg fp0 F0 H0 fp F H)
    (h : match g ρ with
      | .ok c ρ' => ∀ v F' H' fp' fv, Wd K mg F' H' ρ' fp' σ → Rc K mg F' H' c v fv → (∀ a, fv a → ¬ fp' a) → Chg fp F H (fun a => fp' a ∨ fv a) F' H' → Chg fp0 F0 H0 (fun a => fp' a ∨ fv a) F' H' → Q v H'
      | .ex x ρ' => exPost K mg W F0 H0 fp0 σ x ρ'
      | .bad => False) : tE K mg W g σ H Q := by
  refine ⟨ρ, fp, F, w, ?_⟩
  cases q : g ρ with
  | bad => rw [q] at h; exact h.elim
  | ex x ρ' => rw [q] at h; exact exPost.of ch h
  | ok o ρ' =>
    rw [q] at h
    exact fun v F' H' fp' fv w' r dj c => h v F' H' fp' fv w' r dj c (ch.trans c)
theorem esRun {g : G (List C)} {Q : List V → Hp → Prop} (w : Wd K mg F H ρ fp σ) (ch : Chg fp0 F0 H0 fp F H)
    (h : match g ρ with
      | .ok c ρ' => ∀ v F' H' fp' fv, Wd K mg F' H' ρ' fp' σ → Rcs K mg F' H' c v fv → (∀ a, fv a → ¬ fp' a) → Chg fp F H (fun a => fp' a ∨ fv a) F' H' → Chg fp0 F0 H0 (fun a => fp' a ∨ fv a) F' H' → Q v H'
      | .ex x ρ' => exPost K mg W F0 H0 fp0 σ x ρ'
      | .bad => False) : tEs K mg W g σ H Q := by
  refine ⟨ρ, fp, F, w, ?_⟩
  cases q : g ρ with
  | bad => rw [q] at h; exact h.elim
  | ex x ρ' => rw [q] at h; exact exPost.of ch h
  | ok o ρ' =>
    rw [q] at h
    exact fun v F' H' fp' fv w' r dj c => h v F' H' fp' fv w' r dj c (ch.trans c)

/-! ### lists of operands, of values -/
def gOs : List (G Op) → G (List Op)
  | [] => G.ret []
  | g :: gs => G.bind g fun o => G.bind (gOs gs) fun os => G.ret (o :: os)
def gEs : List (G C) → G (List C)
  | [] => G.ret []
  | g :: gs => G.bind g fun o => G.bind (gEs gs) fun os => G.ret (o :: os)
theorem gEs_length : ∀ {gs : List (G C)} {ρ ρ' : Env} {cs : List C}, gEs gs ρ = .ok cs ρ' → cs.length = gs.length
  | [], ρ, ρ', cs, h => by
    simp only [gEs, G.ret] at h
    cases h; rfl
  | g :: gs, ρ, ρ', cs, h => by
    simp only [gEs, G.bind] at h
    cases q : g ρ with
    | bad => rw [q] at h; cases h
    | ex x ρ1 => rw [q] at h; cases h
    | ok c ρ1 =>
      rw [q] at h
      simp only [R.bind_ok, G.bind_at] at h
      cases q2 : gEs gs ρ1 with
      | bad => rw [q2] at h; cases h
      | ex x ρ2 => rw [q2] at h; cases h
      | ok cr ρ2 =>
        rw [q2] at h
        simp only [R.bind_ok, G.ret] at h
        cases h
        simp [gEs_length q2]
theorem os_nil : PA X [] (tOs K mg W (gOs [])) := pa_nil.imp fun σ H Q h => by
  obtain ⟨ρ, fp, F, w, h⟩ := h
  exact h [] F H fp w rfl Chg.refl
theorem os_cons {e : Expr} {es : List Expr} {g : G Op} {gs : List (G Op)} (ha : PE X e (tO K mg W g)) (hr : PA X es (tOs K mg W (gOs gs))) (hs : starEach (e :: es) X.env = (false, eval e X.env) :: starEach es X.env := by rfl) :
    PA X (e :: es) (tOs K mg W (gOs (g :: gs))) := (pa_cons ha hr hs).imp fun σ H Q h => by
  obtain ⟨ρ, fp, F, w, h⟩ := h
  simp only [gOs, G.bind] at h
  refine oRun w Chg.refl ?_
  cases q : g ρ with
  | bad => rw [q] at h; exact h.elim
  | ex x ρ' => rw [q] at h; exact h
  | ok o ρ1 =>
    rw [q] at h
    simp only [R.bind_ok, G.bind_at] at h
    intro v F1 H1 fp1 w1 r1 s1 c1
    refine osRun w1 c1 ?_
    cases q2 : gOs gs ρ1 with
    | bad => rw [q2] at h; exact h.elim
    | ex x ρ' => rw [q2] at h; exact h
    | ok os ρ2 =>
      rw [q2] at h
      intro vs F2 H2 fp2 w2 r2 s2 c2
      exact h (v :: vs) F2 H2 fp2 w2 ⟨v, vs, rfl, r1.mono s2, r2⟩ c2
theorem es_nil : PA X [] (tEs K mg W (gEs [])) := pa_nil.imp fun σ H Q h => by
  obtain ⟨ρ, fp, F, w, h⟩ := h
  exact h [] F H fp (fun _ => False) w (by simp only [Rcs]; exact ⟨trivial, fun _ z => z⟩) (fun _ z => z.elim) Chg.refl.or_false
theorem es_cons {e : Expr} {es : List Expr} {g : G C} {gs : List (G C)} (ha : PE X e (tE K mg W g)) (hr : PA X es (tEs K mg W (gEs gs))) (hs : starEach (e :: es) X.env = (false, eval e X.env) :: starEach es X.env := by rfl) :
    PA X (e :: es) (tEs K mg W (gEs (g :: gs))) := (pa_cons ha hr hs).imp fun σ H Q h => by
  obtain ⟨ρ, fp, F, w, h⟩ := h
  simp only [gEs, G.bind] at h
  refine eRun w Chg.refl ?_
  cases q : g ρ with
  | bad => rw [q] at h; exact h.elim
  | ex x ρ' => rw [q] at h; exact h
  | ok o ρ1 =>
    rw [q] at h
    simp only [R.bind_ok, G.bind_at] at h
    intro v F1 H1 fp1 fv1 w1 r1 d1 c1 _
    refine esRun w1 (c1.to fun a => .inl) ?_
    cases q2 : gEs gs ρ1 with
    | bad => rw [q2] at h; exact h.elim
    | ex x ρ' => rw [q2] at h; exact h
    | ok os ρ2 =>
      rw [q2] at h
      intro vs F2 H2 fp2 fv2 w2 r2 d2 c2 c2'
      obtain ⟨k1, k2⟩ := c2.aside (fv := fv1) (fun a z => (Rc.own r1 a z).2) d1
      refine h (v :: vs) F2 H2 fp2 (fun a => fv1 a ∨ fv2 a) w2 ?_ (fun a z => z.elim (fun y u => k2 a y (.inl u)) (d2 a)) ⟨c2'.fz, c2'.kp, c2'.fn, fun a z => ?_⟩
      · simp only [Rcs]
        exact ⟨v, vs, fv1, fv2, rfl, r1.frame c2.fz k1, r2, fun a y u => k2 a y (.inr u), fun a => Iff.rfl⟩
      · rcases z with z | z | z
        · exact c2'.nw a (.inl z)
        · exact c1.nw a (.inr z)
        · exact c2'.nw a (.inr z)

/-! ### operations by values -/
def Post (K : Frag) (mg : Str → Option Value) (F H : Hp) (c : C) (Q : VK) : Prop := ∀ z F' H' fv, Frs F H F' H' → Rc K mg F' H' c z fv → (∀ a, fv a → H a = none) → Q z H'
theorem Post.val {F H : Hp} {d : PyData} {Q : VK} {v : V} (p : Post K mg F H (.val d) Q) (s : Same F H) (h : Dq K F v d) : Q v H := p v F H _ (Frs.refl s) (Rc.of_dp h) fun _ z => z.elim
/-- an operation's result among what stands -/
theorem fin_post {c : C} {Q : VK} (w : Wd K mg F H ρ fp σ) (ch : Chg fp0 F0 H0 fp F H)
    (h : ∀ v F' H' fp' fv, Wd K mg F' H' ρ fp' σ → Rc K mg F' H' c v fv → (∀ a, fv a → ¬ fp' a) → Chg fp0 F0 H0 (fun a => fp' a ∨ fv a) F' H' → Q v H') : Post K mg F H c Q := fun z F' H' fv x r n => by
  refine h z F' H' fp fv (w.frs x) r (fun a q y => ?_) ?_
  · obtain ⟨_, o, e⟩ := w.re.own a y
    rw [n a q] at e; cases e
  · have y : Chg fp F H (fun a => fp a ∨ fv a) F' H' := ⟨x.fz, fun a o _ e => x.kp a o e, fun a _ e => x.fn a e, fun a z => z.elim .inl fun u => .inr (n a u)⟩
    exact ch.trans y
def r2 (K : Frag) (mg : Str → Option Value) (f : PyData → PyData → Option C) : R2 := fun x y H Q => ∃ F dx dy c, Same F H ∧ Sh K F H x dx ∧ Sh K F H y dy ∧ f dx dy = some c ∧ Post K mg F H c Q
def r1 (K : Frag) (mg : Str → Option Value) (f : PyData → Option C) : V → Hp → VK → Prop := fun x H Q => ∃ F dx c, Same F H ∧ Sh K F H x dx ∧ f dx = some c ∧ Post K mg F H c Q
def rN (K : Frag) (mg : Str → Option Value) (f : List PyData → Option C) : List V → Hp → VK → Prop := fun xs H Q => ∃ F ds c, Same F H ∧ Shs K F H xs ds ∧ f ds = some c ∧ Post K mg F H c Q
def gFin {α : Type} (o : Option α) : G α := fun ρ => match o with | some c => .ok c ρ | none => .bad
def gOp2 (f : PyData → PyData → Option C) (ga gb : G Op) : G C := G.bind ga fun a => G.bind gb fun b => fun ρ => match deref ρ a, deref ρ b with
  | some x, some y => gFin (f x y) ρ
  | _, _ => .bad
def derefs (ρ : Env) : List Op → Option (List PyData)
  | [] => some []
  | o :: os => match deref ρ o, derefs ρ os with
    | some d, some ds => some (d :: ds)
    | _, _ => none
def gOpN (f : List PyData → Option C) (g : G (List Op)) : G C := G.bind g fun os => fun ρ => match derefs ρ os with
  | some ds => gFin (f ds) ρ
  | none => .bad
def cmpC (f : PyData → PyData → Option Bool) : PyData → PyData → Option C := fun x y => (f x y).map fun b => .val (.bool b)
def gT2 (f : PyData → PyData → Option Bool) (ga gb : G Op) : G Bool := G.bind ga fun a => G.bind gb fun b => fun ρ => match deref ρ a, deref ρ b with
  | some x, some y => gFin (f x y) ρ
  | _, _ => .bad
theorem derefs_sh : ∀ {os : List Op} {vs : List V} {ds : List PyData}, Wd K mg F H ρ fp σ → Ros K F σ os vs → derefs ρ os = some ds → Shs K F H vs ds
  | [], vs, ds, w, r, e => by
    simp only [derefs, Option.some.injEq] at e
    have r' : vs = [] := r
    subst r'
    exact e.symm
  | o :: os, vs, ds, w, ⟨v, vr, h1, h2, h3⟩, e => by
    simp only [derefs] at e
    cases q : deref ρ o with
    | none => rw [q] at e; cases e
    | some d =>
      cases q2 : derefs ρ os with
      | none => rw [q, q2] at e; cases e
      | some dr =>
        rw [q, q2] at e
        cases e
        rw [h1]
        exact ⟨d, dr, rfl, deref_sh w h2 q, derefs_sh w h3 q2⟩
/-- two operands, then an operation -/
theorem op2_ok {α : Type} {f : PyData → PyData → Option α} {ga gb : G Op} {σ : St} {H : Hp} {Q : V → V → Hp → Prop} {Qa : α → Env → Hp → Hp → AS → AS → Hp → Hp → Prop}
    (w : Wd K mg F H ρ fp σ)
    (h : match (G.bind ga fun a => G.bind gb fun b => (fun ρ => match deref ρ a, deref ρ b with | some x, some y => gFin (f x y) ρ | _, _ => .bad : G α)) ρ with
      | .ok c ρ' => ∀ x y dx dy F' H' fp', Wd K mg F' H' ρ' fp' σ → Sh K F' H' x dx → Sh K F' H' y dy → f dx dy = some c → Chg fp F H fp' F' H' → Q x y H'
      | .ex x ρ' => exPost K mg W F H fp σ x ρ'
      | .bad => False) : tO K mg W ga σ H fun x H1 => tO K mg W gb σ H1 fun y H2 => Q x y H2 := by
  unfold G.bind at h
  refine oRun w Chg.refl ?_
  cases q : ga ρ with
  | bad => rw [q] at h; exact h.elim
  | ex x ρ' => rw [q] at h; exact h
  | ok a ρ1 =>
    rw [q] at h
    simp only [R.bind_ok, G.bind_at] at h
    intro v F1 H1 fp1 w1 r1 s1 c1
    refine oRun w1 c1 ?_
    cases q2 : gb ρ1 with
    | bad => rw [q2] at h; exact h.elim
    | ex x ρ' => rw [q2] at h; exact h
    | ok b ρ2 =>
      rw [q2] at h
      simp only [R.bind_ok, G.bind_at] at h
      intro u F2 H2 fp2 w2 r2 s2 c2
      cases da : deref ρ2 a with
      | none => rw [da] at h; exact h.elim
      | some x =>
        cases db : deref ρ2 b with
        | none => rw [da, db] at h; exact h.elim
        | some y =>
          rw [da, db] at h
          simp only [gFin] at h
          cases fe : f x y with
          | none => rw [fe] at h; exact h.elim
          | some c =>
            rw [fe] at h
            exact h v u x y F2 H2 fp2 w2 (deref_sh w2 (r1.mono s2) da) (deref_sh w2 r2 db) fe c2
theorem bin_ok {f : PyData → PyData → Option C} {ga gb : G Op} {Q : VK} (h : tE K mg W (gOp2 f ga gb) σ H Q) : tOp (r2 K mg f) (tO K mg W ga) (tO K mg W gb) σ H Q := by
  obtain ⟨ρ, fp, F, w, h⟩ := h
  refine op2_ok (f := f) (Qa := fun _ _ _ _ _ _ _ _ => True) w ?_
  unfold gOp2 at h
  revert h
  generalize (G.bind ga fun a => G.bind gb fun b => (fun ρ => match deref ρ a, deref ρ b with | some x, some y => gFin (f x y) ρ | _, _ => R.bad : G C)) ρ = r
  intro h
  cases r with
  | bad => exact h
  | ex x ρ' => exact h
  | ok c ρ' =>
    intro x y dx dy F' H' fp' w' sx sy e ch
    exact ⟨F', dx, dy, c, w'.sub, sx, sy, e, fin_post w' ch h⟩
theorem tst_ok {f : PyData → PyData → Option Bool} {ga gb : G Op} {Q : Bool → Hp → Prop} (h : tT K mg W (gT2 f ga gb) σ H Q) : tTest (tOp (r2 K mg (cmpC f)) (tO K mg W ga) (tO K mg W gb)) σ H Q := by
  obtain ⟨ρ, fp, F, w, h⟩ := h
  refine op2_ok (f := f) (Qa := fun _ _ _ _ _ _ _ _ => True) w ?_
  unfold gT2 at h
  revert h
  generalize (G.bind ga fun a => G.bind gb fun b => (fun ρ => match deref ρ a, deref ρ b with | some x, some y => gFin (f x y) ρ | _, _ => R.bad : G Bool)) ρ = r
  intro h
  cases r with
  | bad => exact h
  | ex x ρ' => exact h
  | ok c ρ' =>
    intro x y dx dy F' H' fp' w' sx sy e ch
    refine ⟨F', dx, dy, .val (.bool c), w'.sub, sx, sy, by simp [cmpC, e], ?_⟩
    intro z F2 H2 fv x2 r2 n2
    simp only [Rc] at r2
    cases r2.1.1
    exact ⟨c, rfl, h F2 H2 fp' (w'.frs x2) (ch.trans x2.chg)⟩
theorem e_bin {op : Operator} {f : PyData → PyData → Option C} {a b : Expr} {ga gb : G Op} {pos : Pos} (ho : OpR X (binaryOp op) (r2 K mg f)) (ha : PE X a (tO K mg W ga)) (hb : PE X b (tO K mg W gb)) : PE X (.BinOp a op b pos) (tE K mg W (gOp2 f ga gb)) :=
  (pe_op ho ha hb).imp fun _ _ _ => bin_ok
theorem e_cmp {op : CmpOp} {f : PyData → PyData → Option Bool} {a b : Expr} {ga gb : G Op} {pos : Pos} (ho : OpR X (compareOp op) (r2 K mg (cmpC f))) (ha : PE X a (tO K mg W ga)) (hb : PE X b (tO K mg W gb)) (hm : behindInMarks op b = false := by rfl) :
    PE X (.Compare a [op] [b] pos) (tE K mg W (gOp2 (cmpC f) ga gb)) := (pe_cmpR ho ha hb hm).imp fun _ _ _ => bin_ok
theorem t_cmp {op : CmpOp} {f : PyData → PyData → Option Bool} {a b : Expr} {ga gb : G Op} {pos : Pos} (ho : OpR X (compareOp op) (r2 K mg (cmpC f))) (ha : PE X a (tO K mg W ga)) (hb : PE X b (tO K mg W gb)) (hm : behindInMarks op b = false := by rfl) :
    PT X (.Compare a [op] [b] pos) (tT K mg W (gT2 f ga gb)) := (pt_cmpR ho ha hb hm).imp fun _ _ _ => tst_ok
/-- a op b op' c -/
def gCh (f f' : PyData → PyData → Option Bool) (ga gb gc : G Op) : G Bool := G.bind ga fun a => G.bind gb fun b => fun ρ => match deref ρ a, deref ρ b with
  | some x, some y => match f x y with
    | some true => (gc ρ).bind fun c => fun ρ => match deref ρ b, deref ρ c with
      | some y, some z => gFin (f' y z) ρ
      | _, _ => .bad
    | some false => .ok false ρ
    | none => .bad
  | _, _ => .bad
theorem chain_ok {f f' : PyData → PyData → Option Bool} {ga gb gc : G Op} {Q : Bool → Hp → Prop} (h : tT K mg W (gCh f f' ga gb gc) σ H Q) :
    tTest (tChain (r2 K mg (cmpC f)) (r2 K mg (cmpC f')) (tO K mg W ga) (tO K mg W gb) (tO K mg W gc)) σ H Q := by
  obtain ⟨ρ, fp, F, w, h⟩ := h
  unfold gCh G.bind at h
  refine oRun w Chg.refl ?_
  cases q : ga ρ with
  | bad => rw [q] at h; exact h.elim
  | ex x ρ' => rw [q] at h; exact h
  | ok a ρ1 =>
    rw [q] at h
    simp only [R.bind_ok, G.bind_at] at h
    intro v F1 H1 fp1 w1 r1 s1 c1
    refine oRun w1 c1 ?_
    cases q2 : gb ρ1 with
    | bad => rw [q2] at h; exact h.elim
    | ex x ρ' => rw [q2] at h; exact h
    | ok b ρ2 =>
      rw [q2] at h
      simp only [R.bind_ok, G.bind_at] at h
      intro u F2 H2 fp2 w2 r2 s2 c2
      cases da : deref ρ2 a with
      | none => rw [da] at h; exact h.elim
      | some x =>
        cases db : deref ρ2 b with
        | none => rw [da, db] at h; exact h.elim
        | some y =>
          rw [da, db] at h
          simp only at h
          cases fe : f x y with
          | none => rw [fe] at h; exact h.elim
          | some k =>
            rw [fe] at h
            refine ⟨F2, x, y, .val (.bool k), w2.sub, deref_sh w2 (r1.mono s2) da, deref_sh w2 r2 db, by simp [cmpC, fe], ?_⟩
            intro z F3 H3 fv x3 rc3 n3
            simp only [Rc] at rc3
            cases rc3.1.1
            have w3 := w2.frs x3
            have c3 := c2.trans x3.chg
            refine ⟨k, rfl, ?_⟩
            cases k with
            | false => exact ⟨false, rfl, h F3 H3 fp2 w3 c3⟩
            | true =>
              refine oRun w3 c3 ?_
              simp only at h
              cases q3 : gc ρ2 with
              | bad => rw [q3] at h; exact h.elim
              | ex x ρ' => rw [q3] at h; exact h
              | ok c ρ3 =>
                rw [q3] at h
                simp only [R.bind_ok, G.bind_at] at h
                intro t F4 H4 fp4 w4 r4 s4 c4
                cases db' : deref ρ3 b with
                | none => rw [db'] at h; exact h.elim
                | some y' =>
                  cases dc : deref ρ3 c with
                  | none => rw [db', dc] at h; exact h.elim
                  | some z' =>
                    rw [db', dc] at h
                    simp only [gFin] at h
                    cases fe' : f' y' z' with
                    | none => rw [fe'] at h; exact h.elim
                    | some k' =>
                      rw [fe'] at h
                      refine ⟨F4, y', z', .val (.bool k'), w4.sub, deref_sh w4 ((r2.mono x3.fz).mono s4) db', deref_sh w4 r4 dc, by simp [cmpC, fe'], ?_⟩
                      intro z5 F5 H5 fv5 x5 rc5 n5
                      simp only [Rc] at rc5
                      cases rc5.1.1
                      exact ⟨k', rfl, h F5 H5 fp4 (w4.frs x5) (c4.trans x5.chg)⟩
theorem t_chain {op op' : CmpOp} {f f' : PyData → PyData → Option Bool} {a b c : Expr} {ga gb gc : G Op} {pos : Pos} (ho : OpR X (compareOp op) (r2 K mg (cmpC f))) (ho' : OpR X (compareOp op') (r2 K mg (cmpC f')))
    (ha : PE X a (tO K mg W ga)) (hb : PE X b (tO K mg W gb)) (hc : PE X c (tO K mg W gc)) (hm : lastMarks [op, op'] [b, c] = false := by with_unfolding_all rfl) :
    PT X (.Compare a [op, op'] [b, c] pos) (tT K mg W (gCh f f' ga gb gc)) := (pt_chain ho ho' ha hb hc hm).imp fun _ _ _ => chain_ok
/-- a truth as a value -/
def gB (g : G Bool) : G C := G.bind g fun b => G.ret (.val (.bool b))
theorem tTest_val {t : TE} {g : G Bool} (mono : ∀ σ H (Q Q' : VK), (∀ v H, Q v H → Q' v H) → t σ H Q → t σ H Q') (hb : ∀ σ H Q, tT K mg W g σ H Q → tTest t σ H Q) {σ : St} {H : Hp} {Q : VK} (h : tE K mg W (gB g) σ H Q) : t σ H Q := by
  obtain ⟨ρ, fp, F, w, h⟩ := h
  refine mono σ H (fun x H' => ∃ k, x = .bl k ∧ Q (.bl k) H') Q (fun v H' ⟨k, e, q⟩ => by rw [e]; exact q) (hb σ H _ ?_)
  refine tRun w Chg.refl ?_
  unfold gB G.bind at h
  cases q : g ρ with
  | bad => rw [q] at h; exact h.elim
  | ex x ρ' => rw [q] at h; exact h
  | ok b ρ' =>
    rw [q] at h
    intro F' H' fp' w' s' c'
    exact h (.bl b) F' H' fp' _ w' (Rc.of_dp (.bl b)) (fun _ z => z.elim) c'.or_false
theorem tO_mono {g : G Op} {σ : St} {H : Hp} {Q Q' : VK} (k : ∀ v H, Q v H → Q' v H) (h : tO K mg W g σ H Q) : tO K mg W g σ H Q' := by
  obtain ⟨ρ, fp, F, w, h⟩ := h
  refine ⟨ρ, fp, F, w, ?_⟩
  cases q : g ρ with
  | bad => rw [q] at h; exact h
  | ex x ρ' => rw [q] at h; exact h
  | ok o ρ' => rw [q] at h; exact fun v F' H' fp' w' r c => k _ _ (h v F' H' fp' w' r c)
theorem r2_mono {f : PyData → PyData → Option C} {x y : V} {H : Hp} {Q Q' : VK} (k : ∀ v H, Q v H → Q' v H) (h : r2 K mg f x y H Q) : r2 K mg f x y H Q' := by
  obtain ⟨F, dx, dy, c, s, h1, h2, e, p⟩ := h
  exact ⟨F, dx, dy, c, s, h1, h2, e, fun z F' H' fv a b c => k _ _ (p z F' H' fv a b c)⟩
theorem chain_mono {f f' : PyData → PyData → Option C} {ga gb gc : G Op} (σ : St) (H : Hp) (Q Q' : VK) (k : ∀ v H, Q v H → Q' v H)
    (h : tChain (r2 K mg f) (r2 K mg f') (tO K mg W ga) (tO K mg W gb) (tO K mg W gc) σ H Q) : tChain (r2 K mg f) (r2 K mg f') (tO K mg W ga) (tO K mg W gb) (tO K mg W gc) σ H Q' := by
  refine tO_mono (fun x H1 h => tO_mono (fun y H2 h => r2_mono (fun z H3 ⟨b, e, h⟩ => ⟨b, e, ?_⟩) h) h) h
  cases b with
  | true => exact tO_mono (fun t H4 h => r2_mono k h) h
  | false => exact k _ _ h
theorem e_chain {op op' : CmpOp} {f f' : PyData → PyData → Option Bool} {a b c : Expr} {ga gb gc : G Op} {pos : Pos} (ho : OpR X (compareOp op) (r2 K mg (cmpC f))) (ho' : OpR X (compareOp op') (r2 K mg (cmpC f')))
    (ha : PE X a (tO K mg W ga)) (hb : PE X b (tO K mg W gb)) (hc : PE X c (tO K mg W gc)) (hm : lastMarks [op, op'] [b, c] = false := by with_unfolding_all rfl) :
    PE X (.Compare a [op, op'] [b, c] pos) (tE K mg W (gB (gCh f f' ga gb gc))) := (pe_chain ho ho' ha hb hc hm).imp fun _ _ _ => tTest_val chain_mono fun _ _ _ => chain_ok

/-! ### truths -/
def tru : C → Option Bool
  | .val (.bool b) => some b
  | _ => none
theorem tru_eq {c : C} {b : Bool} (h : tru c = some b) : c = .val (.bool b) := by
  unfold tru at h
  split at h
  · cases h; rfl
  · cases h
def gTru (g : G C) : G Bool := G.bind g fun c => gFin (tru c)
theorem val_ok {g : G C} {Q : Bool → Hp → Prop} (h : tT K mg W (gTru g) σ H Q) : tB (tE K mg W g) σ H Q := by
  obtain ⟨ρ, fp, F, w, h⟩ := h
  unfold gTru G.bind at h
  refine eRun w Chg.refl ?_
  cases q : g ρ with
  | bad => rw [q] at h; exact h.elim
  | ex x ρ' => rw [q] at h; exact h
  | ok c ρ' =>
    rw [q] at h
    simp only [R.bind_ok, G.bind_at] at h
    intro v F' H' fp' fv w' r d _ c'
    simp only [gFin] at h
    cases z : tru c with
    | none => rw [z] at h; exact h.elim
    | some b =>
      rw [z] at h
      cases tru_eq z
      simp only [Rc] at r
      cases r.1.1
      exact ⟨_, rfl, h F' H' fp' w' (c'.to fun a => .inl)⟩
theorem t_val {e : Expr} {g : G C} (h : PE X e (tE K mg W g)) (he : ∀ whole, isTrue e X.env whole = (do let v ← whole; standAt e.pos; holding [v] (truthy v)) := by intro _; rfl) : PT X e (tT K mg W (gTru g)) := (pt_val h he).imp fun _ _ _ => val_ok
def gAnd (g g' : G Bool) : G Bool := G.bind g fun b => if b = true then g' else G.ret false
def gOr (g g' : G Bool) : G Bool := G.bind g fun b => if b = true then G.ret true else g'
def gNot (g : G Bool) : G Bool := G.bind g fun b => G.ret (!b)
theorem gAnd_ok {g g' : G Bool} {Q : Bool → Hp → Prop} (h : tT K mg W (gAnd g g') σ H Q) : tAnd (tT K mg W g) (tT K mg W g') σ H Q := by
  obtain ⟨ρ, fp, F, w, h⟩ := h
  unfold gAnd G.bind at h
  refine tRun w Chg.refl ?_
  cases q : g ρ with
  | bad => rw [q] at h; exact h.elim
  | ex x ρ' => rw [q] at h; exact h
  | ok b ρ1 =>
    rw [q] at h
    simp only [R.bind_ok, G.bind_at] at h
    intro F1 H1 fp1 w1 s1 c1
    cases b with
    | true => exact tRun w1 c1 (by
        simp only [if_true] at h
        cases q2 : g' ρ1 with
        | bad => rw [q2] at h; exact h
        | ex x ρ' => rw [q2] at h; exact h
        | ok b ρ2 => rw [q2] at h; exact fun F' H' fp' w' _ c' => h F' H' fp' w' c')
    | false => exact h F1 H1 fp1 w1 c1
theorem gOr_ok {g g' : G Bool} {Q : Bool → Hp → Prop} (h : tT K mg W (gOr g g') σ H Q) : tOr (tT K mg W g) (tT K mg W g') σ H Q := by
  obtain ⟨ρ, fp, F, w, h⟩ := h
  unfold gOr G.bind at h
  refine tRun w Chg.refl ?_
  cases q : g ρ with
  | bad => rw [q] at h; exact h.elim
  | ex x ρ' => rw [q] at h; exact h
  | ok b ρ1 =>
    rw [q] at h
    simp only [R.bind_ok, G.bind_at] at h
    intro F1 H1 fp1 w1 s1 c1
    cases b with
    | false => exact tRun w1 c1 (by
        simp only [Bool.false_eq_true, if_false] at h
        cases q2 : g' ρ1 with
        | bad => rw [q2] at h; exact h
        | ex x ρ' => rw [q2] at h; exact h
        | ok b ρ2 => rw [q2] at h; exact fun F' H' fp' w' _ c' => h F' H' fp' w' c')
    | true => exact h F1 H1 fp1 w1 c1
theorem gNot_ok {g : G Bool} {Q : Bool → Hp → Prop} (h : tT K mg W (gNot g) σ H Q) : tNot (tT K mg W g) σ H Q := by
  obtain ⟨ρ, fp, F, w, h⟩ := h
  unfold gNot G.bind at h
  refine tRun w Chg.refl ?_
  cases q : g ρ with
  | bad => rw [q] at h; exact h.elim
  | ex x ρ' => rw [q] at h; exact h
  | ok b ρ1 =>
    rw [q] at h
    exact fun F1 H1 fp1 w1 s1 c1 => h F1 H1 fp1 w1 c1
variable {a b c : Expr} {rest : List Expr} {pos : Pos}
theorem w_and1 {g : G Bool} (ha : PT X a (tT K mg W g)) : PW X (.BoolOp .And [a] pos) (tT K mg W g) := pw_and1 ha
theorem w_or1 {g : G Bool} (ha : PT X a (tT K mg W g)) : PW X (.BoolOp .Or [a] pos) (tT K mg W g) := pw_or1 ha
theorem w_and {g g' : G Bool} (ha : PT X a (tT K mg W g)) (hb : PW X (.BoolOp .And (b :: rest) pos) (tT K mg W g')) : PW X (.BoolOp .And (a :: b :: rest) pos) (tT K mg W (gAnd g g')) := (pw_and ha hb).imp fun _ _ _ => gAnd_ok
theorem w_or {g g' : G Bool} (ha : PT X a (tT K mg W g)) (hb : PW X (.BoolOp .Or (b :: rest) pos) (tT K mg W g')) : PW X (.BoolOp .Or (a :: b :: rest) pos) (tT K mg W (gOr g g')) := (pw_or ha hb).imp fun _ _ _ => gOr_ok
theorem t_not {g : G Bool} (ha : PT X a (tT K mg W g)) : PT X (.UnaryOp .Not a pos) (tT K mg W (gNot g)) := (pt_not ha).imp fun _ _ _ => gNot_ok
/-- .. as values -/
def gAndV (g g' : G C) : G C := G.bind g fun c => match tru c with
  | some b => if b = true then g' else G.ret (.val (.bool false))
  | none => G.bad
def gOrV (g g' : G C) : G C := G.bind g fun c => match tru c with
  | some b => if b = true then G.ret (.val (.bool true)) else g'
  | none => G.bad
def gNotV (g : G C) : G C := G.bind g fun c => match tru c with
  | some b => G.ret (.val (.bool (!b)))
  | none => G.bad
/-- onwards with what follows -/
theorem eGo {g : G C} {Q : VK} (w : Wd K mg F H ρ fp σ) (ch : Chg fp0 F0 H0 fp F H)
    (h : match g ρ with
      | .ok c ρ' => ∀ v F' H' fp' fv, Wd K mg F' H' ρ' fp' σ → Rc K mg F' H' c v fv → (∀ a, fv a → ¬ fp' a) → Chg fp0 F0 H0 (fun a => fp' a ∨ fv a) F' H' → Q v H'
      | .ex x ρ' => exPost K mg W F0 H0 fp0 σ x ρ'
      | .bad => False) : tE K mg W g σ H Q := eRun w ch (by
  cases q : g ρ with
  | bad => rw [q] at h; exact h
  | ex x ρ' => rw [q] at h; exact h
  | ok c ρ' => rw [q] at h; exact fun v F' H' fp' fv w' r d _ c' => h v F' H' fp' fv w' r d c')
theorem gAndV_ok {g g' : G C} {Q : VK} (h : tE K mg W (gAndV g g') σ H Q) : tAndV (tE K mg W g) (tE K mg W g') σ H Q := by
  obtain ⟨ρ, fp, F, w, h⟩ := h
  unfold gAndV G.bind at h
  refine eRun w Chg.refl ?_
  cases q : g ρ with
  | bad => rw [q] at h; exact h.elim
  | ex x ρ' => rw [q] at h; exact h
  | ok c ρ1 =>
    rw [q] at h
    simp only [R.bind_ok, G.bind_at] at h
    intro v F1 H1 fp1 fv1 w1 r1 d1 _ c1
    cases z : tru c with
    | none => rw [z] at h; exact h.elim
    | some b =>
      rw [z] at h
      cases tru_eq z
      simp only [Rc] at r1
      cases r1.1.1
      cases b with
      | true => exact ⟨true, rfl, iteT (eGo w1 (c1.to fun a => .inl) h)⟩
      | false => exact ⟨false, rfl, iteF (h (.bl false) F1 H1 fp1 _ w1 (Rc.of_dp (.bl false)) (fun _ z => z.elim) (c1.to fun a z => z.elim .inl False.elim))⟩
theorem gOrV_ok {g g' : G C} {Q : VK} (h : tE K mg W (gOrV g g') σ H Q) : tOrV (tE K mg W g) (tE K mg W g') σ H Q := by
  obtain ⟨ρ, fp, F, w, h⟩ := h
  unfold gOrV G.bind at h
  refine eRun w Chg.refl ?_
  cases q : g ρ with
  | bad => rw [q] at h; exact h.elim
  | ex x ρ' => rw [q] at h; exact h
  | ok c ρ1 =>
    rw [q] at h
    simp only [R.bind_ok, G.bind_at] at h
    intro v F1 H1 fp1 fv1 w1 r1 d1 _ c1
    cases z : tru c with
    | none => rw [z] at h; exact h.elim
    | some b =>
      rw [z] at h
      cases tru_eq z
      simp only [Rc] at r1
      cases r1.1.1
      cases b with
      | true => exact ⟨true, rfl, iteT (h (.bl true) F1 H1 fp1 _ w1 (Rc.of_dp (.bl true)) (fun _ z => z.elim) (c1.to fun a z => z.elim .inl False.elim))⟩
      | false => exact ⟨false, rfl, iteF (eGo w1 (c1.to fun a => .inl) h)⟩
theorem gNotV_ok {g : G C} {Q : VK} (h : tE K mg W (gNotV g) σ H Q) : tNotV (tE K mg W g) σ H Q := by
  obtain ⟨ρ, fp, F, w, h⟩ := h
  unfold gNotV G.bind at h
  refine eRun w Chg.refl ?_
  cases q : g ρ with
  | bad => rw [q] at h; exact h.elim
  | ex x ρ' => rw [q] at h; exact h
  | ok c ρ1 =>
    rw [q] at h
    simp only [R.bind_ok, G.bind_at] at h
    intro v F1 H1 fp1 fv1 w1 r1 d1 _ c1
    cases z : tru c with
    | none => rw [z] at h; exact h.elim
    | some b =>
      rw [z] at h
      cases tru_eq z
      simp only [Rc] at r1
      cases r1.1.1
      exact ⟨_, rfl, h (.bl _) F1 H1 fp1 _ w1 (Rc.of_dp (.bl _)) (fun _ z => z.elim) (c1.to fun a z => z.elim .inl False.elim)⟩
theorem e_one {op} {t : TE} (h : PE X a t) : PE X (.BoolOp op [a] pos) t := pe_one h
theorem e_and {g g' : G C} (ha : PE X a (tE K mg W g)) (hb : PE X (.BoolOp .And (b :: rest) pos) (tE K mg W g')) : PE X (.BoolOp .And (a :: b :: rest) pos) (tE K mg W (gAndV g g')) := (pe_and ha hb).imp fun _ _ _ => gAndV_ok
theorem e_or {g g' : G C} (ha : PE X a (tE K mg W g)) (hb : PE X (.BoolOp .Or (b :: rest) pos) (tE K mg W g')) : PE X (.BoolOp .Or (a :: b :: rest) pos) (tE K mg W (gOrV g g')) := (pe_or ha hb).imp fun _ _ _ => gOrV_ok
theorem e_not {g : G C} (ha : PE X a (tE K mg W g)) : PE X (.UnaryOp .Not a pos) (tE K mg W (gNotV g)) := (pe_not ha).imp fun _ _ _ => gNotV_ok
/-- a if t else b -/
def gIf {α : Type} (t : G Bool) (g g' : G α) : G α := G.bind t fun b => if b = true then g else g'
theorem gIf_ok {t : G Bool} {g g' : G C} {Q : VK} (h : tE K mg W (gIf t g g') σ H Q) : tIf (tT K mg W t) (tE K mg W g) (tE K mg W g') σ H Q := by
  obtain ⟨ρ, fp, F, w, h⟩ := h
  unfold gIf G.bind at h
  refine tRun w Chg.refl ?_
  cases q : t ρ with
  | bad => rw [q] at h; exact h.elim
  | ex x ρ' => rw [q] at h; exact h
  | ok b ρ1 =>
    rw [q] at h
    simp only [R.bind_ok, G.bind_at] at h
    intro F1 H1 fp1 w1 s1 c1
    cases b with
    | true => exact iteT (eGo w1 c1 h)
    | false => exact iteF (eGo w1 c1 h)
theorem e_if {t : G Bool} {g g' : G C} (hc : PT X c (tT K mg W t)) (ha : PE X a (tE K mg W g)) (hb : PE X b (tE K mg W g')) : PE X (.IfExp c a b pos) (tE K mg W (gIf t g g')) := (pe_ifExp hc ha hb).imp fun _ _ _ => gIf_ok

/-! ### displays -/
def mkTup (cs : List C) : C := match vals cs with
  | some ds => .val (.tuple ds)
  | none => .tup cs
def gTup (gs : List (G C)) : G C := G.bind (gEs gs) fun cs => G.ret (mkTup cs)
def gLst (gs : List (G C)) : G C := G.bind (gEs gs) fun cs => G.ret (.lst cs)
theorem Rcs.length : ∀ {cs : List C} {vs : List V} {f : AS}, Rcs K mg F H cs vs f → vs.length = cs.length
  | [], vs, f, h => by simp only [Rcs] at h; rw [h.1]; rfl
  | c :: cs, vs, f, h => by
    simp only [Rcs] at h
    obtain ⟨v, r, f1, f2, h1, h2, h3, h4, h5⟩ := h
    rw [h1]; simp [Rcs.length h3]
theorem vals_none : ∀ {cs : List C} {ds : List PyData} {vs : List V} {f : AS}, Rcs K mg F H cs vs f → vals cs = some ds → ∀ a, ¬ f a
  | [], ds, vs, f, h, e => by simp only [Rcs] at h; exact h.2
  | .val d :: r, ds, vs, f, h, e => by
    simp only [vals] at e
    simp only [Rcs, Rc] at h
    obtain ⟨v, vr, f1, f2, h1, h2, h3, h4, h5⟩ := h
    cases q : vals r with
    | none => rw [q] at e; cases e
    | some dr => exact fun a z => ((h5 a).mp z).elim (h2.2 a) (vals_none h3 q a)
  | .tup _ :: r, ds, vs, f, h, e => by simp [vals] at e
  | .lst _ :: r, ds, vs, f, h, e => by simp [vals] at e
  | .dic _ _ :: r, ds, vs, f, h, e => by simp [vals] at e
  | .obj _ _ _ :: r, ds, vs, f, h, e => by simp [vals] at e
theorem upd_same_of {H : Hp} {p : Addr} {o : HO} (hp : H p = none) : Same H (upd H p o) := fun b u e => by rw [upd_ne (ne_of_none e hp)]; exact e
/-- a new thing at p -/
theorem Frs.new {p : Addr} {o : HO} (s : Same F H) (hp : H p = none) : Frs F H F (upd H p o) := ⟨Same.refl _, s.trans (upd_same_of hp), upd_same_of hp, fun _ _ => rfl⟩
/-- .. frozen at once -/
theorem Frs.newF {p : Addr} {o : HO} (s : Same F H) (hp : H p = none) : Frs F H (upd F p o) (upd H p o) := by
  have hf : F p = none := s.free hp
  refine ⟨upd_same_of hf, fun b u e => ?_, upd_same_of hp, fun a n => ?_⟩
  · by_cases hb : b = p
    · subst hb; rw [upd_same] at e ⊢; exact e
    · rw [upd_ne hb] at e ⊢; exact s b u e
  · rw [upd_ne]
    intro z
    rw [z] at n
    exact n hp
theorem few_line {n : Nat} (h : n ≤ 1000) : n ≤ sizeLine := Nat.le_trans h (by decide)
theorem Frs.keep {F' H' : Hp} {fv : AS} (x : Frs F H F' H') (own : ∀ a, fv a → ∃ o, H a = some o) : ∀ a, fv a → H' a = H a ∧ F' a = F a := fun a z => by
  obtain ⟨o, e⟩ := own a z
  exact ⟨by rw [x.kp a o e, e], x.fn a (by rw [e]; simp)⟩
theorem gTup_ok {gs : List (G C)} (hl : gs.length ≤ 1000) {Q : VK} (h : tE K mg W (gTup gs) σ H Q) : tTup (tEs K mg W (gEs gs)) σ H Q := by
  obtain ⟨ρ, fp, F, w, h⟩ := h
  unfold gTup G.bind at h
  refine esRun w Chg.refl ?_
  cases q : gEs gs ρ with
  | bad => rw [q] at h; exact h.elim
  | ex x ρ' => rw [q] at h; exact h
  | ok cs ρ1 =>
    rw [q] at h
    intro vs F1 H1 fp1 fv1 w1 r1 d1 _ c1
    have hlen : vs.length ≤ 1000 := by rw [Rcs.length r1, gEs_length q]; exact hl
    refine ⟨few_line hlen, fun p hp => ?_⟩
    simp only [R.bind_ok, G.ret, mkTup] at h
    have pv : ¬ fv1 p := fun z => by
      obtain ⟨_, o, e⟩ := Rcs.own r1 p z
      rw [hp] at e; cases e
    cases z : vals cs with
    | some ds =>
      rw [z] at h
      have x := Frs.newF (p := p) (o := .tup vs) w1.sub hp
      refine h (.ref p) _ _ fp1 (fun _ => False) (w1.frs x) (Rc.of_dp (.tup (.of upd_same) (DqAll.mono x.fz (vals_sh r1 z)))) (fun _ z => z.elim) ((c1.to fun a => .inl).trans x.chg).or_false
    | none =>
      rw [z] at h
      have x := Frs.new (p := p) (o := .tup vs) w1.sub hp
      refine h (.ref p) _ _ fp1 (fun a => a = p ∨ fv1 a) (w1.frs x) ?_ (fun a z y => ?_) ?_
      · simp only [Rc]
        exact ⟨p, vs, fv1, rfl, upd_same, w1.sub.free hp, r1.frame x.fz (x.keep fun a z => (Rcs.own r1 a z).2), pv, fun b => Iff.rfl⟩
      · rcases z with z | z
        · obtain ⟨_, o, e⟩ := w1.re.own a y
          rw [z, hp] at e; cases e
        · exact d1 a z y
      · have y := c1.trans (x.chg (fp := fun a => fp1 a ∨ fv1 a))
        refine ⟨y.fz, y.kp, y.fn, fun a z => ?_⟩
        rcases z with z | z | z
        · exact c1.nw a (.inl z)
        · subst z
          by_cases hf : fp a
          · exact .inl hf
          · right
            cases q : H a with
            | none => rfl
            | some o => rw [c1.kp a o hf q] at hp; cases hp
        · exact c1.nw a (.inr z)
theorem gLst_ok {gs : List (G C)} (hl : gs.length ≤ 1000) {Q : VK} (h : tE K mg W (gLst gs) σ H Q) : tLst (tEs K mg W (gEs gs)) σ H Q := by
  obtain ⟨ρ, fp, F, w, h⟩ := h
  unfold gLst G.bind at h
  refine esRun w Chg.refl ?_
  cases q : gEs gs ρ with
  | bad => rw [q] at h; exact h.elim
  | ex x ρ' => rw [q] at h; exact h
  | ok cs ρ1 =>
    rw [q] at h
    intro vs F1 H1 fp1 fv1 w1 r1 d1 _ c1
    have hlen : vs.length ≤ 1000 := by rw [Rcs.length r1, gEs_length q]; exact hl
    refine ⟨few_line hlen, fun p hp => ?_⟩
    have pv : ¬ fv1 p := fun z => by
      obtain ⟨_, o, e⟩ := Rcs.own r1 p z
      rw [hp] at e; cases e
    have x := Frs.new (p := p) (o := .lst vs) w1.sub hp
    refine h (.ref p) _ _ fp1 (fun a => a = p ∨ fv1 a) (w1.frs x) ?_ (fun a z y => ?_) ?_
    · simp only [Rc]
      exact ⟨p, vs, fv1, rfl, upd_same, w1.sub.free hp, r1.frame x.fz (x.keep fun a z => (Rcs.own r1 a z).2), pv, fun b => Iff.rfl⟩
    · rcases z with z | z
      · obtain ⟨_, o, e⟩ := w1.re.own a y
        rw [z, hp] at e; cases e
      · exact d1 a z y
    · have y := c1.trans (x.chg (fp := fun a => fp1 a ∨ fv1 a))
      refine ⟨y.fz, y.kp, y.fn, fun a z => ?_⟩
      rcases z with z | z | z
      · exact c1.nw a (.inl z)
      · subst z
        by_cases hf : fp a
        · exact .inl hf
        · right
          cases q : H a with
          | none => rfl
          | some o => rw [c1.kp a o hf q] at hp; cases hp
      · exact c1.nw a (.inr z)
theorem e_tup {es : List Expr} {gs : List (G C)} {x1} (h : PA X es (tEs K mg W (gEs gs))) (hl : gs.length ≤ 1000 := by decide) : PE X (.Tuple es x1 pos) (tE K mg W (gTup gs)) := (pe_tup h).imp fun _ _ _ => gTup_ok hl
theorem e_lst {es : List Expr} {gs : List (G C)} (h : PA X es (tEs K mg W (gEs gs))) (hl : gs.length ≤ 1000 := by decide) : PE X (.List es pos) (tE K mg W (gLst gs)) := (pe_lst h).imp fun _ _ _ => gLst_ok hl

/-! ### calls of what is built in -/
theorem opN_ok {f : List PyData → Option C} {g : G (List Op)} {Q : VK} (h : tE K mg W (gOpN f g) σ H Q) : tCB (rN K mg f) (tOs K mg W g) σ H Q := by
  obtain ⟨ρ, fp, F, w, h⟩ := h
  unfold gOpN G.bind at h
  refine osRun w Chg.refl ?_
  cases q : g ρ with
  | bad => rw [q] at h; exact h.elim
  | ex x ρ' => rw [q] at h; exact h
  | ok os ρ1 =>
    rw [q] at h
    simp only [R.bind_ok, G.bind_at] at h
    intro vs F1 H1 fp1 w1 r1 s1 c1
    cases z : derefs ρ1 os with
    | none => rw [z] at h; exact h.elim
    | some ds =>
      rw [z] at h
      simp only [gFin] at h
      cases fe : f ds with
      | none => rw [fe] at h; exact h.elim
      | some c =>
        rw [fe] at h
        exact ⟨F1, ds, c, w1.sub, derefs_sh w1 r1 z, fe, fin_post w1 c1 h⟩
variable {e : Expr} {es : List Expr} {p : Pos} {x : Str}
theorem e_callB {f : List PyData → Option C} {id : String} {gs : List (G Op)} (hc : CallR X (.builtin id) (rN K mg f)) (hg : Gl X x) (hm : X.mg x = none) (hv : bootBuiltins x = some (.builtin id)) (ha : PA X (e :: es) (tOs K mg W (gOs gs)))
    (hn : x ≠ "__name__" := by decide) (hdb : (x == ("__debug__" : Str)) = false := by decide) (he : starEach (e :: es) X.env = (false, eval e X.env) :: starEach es X.env := by rfl) (hpl : (backTo pos (starEach es X.env)).any (·.1) = false := by rfl) :
    PE X (.Call (.Name x p) (e :: es) [] pos) (tE K mg W (gOpN f (gOs gs))) := (pe_callB hc hg hm hv ha hn hdb he hpl).imp fun _ _ _ => opN_ok
theorem e_callTy {f : List PyData → Option C} {T : String} {gs : List (G Op)} (hc : CallR X (.type T) (rN K mg f)) (hg : Gl X x) (hm : X.mg x = none) (hv : bootBuiltins x = some (.type T)) (ha : PA X (e :: es) (tOs K mg W (gOs gs)))
    (hn : x ≠ "__name__" := by decide) (hdb : (x == ("__debug__" : Str)) = false := by decide) (he : starEach (e :: es) X.env = (false, eval e X.env) :: starEach es X.env := by rfl) (hpl : (backTo pos (starEach es X.env)).any (·.1) = false := by rfl) :
    PE X (.Call (.Name x p) (e :: es) [] pos) (tE K mg W (gOpN f (gOs gs))) := (pe_callTy hc hg hm hv ha hn hdb he hpl).imp fun _ _ _ => opN_ok
end
end Nd

/-! Nd4: what the operations do with data. -/
namespace Nd
open PySem L2
section
variable [TF] {X : Cx} {K : Frag} {mg : Str → Option Value} {W : WX} {F H : Hp} {v : V} {Q : VK}
theorem Sh.int {i : Int} (h : Sh K F H v (.int i)) : v = .int i := by
  rcases h with h | ⟨_, _, _, _, e, _⟩
  · exact h.int_inv
  · cases e
theorem Sh.str {x : Str} (h : Sh K F H v (.str x)) : v = .str x ∧ PyData.canLay0 (.str x) = true := by
  rcases h with h | ⟨_, _, _, _, e, _⟩
  · exact h.str_inv
  · cases e
theorem Sh.bl {b : Bool} (h : Sh K F H v (.bool b)) : v = .bl b := by
  rcases h with h | ⟨_, _, _, _, e, _⟩
  · exact h.bl_inv
  · cases e
theorem Sh.non (h : Sh K F H v .none) : v = .non := by
  rcases h with h | ⟨_, _, _, _, e, _⟩
  · exact h.non_inv
  · cases e
theorem Sh.list {ds : List PyData} (s : Same F H) (h : Sh K F H v (.list ds)) : ∃ a vs, v = .ref a ∧ SqL K H a vs ∧ DqAll K F vs ds := by
  rcases h with h | ⟨a, vs, ds', e1, e, e2, e3⟩
  · obtain ⟨a, vs, e, q, r⟩ := h.list_inv
    exact ⟨a, vs, e, s.seq q, r⟩
  · cases e
    exact ⟨a, vs, e1, .of e2, e3⟩
theorem Sh.tup {ds : List PyData} (s : Same F H) (h : Sh K F H v (.tuple ds)) : ∃ a vs, v = .ref a ∧ SqT K F a vs ∧ SqT K H a vs ∧ DqAll K F vs ds := by
  rcases h with h | ⟨a, vs, ds', e1, e, e2, e3⟩
  · obtain ⟨a, vs, e, q, r⟩ := h.tup_inv
    exact ⟨a, vs, e, q, SqT.mono s q, r⟩
  · cases e
theorem Sh.lay {d : PyData} (h : Sh K F H v d) : d.canLay0 = true := by
  rcases h with h | ⟨a, vs, ds', e1, e, e2, e3⟩
  · exact h.2
  · rw [e]; simpa [PyData.canLay0] using e3.2
/-- read in the heap as it is -/
theorem Sh.dp {d : PyData} (s : Same F H) (h : Sh K F H v d) : Dp K H v d := by
  rcases h with h | ⟨a, vs, ds', e1, e, e2, e3⟩
  · exact Dp.mono s h.1
  · rw [e1, e]; exact .lst (.of e2) (DpAll.mono s e3.1)
theorem Rcs_vals : ∀ {ds : List PyData} {vs : List V}, DqAll K F vs ds → Rcs K mg F H (ds.map .val) vs (fun _ => False)
  | [], vs, h => by
    cases h.1
    simp only [List.map_nil, Rcs]
    exact ⟨trivial, fun _ z => z⟩
  | d :: ds, vs, ⟨h, l⟩ => by
    cases h with
    | cons a b =>
      simp only [List.map_cons, Rcs]
      exact ⟨_, _, fun _ => False, fun _ => False, rfl, Rc.of_dp ⟨a, (lay_cons.mp l).1⟩, Rcs_vals ⟨b, (lay_cons.mp l).2⟩, fun _ z => z.elim, fun _ => by simp⟩
/-- a list made anew -/
def mkL (ds : List PyData) : C := .lst (ds.map .val)
theorem Post.lst {ds : List PyData} {vs : List V} (p : Post K mg F H (mkL ds) Q) (s : Same F H) (h : DqAll K F vs ds) {a : Addr} (ha : H a = none) : Q (.ref a) (upd H a (.lst vs)) :=
  p (.ref a) F _ (fun b => b = a) (Frs.new s ha) (by
    simp only [mkL, Rc]
    exact ⟨a, vs, fun _ => False, rfl, upd_same, s.free ha, Rcs_vals h, id, fun b => by simp⟩) fun b e => by rw [e]; exact ha
theorem Post.tup {ds : List PyData} {vs : List V} (p : Post K mg F H (.val (.tuple ds)) Q) (s : Same F H) (h : DqAll K F vs ds) {a : Addr} (ha : H a = none) : Q (.ref a) (upd H a (.tup vs)) := by
  have x := Frs.newF (p := a) (o := .tup vs) s ha
  exact p (.ref a) _ _ _ x (Rc.of_dp (.tup (.of upd_same) (h.mono x.fz))) fun _ z => z.elim

/-! ### arithmetic -/
def lenOk (n : Nat) : Bool := decide (n ≤ sizeLine)
def addD : PyData → PyData → Option C
  | .int i, .int j => some (.val (.int (i + j)))
  | .str a, .str b => if lenOk (a.length + b.length) = true then some (.val (.str (a ++ b))) else none
  | .list a, .list b => if lenOk (a.length + b.length) = true then some (mkL (a ++ b)) else none
  | .tuple a, .tuple b => if lenOk (a.length + b.length) = true then some (.val (.tuple (a ++ b))) else none
  | _, _ => none
theorem lay_str_app {a b : Str} (h : PyData.canLay0 (.str a) = true) (k : PyData.canLay0 (.str b) = true) : PyData.canLay0 (.str (a ++ b)) = true := by
  have e : (a ++ b).cps = a.cps ++ b.cps := rfl
  simp only [PyData.canLay0, PyData.strOk, e, Array.all_append, Bool.and_eq_true] at h k ⊢
  exact ⟨h, k⟩
theorem op_catL : OpR X (binaryOp .Add) (fun x y H Q => ∃ l b xs zs, x = .ref l ∧ y = .ref b ∧ SqL X.K H l xs ∧ SqL X.K H b zs ∧ xs.length + zs.length ≤ sizeLine ∧ ∀ p, H p = none → Q (.ref p) (upd H p (.lst (xs ++ zs)))) := by
  intro pins s σ H x y v u Q I rx ry h
  obtain ⟨l, b, xs, zs, rfl, rfl, hH, hB, hz, q⟩ := h
  cases rx
  cases ry
  obtain ⟨its, r, hl, _⟩ := I.list hH
  obtain ⟨its2, r2, hl2, _⟩ := I.list hB
  obtain ⟨⟨cls, dd, data, sl⟩, n, ho, hc, hdn, hd⟩ := hl
  obtain ⟨⟨cls2, dd2, data2, sl2⟩, n2, ho2, hc2, hdn2, hd2⟩ := hl2
  simp only at hc hd hc2 hd2 hdn hdn2
  subst hc hd hc2 hd2 hdn hdn2
  have e : its.toArray ++ its2.toArray = (its ++ its2).toArray := by simp
  have e1 := r.length
  have e2 := r2.length
  refine concat_meets ⟨_, ho, rfl⟩ ⟨_, ho2, rfl⟩ noFill_list_add seq_list_add PySem.F.slot_list_add PySem.F.entry_list_add (PySem.F.args_list_add_2 _ _) (PyProof.Rows.list_addW l b its.toArray its2.toArray n n2 none none sl sl2 (by simp; omega)) ⟨ho, ho2, ?_⟩
  rw [e]
  exact ⟨.ref _, _, I.lnew (t' := s.toks) (r.append r2) (by rw [List.length_append]; omega), rfl, q _ I.fresh⟩
theorem o_add : OpR X (binaryOp .Add) (r2 X.K mg addD) := by
  intro pins s σ H x y v u Q I rx ry h
  obtain ⟨F, dx, dy, c, sub, hx, hy, e, post⟩ := h
  unfold addD at e
  split at e
  · cases e
    exact op_add pins s σ H x y v u Q I rx ry ⟨_, _, hx.int, hy.int, post.val sub (.int _)⟩
  · rename_i a b
    split at e
    · rename_i hl
      cases e
      exact op_add_str pins s σ H x y v u Q I rx ry ⟨_, _, hx.str.1, hy.str.1, of_decide_eq_true hl, post.val sub (.str (lay_str_app hx.str.2 hy.str.2))⟩
    · cases e
  · rename_i a b
    split at e
    · rename_i hl
      cases e
      obtain ⟨a1, vs1, e1, s1, r1⟩ := hx.list sub
      obtain ⟨a2, vs2, e2, s2, r2⟩ := hy.list sub
      have hl' := of_decide_eq_true hl
      exact op_catL pins s σ H x y v u Q I rx ry ⟨a1, a2, vs1, vs2, e1, e2, s1, s2, by rw [r1.length, r2.length]; exact hl', fun p hp => post.lst sub (r1.append r2) hp⟩
    · cases e
  · rename_i a b
    split at e
    · rename_i hl
      cases e
      obtain ⟨a1, vs1, e1, s1, s1', r1⟩ := hx.tup sub
      obtain ⟨a2, vs2, e2, s2, s2', r2⟩ := hy.tup sub
      have hl' := of_decide_eq_true hl
      have r := r1.append r2
      refine op_catA pins s σ H x y v u Q I rx ry ⟨a1, a2, vs1, vs2, e1, e2, s1', s2', by rw [r1.length, r2.length]; exact hl', fun n => ?_, fun n m => ?_, fun n m p hp => post.tup sub r hp⟩
      · subst n
        exact post.val sub (.tup s2 (by simpa using r))
      · subst m
        exact post.val sub (.tup s1 (by simpa using r))
    · cases e
  · cases e
def subD : PyData → PyData → Option C
  | .int i, .int j => some (.val (.int (i - j)))
  | _, _ => none
theorem o_sub : OpR X (binaryOp .Sub) (r2 X.K mg subD) := by
  intro pins s σ H x y v u Q I rx ry h
  obtain ⟨F, dx, dy, c, sub, hx, hy, e, post⟩ := h
  unfold subD at e
  split at e
  · cases e
    exact op_sub pins s σ H x y v u Q I rx ry ⟨_, _, hx.int, hy.int, post.val sub (.int _)⟩
  · cases e
def mulD : PyData → PyData → Option C
  | .int i, .int j => if decide (i.natAbs < 18446744073709551616 ∨ j.natAbs < 18446744073709551616) = true then some (.val (.int (i * j))) else none
  | _, _ => none
theorem o_mul : OpR X (binaryOp .Mult) (r2 X.K mg mulD) := by
  intro pins s σ H x y v u Q I rx ry h
  obtain ⟨F, dx, dy, c, sub, hx, hy, e, post⟩ := h
  unfold mulD at e
  split at e
  · split at e
    · rename_i hl
      cases e
      refine op_mul pins s σ H x y v u Q I rx ry ⟨_, _, hx.int, hy.int, ?_, post.val sub (.int _)⟩
      unfold CMul
      rcases of_decide_eq_true hl with h | h
      · left; omega
      · right; omega
    · cases e
  · cases e
def modD : PyData → PyData → Option C
  | .int i, .int j => if decide (0 < j) = true then some (.val (.int (i % j))) else none
  | _, _ => none
theorem o_mod : OpR X (binaryOp .Mod) (r2 X.K mg modD) := by
  intro pins s σ H x y v u Q I rx ry h
  obtain ⟨F, dx, dy, c, sub, hx, hy, e, post⟩ := h
  unfold modD at e
  split at e
  · split at e
    · rename_i hl
      cases e
      exact op_mod pins s σ H x y v u Q I rx ry ⟨_, _, hx.int, hy.int, of_decide_eq_true hl, post.val sub (.int _)⟩
    · cases e
  · cases e
def fdivD : PyData → PyData → Option C
  | .int i, .int j => if decide (0 < j ∧ j < 1073741824) = true then some (.val (.int (i / j))) else none
  | _, _ => none
theorem o_fdiv : OpR X (binaryOp .FloorDiv) (r2 X.K mg fdivD) := by
  intro pins s σ H x y v u Q I rx ry h
  obtain ⟨F, dx, dy, c, sub, hx, hy, e, post⟩ := h
  unfold fdivD at e
  split at e
  · split at e
    · rename_i hl
      cases e
      have hh := of_decide_eq_true hl
      exact op_fdiv pins s σ H x y v u Q I rx ry ⟨_, _, hx.int, hy.int, hh, post.val sub (.int _)⟩
    · cases e
  · cases e
def powD : PyData → PyData → Option C
  | .int i, .int j => if decide (0 ≤ j ∧ j ≤ 1000000 ∧ i.natAbs < 18446744073709551616) = true then some (.val (.int (i ^ j.toNat))) else none
  | _, _ => none
theorem o_pow : OpR X (binaryOp .Pow) (r2 X.K mg powD) := by
  intro pins s σ H x y v u Q I rx ry h
  obtain ⟨F, dx, dy, c, sub, hx, hy, e, post⟩ := h
  unfold powD at e
  split at e
  · split at e
    · rename_i hl
      cases e
      have hh := of_decide_eq_true hl
      exact op_pow pins s σ H x y v u Q I rx ry ⟨_, _, hx.int, hy.int, hh, post.val sub (.int _)⟩
    · cases e
  · cases e

/-! ### comparisons -/
def eqD (x y : PyData) : Option Bool := if decide (x.depth ≤ 64 ∧ y.depth ≤ 64) = true then some (PyData.eqv x y) else none
def neD (x y : PyData) : Option Bool := (eqD x y).map (!·)
theorem cmpC_some {f : PyData → PyData → Option Bool} {x y : PyData} {c : C} (h : cmpC f x y = some c) : ∃ b, f x y = some b ∧ c = .val (.bool b) := by
  unfold cmpC at h
  cases q : f x y with
  | none => rw [q] at h; cases h
  | some b => rw [q] at h; cases h; exact ⟨b, rfl, rfl⟩
theorem shaped_of {d : PyData} (h : d.canLay0 = true) (k : d.depth ≤ 64) : SeqAt.shaped d = true := by
  unfold SeqAt.shaped
  rw [h, decide_eq_true k]
  rfl
theorem o_eq (hu : X.A.units + 65 < cLine) : OpR X (compareOp .Eq) (r2 X.K mg (cmpC eqD)) := by
  intro pins s σ H x y v u Q I rx ry h
  obtain ⟨F, dx, dy, c, sub, hx, hy, e0, post⟩ := h
  obtain ⟨b, e, rfl⟩ := cmpC_some e0
  clear e0
  unfold eqD at e
  split at e
  · rename_i hl
    cases e
    obtain ⟨h1, h2⟩ := of_decide_eq_true hl
    exact op_eqD (by omega) pins s σ H x y v u Q I rx ry ⟨dx, dy, hx.dp sub, hy.dp sub, shaped_of hx.lay h1, shaped_of hy.lay h2, post.val sub (.bl _)⟩
  · cases e
theorem o_ne (hu : X.A.units + 65 < cLine) : OpR X (compareOp .NotEq) (r2 X.K mg (cmpC neD)) := by
  intro pins s σ H x y v u Q I rx ry h
  obtain ⟨F, dx, dy, c, sub, hx, hy, e0, post⟩ := h
  obtain ⟨b, e, rfl⟩ := cmpC_some e0
  clear e0
  unfold neD eqD at e
  split at e
  · rename_i hl
    simp only [Option.map_some, Option.some.injEq] at e
    subst e
    obtain ⟨h1, h2⟩ := of_decide_eq_true hl
    exact op_neD (by omega) pins s σ H x y v u Q I rx ry ⟨dx, dy, hx.dp sub, hy.dp sub, shaped_of hx.lay h1, shaped_of hy.lay h2, post.val sub (.bl _)⟩
  · cases e
/-- x is None -/
def isNone : PyData → Bool
  | .none => true
  | _ => false
def isND (x y : PyData) : Option Bool := match y with
  | .none => some (isNone x)
  | _ => none
def notND (x y : PyData) : Option Bool := (isND x y).map (!·)
theorem isN_V {x : V} {d : PyData} (h : Sh K F H x d) : decide (x = .non) = isNone d := by
  cases d with
  | none => rw [h.non]; rfl
  | bool b => rw [h.bl]; rfl
  | int i => rw [h.int]; rfl
  | str s => rw [h.str.1]; rfl
  | list ds =>
    rcases h with h | ⟨a, vs, ds', e1, e, e2, e3⟩
    · obtain ⟨a, vs, e, _⟩ := h.list_inv
      rw [e]; rfl
    · rw [e1]; rfl
  | tuple ds =>
    rcases h with h | ⟨a, vs, ds', e1, e, e2, e3⟩
    · obtain ⟨a, vs, e, _⟩ := h.tup_inv
      rw [e]; rfl
    · rw [e1]; rfl
  | dict ds =>
    rcases h with h | ⟨a, vs, ds', e1, e, e2, e3⟩
    · cases h.1
    · cases e
theorem o_isN : OpR X (compareOp .Is) (r2 X.K mg (cmpC isND)) := by
  intro pins s σ H x y v u Q I rx ry h
  obtain ⟨F, dx, dy, c, sub, hx, hy, e0, post⟩ := h
  obtain ⟨b, e, rfl⟩ := cmpC_some e0
  clear e0
  unfold isND at e
  split at e
  · cases e
    exact op_isN pins s σ H x y v u Q I rx ry ⟨hy.non, by rw [isN_V hx]; exact post.val sub (.bl _)⟩
  · cases e
theorem o_notN : OpR X (compareOp .IsNot) (r2 X.K mg (cmpC notND)) := by
  intro pins s σ H x y v u Q I rx ry h
  obtain ⟨F, dx, dy, c, sub, hx, hy, e0, post⟩ := h
  obtain ⟨b, e, rfl⟩ := cmpC_some e0
  clear e0
  unfold notND isND at e
  split at e
  · simp only [Option.map_some, Option.some.injEq] at e
    subst e
    exact op_notN pins s σ H x y v u Q I rx ry ⟨hy.non, by rw [isN_V hx]; exact post.val sub (.bl _)⟩
  · cases e
def strLt (a b : Str) : Bool := decide (a.cps.toList < b.cps.toList)
def ltA : PyData → PyData → Option Bool
  | .int i, .int j => some (decide (i < j))
  | .str a, .str b => some (strLt a b)
  | _, _ => none
def leA : PyData → PyData → Option Bool
  | .int i, .int j => some (decide (i ≤ j))
  | .str a, .str b => some (!strLt b a)
  | _, _ => none
def gtA (x y : PyData) : Option Bool := ltA y x
def geA (x y : PyData) : Option Bool := leA y x
theorem o_ltA : OpR X (compareOp .Lt) (r2 X.K mg (cmpC ltA)) := by
  intro pins s σ H x y v u Q I rx ry h
  obtain ⟨F, dx, dy, c, sub, hx, hy, e0, post⟩ := h
  obtain ⟨b, e, rfl⟩ := cmpC_some e0
  clear e0
  unfold ltA at e
  split at e
  · cases e
    exact op_lt pins s σ H x y v u Q I rx ry ⟨_, _, hx.int, hy.int, post.val sub (.bl _)⟩
  · cases e
    exact op_lt_str pins s σ H x y v u Q I rx ry ⟨_, _, hx.str.1, hy.str.1, post.val sub (.bl _)⟩
  · cases e
theorem o_leA : OpR X (compareOp .LtE) (r2 X.K mg (cmpC leA)) := by
  intro pins s σ H x y v u Q I rx ry h
  obtain ⟨F, dx, dy, c, sub, hx, hy, e0, post⟩ := h
  obtain ⟨b, e, rfl⟩ := cmpC_some e0
  clear e0
  unfold leA at e
  split at e
  · cases e
    exact op_le pins s σ H x y v u Q I rx ry ⟨_, _, hx.int, hy.int, post.val sub (.bl _)⟩
  · cases e
    exact op_le_str pins s σ H x y v u Q I rx ry ⟨_, _, hx.str.1, hy.str.1, post.val sub (.bl _)⟩
  · cases e
theorem o_gtA : OpR X (compareOp .Gt) (r2 X.K mg (cmpC gtA)) := by
  intro pins s σ H x y v u Q I rx ry h
  obtain ⟨F, dx, dy, c, sub, hx, hy, e0, post⟩ := h
  obtain ⟨b, e, rfl⟩ := cmpC_some e0
  clear e0
  unfold gtA ltA at e
  split at e
  · cases e
    exact op_gt pins s σ H x y v u Q I rx ry ⟨_, _, hx.int, hy.int, post.val sub (.bl _)⟩
  · cases e
    exact op_gt_str pins s σ H x y v u Q I rx ry ⟨_, _, hx.str.1, hy.str.1, post.val sub (.bl _)⟩
  · cases e
theorem o_geA : OpR X (compareOp .GtE) (r2 X.K mg (cmpC geA)) := by
  intro pins s σ H x y v u Q I rx ry h
  obtain ⟨F, dx, dy, c, sub, hx, hy, e0, post⟩ := h
  obtain ⟨b, e, rfl⟩ := cmpC_some e0
  clear e0
  unfold geA leA at e
  split at e
  · cases e
    exact op_ge pins s σ H x y v u Q I rx ry ⟨_, _, hx.int, hy.int, post.val sub (.bl _)⟩
  · cases e
    exact op_ge_str pins s σ H x y v u Q I rx ry ⟨_, _, hx.str.1, hy.str.1, post.val sub (.bl _)⟩
  · cases e
/-- the one sign of a text -/
def sgn1 (a : Str) : Option Nat := match a.cps.toList with
  | [c] => some c
  | _ => none
theorem sgn1_eq {a : Str} {c : Nat} (h : sgn1 a = some c) : a = ⟨#[c]⟩ := by
  unfold sgn1 at h
  split at h
  · rename_i c' e
    cases h
    obtain ⟨cps⟩ := a
    have e2 : cps.toList = #[c].toList := e
    rw [show cps = #[c] from Array.toList_inj.mp e2]
  · cases h
/-- x in a list, a tuple; a sign in a text -/
def inD : PyData → PyData → Option Bool
  | d, .list ds => if decide (d.depth ≤ 64 ∧ PyData.depthAll ds ≤ 63) = true then some (ds.any fun z => PyData.eqv z d) else none
  | d, .tuple ds => if decide (d.depth ≤ 64 ∧ PyData.depthAll ds ≤ 63) = true then some (ds.any fun z => PyData.eqv z d) else none
  | .str a, .str z => (sgn1 a).map fun c => decide (c ∈ z.cps.toList)
  | _, _ => none
def notInD (x y : PyData) : Option Bool := (inD x y).map (!·)
theorem lay_list {ds : List PyData} : PyData.canLay0 (.list ds) = PyData.canLayAll0 ds := by simp [PyData.canLay0]
theorem lay_tup {ds : List PyData} : PyData.canLay0 (.tuple ds) = PyData.canLayAll0 ds := by simp [PyData.canLay0]
theorem o_in (hu : X.A.units + 65 < cLine) : OpR X (compareOp .In) (r2 X.K mg (cmpC inD)) := by
  intro pins s σ H x y v u Q I rx ry h
  obtain ⟨F, dx, dy, c, sub, hx, hy, e0, post⟩ := h
  obtain ⟨b, e, rfl⟩ := cmpC_some e0
  clear e0
  unfold inD at e
  split at e
  · rename_i d ds
    split at e
    · rename_i hl
      cases e
      obtain ⟨h1, h2⟩ := of_decide_eq_true hl
      exact op_inD hu pins s σ H x y v u Q I rx ry ⟨_, ds, hx.dp sub, hy.dp sub, shaped_of hx.lay h1, shaped_of hy.lay (by simp only [PyData.depth]; omega), post.val sub (.bl _)⟩
    · cases e
  · rename_i d ds
    split at e
    · rename_i hl
      cases e
      obtain ⟨h1, h2⟩ := of_decide_eq_true hl
      obtain ⟨as, r1⟩ := Dp.reads I _ x v (hx.dp sub) rx
      obtain ⟨bs, r2⟩ := Dp.reads I _ y u (hy.dp sub) ry
      exact SeqAt.in_tuple_reads r2 r1 (by rw [← lay_tup]; exact hy.lay) hx.lay (by omega) ⟨.bl _, H, I, rfl, post.val sub (.bl _)⟩
    · cases e
  · rename_i a z
    cases q : sgn1 a with
    | none => rw [q] at e; cases e
    | some c =>
      rw [q] at e
      simp only [Option.map_some, Option.some.injEq] at e
      subst e
      cases sgn1_eq q
      exact op_in_sign pins s σ H x y v u Q I rx ry ⟨_, _, hx.str.1, hy.str.1, post.val sub (.bl _)⟩
  · cases e
theorem o_notIn (hu : X.A.units + 65 < cLine) : OpR X (compareOp .NotIn) (r2 X.K mg (cmpC notInD)) := by
  intro pins s σ H x y v u Q I rx ry h
  obtain ⟨F, dx, dy, c, sub, hx, hy, e0, post⟩ := h
  obtain ⟨b, e, rfl⟩ := cmpC_some e0
  clear e0
  unfold notInD inD at e
  split at e
  · rename_i d ds
    split at e
    · rename_i hl
      simp only [Option.map_some, Option.some.injEq] at e
      subst e
      obtain ⟨h1, h2⟩ := of_decide_eq_true hl
      exact op_notInD hu pins s σ H x y v u Q I rx ry ⟨_, ds, hx.dp sub, hy.dp sub, shaped_of hx.lay h1, shaped_of hy.lay (by simp only [PyData.depth]; omega), post.val sub (.bl _)⟩
    · cases e
  · rename_i d ds
    split at e
    · rename_i hl
      simp only [Option.map_some, Option.some.injEq] at e
      subst e
      obtain ⟨h1, h2⟩ := of_decide_eq_true hl
      obtain ⟨as, r1⟩ := Dp.reads I _ x v (hx.dp sub) rx
      obtain ⟨bs, r2⟩ := Dp.reads I _ y u (hy.dp sub) ry
      exact SeqAt.notIn_tuple_reads r2 r1 (by rw [← lay_tup]; exact hy.lay) hx.lay (by omega) ⟨.bl _, H, I, rfl, post.val sub (.bl _)⟩
    · cases e
  · rename_i a z
    cases q : sgn1 a with
    | none => rw [q] at e; cases e
    | some c =>
      rw [q] at e
      simp only [Option.map_some, Option.some.injEq] at e
      subst e
      cases sgn1_eq q
      exact op_notIn_sign pins s σ H x y v u Q I rx ry ⟨_, _, hx.str.1, hy.str.1, post.val sub (.bl _)⟩
  · cases e
end
end Nd

/-! Nd5: statements. -/
namespace Nd
open PySem L2

inductive Fl where
  | next
  | brk
  | cont
  | ret (c : C)
section
variable [TF] (K : Frag) (mg : Str → Option Value)
def exPostS (W : WX) (P : List Nat) (F H : Hp) (fp : AS) (σ : St) (x : Xc) (ρ' : Env) : Prop :=
  ∀ cls dd σ' F' H' fp', Wd K mg F' H' ρ' fp' σ' → Chg fp F H fp' F' H' → (∀ i ∈ P, σ'[i]? = σ[i]?) → Xr mg x cls dd H' → W cls dd σ' H'
def nxPost (P : List Nat) (F H : Hp) (fp : AS) (σ : St) (ρ' : Env) (k : St → Hp → Prop) : Prop :=
  ∀ σ' F' H' fp', Wd K mg F' H' ρ' fp' σ' → Chg fp F H fp' F' H' → (∀ i ∈ P, σ'[i]? = σ[i]?) → k σ' H'
def rtPost (P : List Nat) (F H : Hp) (fp : AS) (σ : St) (c : C) (ρ' : Env) (k : VK) : Prop :=
  ∀ v σ' F' H' fp' fv, Wd K mg F' H' ρ' fp' σ' → Rc K mg F' H' c v fv → (∀ a, fv a → ¬ fp' a) → Chg fp F H (fun a => fp' a ∨ fv a) F' H' → (∀ i ∈ P, σ'[i]? = σ[i]?) → k v H'
def flPost (P : List Nat) (F H : Hp) (fp : AS) (σ : St) (f : Fl) (ρ' : Env) (D : Ends) : Prop :=
  match f with
  | .next => nxPost K mg P F H fp σ ρ' D.nx
  | .brk => nxPost K mg P F H fp σ ρ' D.bk
  | .cont => nxPost K mg P F H fp σ ρ' D.ct
  | .ret c => rtPost K mg P F H fp σ c ρ' D.rt
def sPost (W : WX) (P : List Nat) (F H : Hp) (fp : AS) (σ : St) (r : R Fl) (D : Ends) : Prop :=
  match r with
  | .ok f ρ' => flPost K mg P F H fp σ f ρ' D
  | .ex x ρ' => exPostS K mg W P F H fp σ x ρ'
  | .bad => False
/-- a statement -/
def tS (W : WX) (P : List Nat) (g : G Fl) : TS := fun D σ H => ∃ ρ fp F, Wd K mg F H ρ fp σ ∧ sPost K mg W P F H fp σ (g ρ) D
end
section
variable [TF] {X : Cx} {K : Frag} {mg : Str → Option Value} {W : WX} {P : List Nat} {F H F0 H0 : Hp} {ρ : Env} {fp fp0 : AS} {σ σ0 : St} {D : Ends}
theorem nxPost.of {ρ' : Env} {k : St → Hp → Prop} (ch : Chg fp0 F0 H0 fp F H) (p : ∀ i ∈ P, σ[i]? = σ0[i]?) (h : nxPost K mg P F0 H0 fp0 σ0 ρ' k) : nxPost K mg P F H fp σ ρ' k :=
  fun σ' F' H' fp' w c q => h σ' F' H' fp' w (ch.trans c) fun i hi => (q i hi).trans (p i hi)
theorem sPost.of {r : R Fl} (ch : Chg fp0 F0 H0 fp F H) (p : ∀ i ∈ P, σ[i]? = σ0[i]?) (h : sPost K mg W P F0 H0 fp0 σ0 r D) : sPost K mg W P F H fp σ r D := by
  cases r with
  | bad => exact h
  | ex x ρ' => exact fun cls dd σ' F' H' fp' w c q r => h cls dd σ' F' H' fp' w (ch.trans c) (fun i hi => (q i hi).trans (p i hi)) r
  | ok f ρ' =>
    cases f with
    | next => exact nxPost.of ch p h
    | brk => exact nxPost.of ch p h
    | cont => exact nxPost.of ch p h
    | ret c => exact fun v σ' F' H' fp' fv w r d c q => h v σ' F' H' fp' fv w r d (ch.trans c) fun i hi => (q i hi).trans (p i hi)
/-- an expression's exception, a statement's -/
theorem exPostS.here {x : Xc} {ρ' : Env} (h : exPostS K mg W P F H fp σ x ρ') : exPost K mg W F H fp σ x ρ' := fun cls dd F' H' fp' w c r => h cls dd σ F' H' fp' w c (fun _ _ => rfl) r

/-! ### blocks -/
def gSeq (g g' : G Fl) : G Fl := G.bind g fun f => match f with
  | .next => g'
  | .brk => G.ret .brk
  | .cont => G.ret .cont
  | .ret c => G.ret (.ret c)
def gNext : G Fl := G.ret .next
theorem gSeq_ok {g g' : G Fl} (h : tS K mg W P (gSeq g g') D σ H) : tSeq (tS K mg W P g) (tS K mg W P g') D σ H := by
  obtain ⟨ρ, fp, F, w, h⟩ := h
  refine ⟨ρ, fp, F, w, ?_⟩
  unfold gSeq G.bind at h
  cases q : g ρ with
  | bad => rw [q] at h; exact h
  | ex x ρ' => rw [q] at h; exact h
  | ok f ρ1 =>
    rw [q] at h
    simp only [R.bind_ok] at h
    cases f with
    | next => exact fun σ' F' H' fp' w' c p => ⟨ρ1, fp', F', w', sPost.of c p h⟩
    | brk => exact h
    | cont => exact h
    | ret c => exact h
variable {st : Stmt} {rest : List Stmt} {pos : Pos}
theorem s_nil : PSs X [] (tS K mg W P gNext) := pss_nil.imp fun D σ H h => by
  obtain ⟨ρ, fp, F, w, h⟩ := h
  exact h σ F H fp w Chg.refl fun _ _ => rfl
theorem s_cons {g g' : G Fl} (h1 : PS X st (tS K mg W P g)) (h2 : PSs X rest (tS K mg W P g')) : PSs X (st :: rest) (tS K mg W P (gSeq g g')) := (pss_cons h1 h2).imp fun _ _ _ => gSeq_ok
theorem s_one {g : G Fl} (h1 : PS X st (tS K mg W P g)) : PSs X [st] (tS K mg W P g) := pss_one h1
def gBrk : G Fl := G.ret .brk
def gCont : G Fl := G.ret .cont
theorem s_pass : PS X (.Pass pos) (tS K mg W P gNext) := ps_pass.imp fun D σ H h => by
  obtain ⟨ρ, fp, F, w, h⟩ := h
  exact h σ F H fp w Chg.refl fun _ _ => rfl
theorem s_break : PS X (.Break pos) (tS K mg W P gBrk) := ps_break.imp fun D σ H h => by
  obtain ⟨ρ, fp, F, w, h⟩ := h
  exact h σ F H fp w Chg.refl fun _ _ => rfl
theorem s_continue : PS X (.Continue pos) (tS K mg W P gCont) := ps_continue.imp fun D σ H h => by
  obtain ⟨ρ, fp, F, w, h⟩ := h
  exact h σ F H fp w Chg.refl fun _ _ => rfl
/-- an if -/
def gIfS (t : G Bool) (g g' : G Fl) : G Fl := gIf t g g'
theorem gIfS_ok {t : G Bool} {g g' : G Fl} (h : tS K mg W P (gIfS t g g') D σ H) : tIfS (tT K mg W t) (tS K mg W P g) (tS K mg W P g') D σ H := by
  obtain ⟨ρ, fp, F, w, h⟩ := h
  unfold gIfS gIf G.bind at h
  refine tRun w Chg.refl ?_
  cases q : t ρ with
  | bad => rw [q] at h; exact h.elim
  | ex x ρ' => rw [q] at h; exact exPostS.here h
  | ok b ρ1 =>
    rw [q] at h
    simp only [R.bind_ok] at h
    intro F1 H1 fp1 w1 s1 c1
    cases b with
    | true => exact iteT ⟨ρ1, fp1, F1, w1, sPost.of c1 (fun _ _ => rfl) h⟩
    | false => exact iteF ⟨ρ1, fp1, F1, w1, sPost.of c1 (fun _ _ => rfl) h⟩
theorem s_if {c : Expr} {a b : List Stmt} {t : G Bool} {g g' : G Fl} (hc : PT X c (tT K mg W t)) (ha : PSs X a (tS K mg W P g)) (hb : PSs X b (tS K mg W P g')) : PS X (.If c a b pos) (tS K mg W P (gIfS t g g')) := (ps_if hc ha hb).imp fun _ _ _ => gIfS_ok
/-- return e -/
def gRet (g : G C) : G Fl := G.bind g fun c => G.ret (.ret c)
theorem s_ret {e : Expr} {g : G C} (he : PE X e (tE K mg W g)) : PS X (.Return (some e) pos) (tS K mg W P (gRet g)) := (ps_ret he).imp fun D σ H h => by
  obtain ⟨ρ, fp, F, w, h⟩ := h
  unfold gRet G.bind at h
  refine eGo w Chg.refl ?_
  cases q : g ρ with
  | bad => rw [q] at h; exact h
  | ex x ρ' => rw [q] at h; exact exPostS.here h
  | ok c ρ1 =>
    rw [q] at h
    exact fun v F' H' fp' fv w' r d c' => h v σ F' H' fp' fv w' r d c' fun _ _ => rfl
def gRetN : G Fl := G.ret (.ret (.val .none))
theorem s_retN : PS X (.Return none pos) (tS K mg W P gRetN) := ps_retN.imp fun D σ H h => by
  obtain ⟨ρ, fp, F, w, h⟩ := h
  exact h .non σ F H fp _ w (Rc.of_dp .non) (fun _ z => z.elim) Chg.refl.or_false fun _ _ => rfl
/-- an expression alone -/
def gDrop (g : G C) : G Fl := G.bind g fun _ => G.ret .next
theorem s_expr {e : Expr} {g : G C} (he : PE X e (tE K mg W g)) (hs : swapsWith e none pos.line X.env = pure false := by rfl) : PS X (.Expr e pos) (tS K mg W P (gDrop g)) := (ps_expr he hs).imp fun D σ H h => by
  obtain ⟨ρ, fp, F, w, h⟩ := h
  unfold gDrop G.bind at h
  refine eGo w Chg.refl ?_
  cases q : g ρ with
  | bad => rw [q] at h; exact h
  | ex x ρ' => rw [q] at h; exact exPostS.here h
  | ok c ρ1 =>
    rw [q] at h
    exact fun v F' H' fp' fv w' r d c' => h σ F' H' fp' w' (c'.to fun a => .inl) fun _ _ => rfl

/-! ### x = e -/
/-- a slot is given a new thing -/
theorem Wd.put {i : Nat} {c : C} {v : V} {fv : AS} (w : Wd K mg F H ρ fp σ) (hi : i < ρ.length) (r : Rc K mg F H c v fv) (d : ∀ a, fv a → ¬ fp a) :
    ∃ fp', Wd K mg F H (ρ.set i (some c)) fp' (σ.set i (some v)) ∧ ∀ a, fp' a → fp a ∨ fv a := by
  obtain ⟨ov, f1, f2, q1, q2, dj, cv, put⟩ := w.re.focus (List.getElem?_eq_getElem hi)
  exact ⟨_, ⟨w.sub, put (some c) (some v) F H fv (Same.refl _) (fun _ _ => ⟨rfl, rfl⟩) ⟨v, rfl, r⟩ fun a z y => d a z ((cv a).mpr (.inr y))⟩, fun a z => z.elim .inr fun y => .inl ((cv a).mpr (.inr y))⟩
def put (i : Nat) (c : C) : G Fl := fun ρ => if decide (i < ρ.length) = true then .ok .next (ρ.set i (some c)) else .bad
def gSet (i : Nat) (g : G C) : G Fl := G.bind g fun c => put i c
theorem keep_set {i : Nat} {v : V} (hi : i ∉ P) : ∀ j ∈ P, (σ.set i (some v))[j]? = σ[j]? := fun j hj => List.getElem?_set_ne fun e => by subst e; exact hi hj
theorem gSet_ok {i : Nat} (hi : i ∉ P) {g : G C} (h : tS K mg W P (gSet i g) D σ H) : tAsg (tE K mg W g) (L2.gName i) D σ H := by
  obtain ⟨ρ, fp, F, w, h⟩ := h
  unfold gSet G.bind at h
  refine eGo w Chg.refl ?_
  cases q : g ρ with
  | bad => rw [q] at h; exact h
  | ex x ρ' => rw [q] at h; exact exPostS.here h
  | ok c ρ1 =>
    rw [q] at h
    simp only [R.bind_ok, put] at h
    intro v F' H' fp' fv w' r d c'
    by_cases hl : i < ρ1.length
    · rw [if_pos (decide_eq_true hl)] at h
      obtain ⟨fp2, w2, k⟩ := w'.put hl r d
      exact h _ F' H' fp2 w2 (c'.to k) (keep_set hi)
    · rw [if_neg (by simpa using hl)] at h
      exact h.elim
theorem s_set {i : Nat} {x : Str} {e : Expr} {g : G C} {pos' : Pos} (hi : i ∉ P) (hN : X.N.Nodup) (hx : X.N[i]? = some x) (hl : Loc X.env.scope x) (he : PE X e (tE K mg W g)) (hs : swapsWith e (some (.Name x pos')) pos.line X.env = pure false := by rfl)
    (hf : X.fn x = true ∨ X.env.scope.names.lookup x = some .local := by first | exact .inl rfl | exact .inr rfl | assumption) : PS X (.Assign [.Name x pos'] e pos) (tS K mg W P (gSet i g)) := (ps_set hN hx hl he hs hf).imp fun _ _ _ => gSet_ok hi

/-! ### targets of data: names, tuples of these -/
inductive Pat where
  | nm (i : Nat)
  | tu (ps : List Pat)
mutual
def asg : Pat → PyData → Env → Option Env
  | .nm i, d, ρ => if decide (i < ρ.length) = true then some (ρ.set i (some (.val d))) else none
  | .tu ps, .tuple ds, ρ => asgs ps ds ρ
  | .tu _, _, _ => none
def asgs : List Pat → List PyData → Env → Option Env
  | [], [], ρ => some ρ
  | p :: ps, d :: ds, ρ => (asg p d ρ).bind fun ρ' => asgs ps ds ρ'
  | _, _, _ => none
end
mutual
def Pat.slots : Pat → List Nat
  | .nm i => [i]
  | .tu ps => slotsL ps
def slotsL : List Pat → List Nat
  | [] => []
  | p :: ps => p.slots ++ slotsL ps
end
/-- a target of data -/
def tGd (K : Frag) (mg : Str → Option Value) (p : Pat) : TG := fun v σ H Q => ∃ ρ fp F d ρ', Wd K mg F H ρ fp σ ∧ Dq K F v d ∧ asg p d ρ = some ρ' ∧
  ∀ σ' fp', Wd K mg F H ρ' fp' σ' → (∀ a, fp' a → fp a) → (∀ j, j ∉ p.slots → σ'[j]? = σ[j]?) → Q σ' H
def tGds (K : Frag) (mg : Str → Option Value) (ps : List Pat) : TGs := fun vs σ H Q => ∃ ρ fp F ds ρ', Wd K mg F H ρ fp σ ∧ DqAll K F vs ds ∧ asgs ps ds ρ = some ρ' ∧
  ∀ σ' fp', Wd K mg F H ρ' fp' σ' → (∀ a, fp' a → fp a) → (∀ j, j ∉ slotsL ps → σ'[j]? = σ[j]?) → Q σ' H
theorem _root_.L2.PG.imp {X : Cx} {e : Expr} {t t' : TG} (h : PG X e t) (k : ∀ v σ H Q, t' v σ H Q → t v σ H Q) : PG X e t' := ⟨fun pins s σ H v u Q I r hw => h.run pins s σ H v u Q I r (k v σ H Q hw)⟩
theorem _root_.L2.PGs.imp {X : Cx} {e : List Expr} {t t' : TGs} (h : PGs X e t) (k : ∀ v σ H Q, t' v σ H Q → t v σ H Q) : PGs X e t' := ⟨fun pins s σ H v u Q I r hw => h.run pins s σ H v u Q I r (k v σ H Q hw)⟩
theorem g_name {i : Nat} {x : Str} (hN : X.N.Nodup) (hi : X.N[i]? = some x) (hx : Loc X.env.scope x) (hf : X.fn x = true ∨ X.env.scope.names.lookup x = some .local := by first | exact .inl rfl | exact .inr rfl | assumption) : PG X (.Name x pos) (tGd K mg (.nm i)) :=
  (pg_name hN hi hx hf).imp fun v σ H Q h => by
    obtain ⟨ρ, fp, F, d, ρ', w, hd, e, k⟩ := h
    simp only [asg] at e
    split at e
    · rename_i hl
      cases e
      obtain ⟨fp2, w2, k2⟩ := w.put (of_decide_eq_true hl) (Rc.of_dp hd) (fun _ z => z.elim)
      exact k _ fp2 w2 (fun a z => (k2 a z).elim id False.elim) fun j hj => List.getElem?_set_ne fun e => hj (by simp [Pat.slots, e])
    · cases e
theorem gs_nil : PGs X [] (tGds K mg []) := pgs_nil.imp fun v σ H Q h => by
  obtain ⟨ρ, fp, F, ds, ρ', w, hd, e, k⟩ := h
  cases ds with
  | nil =>
    simp only [asgs, Option.some.injEq] at e
    subst e
    cases hd.1
    exact ⟨rfl, k σ fp w (fun _ z => z) fun _ _ => rfl⟩
  | cons d ds => simp [asgs] at e
theorem gs_cons {e : Expr} {es : List Expr} {p : Pat} {ps : List Pat} (h1 : PG X e (tGd K mg p)) (h2 : PGs X es (tGds K mg ps)) (hs : (assignEach (e :: es) X.env).map (·.2) = assign e X.env :: (assignEach es X.env).map (·.2) := by rfl) : PGs X (e :: es) (tGds K mg (p :: ps)) :=
  (pgs_cons h1 h2 hs).imp fun v σ H Q h => by
    obtain ⟨ρ, fp, F, ds, ρ', w, hd, e, k⟩ := h
    cases ds with
    | nil => simp [asgs] at e
    | cons d ds =>
      simp only [asgs] at e
      cases q : asg p d ρ with
      | none => rw [q] at e; cases e
      | some ρ1 =>
        rw [q] at e
        obtain ⟨hd, hl⟩ := hd
        cases hd with
        | cons a b =>
          refine ⟨_, _, rfl, ρ, fp, F, d, ρ1, w, ⟨a, (lay_cons.mp hl).1⟩, q, fun σ1 fp1 w1 k1 k1' => ?_⟩
          refine ⟨ρ1, fp1, F, ds, ρ', w1, ⟨b, (lay_cons.mp hl).2⟩, e, fun σ2 fp2 w2 k2 k2' => k σ2 fp2 w2 (fun a z => k1 a (k2 a z)) fun j hj => ?_⟩
          simp only [slotsL, List.mem_append, not_or] at hj
          exact (k2' j hj.2).trans (k1' j hj.1)
theorem g_tup {es : List Expr} {k : Nat} {ps : List Pat} {n : Nat} (hc : X.calm = true) (hn' : ps.length = n) (hK : X.K = K) (h : PGs X es (tGds K mg ps)) (hn : (assignEach es X.env).length = n := by rfl) (hst : (assignEach es X.env).findIdx? (·.1) = none := by rfl) :
    PG X (.Tuple es k pos) (tGd K mg (.tu ps)) := (pg_tup hc h hn hst).imp fun v σ H Q hq => by
  obtain ⟨ρ, fp, F, d, ρ', w, hd, e, k⟩ := hq
  cases d with
  | tuple ds =>
    simp only [asg] at e
    obtain ⟨a, vs, e1, s1, r1⟩ := hd.tup_inv
    have len : ∀ {ps : List Pat} {ds : List PyData} {ρ ρ' : Env}, asgs ps ds ρ = some ρ' → ds.length = ps.length := fun {ps} => by
      induction ps with
      | nil => intro ds ρ ρ' e; cases ds with
        | nil => rfl
        | cons _ _ => simp [asgs] at e
      | cons p ps ih =>
        intro ds ρ ρ' e
        cases ds with
        | nil => simp [asgs] at e
        | cons d ds =>
          simp only [asgs] at e
          cases q : asg p d ρ with
          | none => rw [q] at e; cases e
          | some ρ1 =>
            rw [q] at e
            simp [ih e]
    refine ⟨a, vs, e1, by rw [hK]; exact SqT.mono w.sub s1, by rw [r1.length, len e, hn'], ρ, fp, F, ds, ρ', w, r1, e, fun σ' fp' w' k1 k2 => k σ' fp' w' k1 k2⟩
  | none => simp [asg] at e
  | bool b => simp [asg] at e
  | int i => simp [asg] at e
  | str s => simp [asg] at e
  | list ds => simp [asg] at e
  | dict ds => simp [asg] at e
/-- pattern = e, e's value frozen -/
def gAsg (p : Pat) (g : G Op) : G Fl := G.bind g fun o => fun ρ => match o with
  | .d d => match asg p d ρ with
    | some ρ' => .ok .next ρ'
    | none => .bad
  | .s _ => .bad
theorem s_asg {tg e : Expr} {p : Pat} {g : G Op} (hp : ∀ j ∈ P, j ∉ p.slots) (he : PE X e (tO K mg W g)) (hg : PG X tg (tGd K mg p)) (hs : swapsWithSole [tg] e pos.line X.env = pure false := by rfl) (hw : swappedStores [tg] e X.env = pure none := by rfl)
    (h1 : (assignEach [tg] X.env).map (·.2) = [assign tg X.env] := by rfl) : PS X (.Assign [tg] e pos) (tS K mg W P (gAsg p g)) := (ps_asg he hg hs hw h1).imp fun D σ H h => by
  obtain ⟨ρ, fp, F, w, h⟩ := h
  unfold gAsg G.bind at h
  refine oRun w Chg.refl ?_
  cases q : g ρ with
  | bad => rw [q] at h; exact h
  | ex x ρ' => rw [q] at h; exact exPostS.here h
  | ok o ρ1 =>
    rw [q] at h
    simp only [R.bind_ok] at h
    intro v F1 H1 fp1 w1 r1 s1 c1
    cases o with
    | s i => exact h.elim
    | d d =>
      simp only at h
      cases z : asg p d ρ1 with
      | none => rw [z] at h; exact h.elim
      | some ρ2 =>
        rw [z] at h
        exact ⟨ρ1, fp1, F1, d, ρ2, w1, r1, z, fun σ' fp' w' k k' => h σ' F1 H1 fp' w' (c1.to k) fun i hi => k' i (hp i hi)⟩
end
end Nd

/-! Nd6: loops and comprehensions. -/
namespace Nd
open PySem L2

/-- the slot that is walked, its content: it stays while the loop runs -/
abbrev Src := Option (Nat × C)
def chk (s : Src) (ρ : Env) : Prop := match s with
  | none => True
  | some (i, c) => ρ[i]? = some (some c)
open Classical in
noncomputable def gChk {α : Type} (s : Src) (g : G α) : G α := fun ρ => if chk s ρ then g ρ else .bad
theorem gChk_none {α : Type} {g : G α} : gChk none g = g := by funext ρ; unfold gChk; exact if_pos trivial
theorem gChk_some {α : Type} {i : Nat} {c : C} {g : G α} {ρ : Env} (h : ρ[i]? = some (some c)) : gChk (some (i, c)) g ρ = g ρ := if_pos h

section
variable [TF] {K : Frag} {mg : Str → Option Value}
def anchor (s : Src) (a : Addr) (σ : St) : Prop := match s with
  | none => True
  | some (i, _) => σ[i]? = some (some (.ref a))
/-- what a loop walks: data, one item a turn -/
structure ItOk (K : Frag) (mg : Str → Option Value) (s : Src) (a : Addr) (F0 : Hp) (ds : List PyData) (J : It) : Prop where
  go : ∀ ρ fp F H σ i, Wd K mg F H ρ fp σ → chk s ρ → anchor s a σ → Same F0 F → i < ds.length → J.go i H
  yld : ∀ ρ fp F H σ i x H' d, Wd K mg F H ρ fp σ → chk s ρ → anchor s a σ → Same F0 F → ds[i]? = some d → J.yld i H x H' → ∃ F', Frs F H F' H' ∧ Dq K F' x d
  stop : ∀ ρ fp F H σ, Wd K mg F H ρ fp σ → chk s ρ → anchor s a σ → Same F0 F → J.stop ds.length H
structure Itm where
  ds : List PyData
  src : Src
/-- an iterable's reading -/
def tI (K : Frag) (mg : Str → Option Value) (W : WX) (g : G Itm) : TI := fun σ H Rr => ∃ ρ fp F, Wd K mg F H ρ fp σ ∧
  match g ρ with
  | .ok it ρ' => ∀ J a F' H' fp', Wd K mg F' H' ρ' fp' σ → Chg fp F H fp' F' H' → chk it.src ρ' → anchor it.src a σ → ItOk K mg it.src a F' it.ds J → it.ds.length ≤ sizeLine → Rr J H'
  | .ex x ρ' => exPost K mg W F H fp σ x ρ'
  | .bad => False
end

mutual
theorem asg_len : ∀ (p : Pat) (d : PyData) (ρ ρ' : Env), asg p d ρ = some ρ' → ρ'.length = ρ.length
  | .nm i, d, ρ, ρ', e => by
    simp only [asg] at e
    split at e
    · cases e; simp
    · cases e
  | .tu ps, .tuple ds, ρ, ρ', e => by
    simp only [asg] at e
    exact asgs_len ps ds ρ ρ' e
  | .tu ps, .none, ρ, ρ', e => by simp [asg] at e
  | .tu ps, .bool _, ρ, ρ', e => by simp [asg] at e
  | .tu ps, .int _, ρ, ρ', e => by simp [asg] at e
  | .tu ps, .str _, ρ, ρ', e => by simp [asg] at e
  | .tu ps, .list _, ρ, ρ', e => by simp [asg] at e
  | .tu ps, .dict _, ρ, ρ', e => by simp [asg] at e
theorem asgs_len : ∀ (ps : List Pat) (ds : List PyData) (ρ ρ' : Env), asgs ps ds ρ = some ρ' → ρ'.length = ρ.length
  | [], [], ρ, ρ', e => by
    simp only [asgs, Option.some.injEq] at e
    rw [e]
  | [], _ :: _, ρ, ρ', e => by simp [asgs] at e
  | _ :: _, [], ρ, ρ', e => by simp [asgs] at e
  | p :: ps, d :: ds, ρ, ρ', e => by
    simp only [asgs] at e
    cases q : asg p d ρ with
    | none => rw [q] at e; cases e
    | some ρ1 =>
      rw [q] at e
      exact (asgs_len ps ds ρ1 ρ' e).trans (asg_len p d ρ ρ1 q)
end

/-! ### for -/
noncomputable def forL (s : Src) (p : Pat) (gb : G Fl) : List PyData → G Fl
  | [] => gChk s (G.ret .next)
  | d :: ds => gChk s fun ρ => match asg p d ρ with
    | none => .bad
    | some ρ1 => (gb ρ1).bind fun f => match f with
      | .next => forL s p gb ds
      | .cont => forL s p gb ds
      | .brk => G.ret .next
      | .ret c => G.ret (.ret c)
noncomputable def gFor (gi : G Itm) (p : Pat) (gb : G Fl) : G Fl := G.bind gi fun it => forL it.src p gb it.ds
def srcIn (s : Src) (P : List Nat) : Prop := match s with
  | none => True
  | some (i, _) => i ∈ P
section
variable [TF] {X : Cx} {K : Frag} {mg : Str → Option Value} {W : WX} {P : List Nat} {F H F0 H0 : Hp} {ρ : Env} {fp fp0 : AS} {σ σ0 : St} {D : Ends}
theorem sPost.sub {P' : List Nat} (hs : ∀ i ∈ P, i ∈ P') {r : R Fl} (h : sPost K mg W P F H fp σ r D) : sPost K mg W P' F H fp σ r D := by
  cases r with
  | bad => exact h
  | ex x ρ' => exact fun cls dd σ' F' H' fp' w c q r => h cls dd σ' F' H' fp' w c (fun i hi => q i (hs i hi)) r
  | ok f ρ' =>
    cases f with
    | next => exact fun σ' F' H' fp' w c q => h σ' F' H' fp' w c fun i hi => q i (hs i hi)
    | brk => exact fun σ' F' H' fp' w c q => h σ' F' H' fp' w c fun i hi => q i (hs i hi)
    | cont => exact fun σ' F' H' fp' w c q => h σ' F' H' fp' w c fun i hi => q i (hs i hi)
    | ret c => exact fun v σ' F' H' fp' fv w r d c q => h v σ' F' H' fp' fv w r d c fun i hi => q i (hs i hi)
theorem anchor.of {s : Src} {a : Addr} {σ σ' : St} (hs : srcIn s P) (h : anchor s a σ) (k : ∀ i ∈ P, σ'[i]? = σ[i]?) : anchor s a σ' := by
  cases s with
  | none => trivial
  | some q =>
    obtain ⟨i, c⟩ := q
    exact (k i hs).trans h
/-- P' : the slots kept in the loop's body (P and what is walked) -/
theorem gFor_ok {P' : List Nat} {gi : G Itm} {p : Pat} {gb : G Fl} (hP : ∀ i ∈ P, i ∈ P') (hp : ∀ j ∈ P', j ∉ p.slots) (hsrc : ∀ ρ it ρ', gi ρ = .ok it ρ' → srcIn it.src P') (h : tS K mg W P (gFor gi p gb) D σ H) :
    tFor (tI K mg W gi) (tGd K mg p) (tS K mg W P' gb) D σ H := by
  obtain ⟨ρ, fp, F, w, h⟩ := h
  refine ⟨ρ, fp, F, w, ?_⟩
  unfold gFor G.bind at h
  cases q : gi ρ with
  | bad => rw [q] at h; exact h
  | ex x ρ' => rw [q] at h; exact exPostS.here h
  | ok it ρ1 =>
    rw [q] at h
    simp only [R.bind_ok] at h
    intro J a F1 H1 fp1 w1 c1 ck1 an1 ok hz
    have hs := hsrc ρ it ρ1 q
    have h1 : sPost K mg W P F1 H1 fp1 σ (forL it.src p gb it.ds ρ1) D := sPost.of c1 (fun _ _ => rfl) h
    refine ⟨fun i m σ' H' => m = it.ds.length - i ∧ i ≤ it.ds.length ∧ ∃ ρ' fp' F', Wd K mg F' H' ρ' fp' σ' ∧ Same F1 F' ∧ anchor it.src a σ' ∧ (∀ j ∈ P, σ'[j]? = σ[j]?) ∧ sPost K mg W P F' H' fp' σ' (forL it.src p gb (it.ds.drop i) ρ') D,
      ⟨_, rfl, Nat.zero_le _, ρ1, fp1, F1, w1, Same.refl _, an1, fun _ _ => rfl, by simpa using h1⟩, ?_⟩
    rintro i m σ2 H2 ⟨rfl, hi, ρ2, fp2, F2, w2, s2, an2, kp2, h2⟩
    by_cases hlt : i < it.ds.length
    · right
      rw [List.drop_eq_getElem_cons hlt] at h2
      unfold forL at h2
      by_cases ck : chk it.src ρ2
      · unfold gChk at h2
        rw [if_pos ck] at h2
        dsimp only at h2
        refine ⟨ok.go ρ2 fp2 F2 H2 σ2 i w2 ck an2 s2 hlt, fun σ' H' => (it.ds.length - (i + 1) = it.ds.length - (i + 1) ∧ i + 1 ≤ it.ds.length ∧ ∃ ρ' fp' F', Wd K mg F' H' ρ' fp' σ' ∧ Same F1 F' ∧ anchor it.src a σ' ∧ (∀ j ∈ P, σ'[j]? = σ[j]?) ∧ sPost K mg W P F' H' fp' σ' (forL it.src p gb (it.ds.drop (i + 1)) ρ') D),
          fun σ' H' n => ⟨_, by omega, n⟩, fun x H3 hy => ?_⟩
        obtain ⟨F3, x3, d3⟩ := ok.yld ρ2 fp2 F2 H2 σ2 i x H3 _ w2 ck an2 s2 (List.getElem?_eq_getElem hlt) hy
        cases z : asg p it.ds[i] ρ2 with
        | none => rw [z] at h2; exact h2.elim
        | some ρ3 =>
          rw [z] at h2
          simp only at h2
          refine ⟨ρ2, fp2, F3, it.ds[i], ρ3, w2.frs x3, d3, z, fun σ4 fp4 w4 k4 k4' => ⟨ρ3, fp4, F3, w4, ?_⟩⟩
          have c4 : Chg fp2 F2 H2 fp4 F3 H3 := x3.chg.to k4
          have kp4 : ∀ j ∈ P', σ4[j]? = σ2[j]? := fun j hj => k4' j (hp j hj)
          have an4 : anchor it.src a σ4 := an2.of hs kp4
          cases z2 : gb ρ3 with
          | bad => rw [z2] at h2; exact h2.elim
          | ex x ρ' =>
            rw [z2] at h2
            exact fun cls dd σ' F' H' fp' w c q r => h2 cls dd σ' F' H' fp' w (c4.trans c) (fun j hj => (q j (hP j hj)).trans (kp4 j (hP j hj))) r
          | ok f ρ5 =>
            rw [z2] at h2
            simp only [R.bind_ok] at h2
            have go : ∀ {k : St → Hp → Prop}, sPost K mg W P F2 H2 fp2 σ2 (forL it.src p gb (it.ds.drop (i + 1)) ρ5) D → nxPost K mg P' F3 H3 fp4 σ4 ρ5 fun σ' H' => (it.ds.length - (i + 1) = it.ds.length - (i + 1) ∧ i + 1 ≤ it.ds.length ∧ ∃ ρ' fp' F', Wd K mg F' H' ρ' fp' σ' ∧ Same F1 F' ∧ anchor it.src a σ' ∧ (∀ j ∈ P, σ'[j]? = σ[j]?) ∧ sPost K mg W P F' H' fp' σ' (forL it.src p gb (it.ds.drop (i + 1)) ρ') D) := fun {k} hh σ' F' H' fp' w' c' q' =>
              ⟨rfl, hlt, ρ5, fp', F', w', s2.trans ((c4.trans c').fz), an4.of hs q', fun j hj => (q' j (hP j hj)).trans ((kp4 j (hP j hj)).trans (kp2 j hj)), sPost.of (c4.trans c') (fun j hj => (q' j (hP j hj)).trans (kp4 j (hP j hj))) hh⟩
            cases f with
            | next => exact go (k := D.nx) h2
            | cont => exact go (k := D.nx) h2
            | brk => exact fun σ' F' H' fp' w' c' q' => h2 σ' F' H' fp' w' (c4.trans c') fun j hj => (q' j (hP j hj)).trans (kp4 j (hP j hj))
            | ret c => exact fun v σ' F' H' fp' fv w' r d c' q' => h2 v σ' F' H' fp' fv w' r d (c4.trans c') fun j hj => (q' j (hP j hj)).trans (kp4 j (hP j hj))
      · unfold gChk at h2
        rw [if_neg ck] at h2
        exact h2.elim
    · left
      have e : i = it.ds.length := by omega
      subst e
      rw [List.drop_length] at h2
      unfold forL gChk at h2
      by_cases ck : chk it.src ρ2
      · rw [if_pos ck] at h2
        exact ⟨ok.stop ρ2 fp2 F2 H2 σ2 w2 ck an2 s2, h2 σ2 F2 H2 fp2 w2 Chg.refl fun _ _ => rfl⟩
      · rw [if_neg ck] at h2
        exact h2.elim
theorem s_for {P' : List Nat} {tg iter : Expr} {body : List Stmt} {gi : G Itm} {p : Pat} {gb : G Fl} {pos : Pos} (hP : ∀ i ∈ P, i ∈ P') (hq : ∀ j ∈ P', j ∉ p.slots) (hsrc : ∀ ρ it ρ', gi ρ = .ok it ρ' → srcIn it.src P')
    (hp : PassesOwn (model X.prog X.w) X.A X.env X.xe) (hc : X.calm = true) (hi : PI X tg iter (tI K mg W gi)) (hg : PG X tg (tGd K mg p)) (hb : PSs X body (tS K mg W P' gb))
    (hs : ∀ x, foldedSetIterable iter X.env x = pure x := by intro _; rfl) : PS X (.For tg iter body [] pos) (tS K mg W P (gFor gi p gb)) := (ps_for hp hc hi hg hb hs).imp fun _ _ _ => gFor_ok hP hq hsrc

/-! ### while -/
def whl : Nat → G Bool → G Fl → G Fl
  | 0, _, _ => G.bad
  | n + 1, t, gb => fun ρ => (t ρ).bind fun b ρ1 => if b = true then (gb ρ1).bind fun f => match f with
      | .next => whl n t gb
      | .cont => whl n t gb
      | .brk => G.ret .next
      | .ret c => G.ret (.ret c)
    else .ok .next ρ1
/-- n: more than enough turns -/
def gWhile (n : Env → Nat) (t : G Bool) (gb : G Fl) : G Fl := fun ρ => whl (n ρ) t gb ρ
theorem gWhile_ok {n : Env → Nat} {t : G Bool} {gb : G Fl} (h : tS K mg W P (gWhile n t gb) D σ H) : tWhile (tT K mg W t) (tS K mg W P gb) D σ H := by
  obtain ⟨ρ, fp, F, w, h⟩ := h
  refine ⟨fun m σ' H' => ∃ ρ' fp' F', Wd K mg F' H' ρ' fp' σ' ∧ sPost K mg W P F' H' fp' σ' (whl m t gb ρ') D, ⟨n ρ, ρ, fp, F, w, h⟩, ?_⟩
  rintro m σ1 H1 ⟨ρ1, fp1, F1, w1, h1⟩
  cases m with
  | zero => exact h1.elim
  | succ m =>
    simp only [whl] at h1
    refine tRun w1 Chg.refl ?_
    cases q : t ρ1 with
    | bad => rw [q] at h1; exact h1.elim
    | ex x ρ' => rw [q] at h1; exact exPostS.here h1
    | ok b ρ2 =>
      rw [q] at h1
      simp only [R.bind_ok] at h1
      intro F2 H2 fp2 w2 s2 c2
      cases b with
      | false => exact iteF (h1 σ1 F2 H2 fp2 w2 c2 fun _ _ => rfl)
      | true =>
        refine iteT ⟨fun σ' H' => ∃ ρ' fp' F', Wd K mg F' H' ρ' fp' σ' ∧ sPost K mg W P F' H' fp' σ' (whl m t gb ρ') D, fun σ' H' z => ⟨m, Nat.lt_succ_self _, z⟩, ρ2, fp2, F2, w2, ?_⟩
        simp only [if_true] at h1
        cases z : gb ρ2 with
        | bad => rw [z] at h1; exact h1.elim
        | ex x ρ' => rw [z] at h1; exact fun cls dd σ' F' H' fp' w c q r => h1 cls dd σ' F' H' fp' w (c2.trans c) q r
        | ok f ρ3 =>
          rw [z] at h1
          simp only [R.bind_ok] at h1
          cases f with
          | next => exact fun σ' F' H' fp' w' c' q' => ⟨ρ3, fp', F', w', sPost.of (c2.trans c') q' h1⟩
          | cont => exact fun σ' F' H' fp' w' c' q' => ⟨ρ3, fp', F', w', sPost.of (c2.trans c') q' h1⟩
          | brk => exact fun σ' F' H' fp' w' c' q' => h1 σ' F' H' fp' w' (c2.trans c') q'
          | ret c => exact fun v σ' F' H' fp' fv w' r d c' q' => h1 v σ' F' H' fp' fv w' r d (c2.trans c') q'
theorem s_while {c : Expr} {body : List Stmt} (n : Env → Nat) {t : G Bool} {gb : G Fl} {pos : Pos} (hp : PassesOwn (model X.prog X.w) X.A X.env X.xe) (hc : PT X c (tT K mg W t)) (hb : PSs X body (tS K mg W P gb)) : PS X (.While c body [] pos) (tS K mg W P (gWhile n t gb)) :=
  (ps_while hp hc hb).imp fun _ _ _ => gWhile_ok

/-! ### comprehensions -/
def wipeE (ρ : Env) : List Nat → Env
  | [] => ρ
  | v :: vs => (wipeE ρ vs).set v none
/-- the slots at vs hold nothing of one's own -/
def plainAt (ρ : Env) : List Nat → Bool
  | [] => true
  | v :: vs => (match ρ[v]? with
    | some none => true
    | some (some (.val _)) => true
    | _ => false) && plainAt ρ vs
/-- the outer slots at vs again -/
def restore (ρ : Env) : List Nat → Env → Env
  | [], ρ2 => ρ2
  | v :: vs, ρ2 => (restore ρ vs (ρ2.set v none)).set v (ρ[v]?.getD none)
noncomputable def compL (s : Src) (p : Pat) (vs : List Nat) (gt : G Bool) (ge : G Op) : List PyData → G (List PyData)
  | [] => gChk s (G.ret [])
  | d :: ds => gChk s fun ρ => match asg p d ρ with
    | none => .bad
    | some ρ1 => (gt ρ1).bind fun b ρ2 => if b = true then (ge ρ2).bind fun o ρ3 => match o with
        | .d y => (compL s p vs gt ge ds (wipeE ρ3 vs)).bind fun ys => G.ret (y :: ys)
        | .s _ => .bad
      else compL s p vs gt ge ds (wipeE ρ2 vs)
noncomputable def gComp (gi : G Itm) (p : Pat) (vs : List Nat) (gt : G Bool) (ge : G Op) : G C := G.bind gi fun it ρ => if plainAt ρ vs = true then
  match compL it.src p vs gt ge it.ds (wipeE ρ vs) with
  | .ok ys ρ2 => .ok (mkL ys) (restore ρ vs ρ2)
  | _ => .bad
  else .bad
/-- a slot without anything of one's own may change -/
theorem Re.plain {i : Nat} {oc oc' : Option C} {ov' : Option V} (h : Re K mg F H ρ σ fp) (e : ρ[i]? = some oc) (n : ∀ ov f, Slot K mg F H oc ov f → ∀ a, ¬ f a) (sl : Slot K mg F H oc' ov' (fun _ => False)) :
    Re K mg F H (ρ.set i oc') (σ.set i ov') fp := by
  obtain ⟨ov, f1, f2, q1, q2, dj, cv, put⟩ := h.focus e
  exact (put oc' ov' F H (fun _ => False) (Same.refl _) (fun _ _ => ⟨rfl, rfl⟩) sl fun _ z => z.elim).iff fun a => by
    rw [cv a]
    exact ⟨fun z => z.elim (fun y => (n ov f1 q2 a y).elim) .inr, fun z => z.elim False.elim .inr⟩
theorem plain_slot {oc : Option C} (h : (match some oc with | some none => true | some (some (.val _)) => true | _ => false) = true) : ∀ ov f, Slot K mg F H oc ov f → ∀ a, ¬ f a := by
  cases oc with
  | none => exact fun ov f s a z => s a z
  | some c =>
    cases c with
    | val d => exact fun ov f ⟨v, e, r⟩ a z => by simp only [Rc] at r; exact r.2 a z
    | tup cs => exact nomatch h
    | lst cs => exact nomatch h
    | dic ks cs => exact nomatch h
    | obj cl ks cs => exact nomatch h
theorem Re.wipe : ∀ {vs : List Nat} {fp : AS}, Re K mg F H ρ σ fp → ∃ fp', Re K mg F H (wipeE ρ vs) (L2.wipe σ vs) fp' ∧ ∀ a, fp' a → fp a
  | [], fp, h => ⟨fp, h, fun _ z => z⟩
  | v :: vs, fp, h => by
    obtain ⟨fp1, h1, k1⟩ := Re.wipe (vs := vs) h
    simp only [wipeE, L2.wipe]
    by_cases hv : v < (wipeE ρ vs).length
    · obtain ⟨ov, f1, f2, q1, q2, dj, cv, put⟩ := h1.focus (List.getElem?_eq_getElem hv)
      exact ⟨_, put none none F H (fun _ => False) (Same.refl _) (fun _ _ => ⟨rfl, rfl⟩) (fun _ z => z) (fun _ z => z.elim), fun a z => k1 a ((cv a).mpr (z.elim False.elim .inr))⟩
    · rw [List.set_eq_of_length_le (by omega), List.set_eq_of_length_le (by rw [Re.length h1]; omega)]
      exact ⟨fp1, h1, k1⟩
theorem wipeE_at {vs : List Nat} {v : Nat} (hv : v ∈ vs) (hl : v < ρ.length) : (wipeE ρ vs)[v]? = some none := by
  induction vs with
  | nil => cases hv
  | cons u vs ih =>
    simp only [wipeE]
    by_cases e : u = v
    · subst e
      have hlen : ∀ vs : List Nat, (wipeE ρ vs).length = ρ.length := fun vs => by
        induction vs with
        | nil => rfl
        | cons _ _ ih => simp [wipeE, ih]
      exact List.getElem?_set_self (by rw [hlen]; exact hl)
    · rw [List.getElem?_set_ne e]
      exact ih (by rcases List.mem_cons.mp hv with z | z; exact absurd z.symm e; exact z)
theorem wipe_eq {σ σ' : St} {vs : List Nat} (hl : σ'.length = σ.length) (h : ∀ j, j ∉ vs → σ'[j]? = (L2.wipe σ vs)[j]?) : wipe σ' vs = wipe σ vs := by
  have key : ∀ (τ : St) (vs : List Nat) (j : Nat), (wipe τ vs)[j]? = if j ∈ vs then (if j < τ.length then some none else none) else τ[j]? := by
    intro τ vs
    induction vs with
    | nil => intro j; simp [L2.wipe]
    | cons u vs ih =>
      intro j
      simp only [L2.wipe]
      by_cases e : u = j
      · subst e
        by_cases hj : u < τ.length
        · rw [List.getElem?_set_self (by rw [wipe_length]; exact hj)]; simp [hj]
        · rw [List.getElem?_eq_none (by rw [List.length_set, wipe_length]; omega)]; simp [hj]
      · rw [List.getElem?_set_ne e, ih j]
        have : j ∈ u :: vs ↔ j ∈ vs := by simp [Ne.symm e]
        simp only [this]
  apply List.ext_getElem?
  intro j
  rw [key, key]
  by_cases hj : j ∈ vs
  · simp [hj, hl]
  · rw [if_neg hj, if_neg hj, h j hj, key, if_neg hj]
theorem set_back {α : Type} {l : List α} {v : Nat} {x y : α} (h : l[v]? = some x) : (l.set v y).set v x = l := by
  rw [List.set_set]
  apply List.ext_getElem?
  intro j
  by_cases e : v = j
  · subst e; rw [h]; exact List.getElem?_set_self (List.getElem?_eq_some_iff.mp h).1
  · exact List.getElem?_set_ne e
/-- the outer slots come back -/
theorem Re.restore {F0 H0 : Hp} {fp0 : AS} (h0 : Re K mg F0 H0 ρ σ fp0) (se : Same F0 F) : ∀ {vs : List Nat} {ρ2 : Env} {fp : AS}, plainAt ρ vs = true → (∀ v ∈ vs, v < ρ2.length → ρ2[v]? = some none) → Re K mg F H ρ2 (L2.wipe σ vs) fp → Re K mg F H (Nd.restore ρ vs ρ2) σ fp
  | [], ρ2, fp, hp, hn, h => h
  | v :: vs, ρ2, fp, hp, hn, h => by
    simp only [plainAt, Bool.and_eq_true] at hp
    simp only [Nd.restore]
    have hl2 : ρ2.length = σ.length := by rw [← Re.length h, wipe_length]
    have hl0 : σ.length = ρ.length := Re.length h0
    have hv : v < ρ.length := by
      cases q : ρ[v]? with
      | none => rw [q] at hp; exact nomatch hp.1
      | some oc => exact (List.getElem?_eq_some_iff.mp q).1
    have e2 : ρ2[v]? = some none := hn v List.mem_cons_self (by omega)
    obtain ⟨ov, hov⟩ : ∃ ov, (L2.wipe σ vs)[v]? = some ov := ⟨_, List.getElem?_eq_getElem (by rw [wipe_length]; omega)⟩
    have h1 := Re.plain (oc' := none) (ov' := ov) h e2 (fun _ _ s => s) (fun _ z => z)
    simp only [L2.wipe] at h1
    rw [set_back hov] at h1
    have h2 := Re.restore h0 se (vs := vs) hp.2 (fun u hu hlu => by
      by_cases e : v = u
      · subst e; exact List.getElem?_set_self (by omega)
      · rw [List.getElem?_set_ne e]; exact hn u (List.mem_cons_of_mem _ hu) (by rw [List.length_set] at hlu; exact hlu)) h1
    obtain ⟨oc, hoc⟩ : ∃ oc, ρ[v]? = some oc := ⟨_, List.getElem?_eq_getElem hv⟩
    have hr : (Nd.restore ρ vs (ρ2.set v none))[v]? ≠ none := by
      rw [ne_eq, List.getElem?_eq_none_iff]
      have := Re.length h2
      omega
    obtain ⟨oc2, hoc2⟩ := Option.ne_none_iff_exists'.mp hr
    rw [hoc, Option.getD_some]
    rw [hoc] at hp
    -- what stood there, still does
    obtain ⟨ov0, f1, f2, q1, q2, dj, cv, put⟩ := h0.focus hoc
    have n0 := plain_slot (K := K) (mg := mg) (F := F0) (H := H0) hp.1 ov0 f1 q2
    have back : Slot K mg F H oc ov0 (fun _ => False) := by
      cases oc with
      | none => exact fun _ z => z
      | some c =>
        obtain ⟨v', e, r⟩ := q2
        cases c with
        | val d =>
          simp only [Rc] at r
          exact ⟨v', e, Rc.of_dp (r.1.mono se)⟩
        | tup cs => exact nomatch hp.1
        | lst cs => exact nomatch hp.1
        | dic ks cs => exact nomatch hp.1
        | obj cl ks cs => exact nomatch hp.1
    -- oc2 holds nothing of one's own: it is none or came from ρ
    obtain ⟨ov2, g1, g2, p1, p2, dj2, cv2, put2⟩ := h2.focus hoc2
    have pl2 : ∀ a, ¬ g1 a := by
      have key : ∀ (us : List Nat) (τ : Env), plainAt ρ us = true → τ[v]? = some none → ∀ oc2, (Nd.restore ρ us τ)[v]? = some oc2 → oc2 = none ∨ oc2 = oc := by
        intro us
        induction us with
        | nil => intro τ _ e oc2 e2; simp only [Nd.restore] at e2; rw [e] at e2; exact .inl (Option.some.inj e2).symm
        | cons u us ih =>
          intro τ hp' e oc2 e2
          simp only [plainAt, Bool.and_eq_true] at hp'
          simp only [Nd.restore] at e2
          by_cases eu : u = v
          · subst eu
            have hlt : u < (Nd.restore ρ us (τ.set u none)).length := by
              have := (List.getElem?_eq_some_iff.mp e2).1
              rwa [List.length_set] at this
            rw [List.getElem?_set_self hlt, hoc, Option.getD_some] at e2
            exact .inr (Option.some.inj e2).symm
          · rw [List.getElem?_set_ne eu] at e2
            exact ih (τ.set u none) hp'.2 (by rw [List.getElem?_set_ne eu]; exact e) oc2 e2
      rcases key vs (ρ2.set v none) hp.2 (List.getElem?_set_self (by omega)) oc2 hoc2 with z | z
      · subst z; exact fun a y => p2 a y
      · subst z; exact plain_slot hp.1 ov2 g1 p2
    have fin := put2 oc ov0 F H (fun _ => False) (Same.refl _) (fun _ _ => ⟨rfl, rfl⟩) back (fun _ z => z.elim)
    have e3 : σ.set v ov0 = σ := by
      apply List.ext_getElem?
      intro j
      by_cases e : v = j
      · subst e; rw [q1]; exact List.getElem?_set_self (by omega)
      · exact List.getElem?_set_ne e
    rw [e3] at fin
    exact fin.iff fun a => by
      rw [cv2 a]
      exact ⟨fun z => z.elim (fun y => (pl2 a y).elim) .inr, fun z => z.elim False.elim .inr⟩
/-- the source isn't one of the block's own slots -/
def srcOut (s : Src) (vs : List Nat) : Prop := match s with
  | none => True
  | some (i, _) => i ∉ vs
theorem wipeE_out {vs : List Nat} {i : Nat} (hi : i ∉ vs) : (wipeE ρ vs)[i]? = ρ[i]? := by
  induction vs with
  | nil => rfl
  | cons u vs ih =>
    simp only [wipeE]
    rw [List.getElem?_set_ne (fun e => by subst e; exact hi List.mem_cons_self)]
    exact ih fun z => hi (List.mem_cons_of_mem _ z)
theorem wipeE_length (vs : List Nat) : (wipeE ρ vs).length = ρ.length := by
  induction vs with
  | nil => rfl
  | cons _ _ ih => simp [wipeE, ih]
theorem wipe_out' {vs : List Nat} {i : Nat} (hi : i ∉ vs) : (L2.wipe σ vs)[i]? = σ[i]? := by
  induction vs with
  | nil => rfl
  | cons u vs ih =>
    simp only [L2.wipe]
    rw [List.getElem?_set_ne (fun e => by subst e; exact hi List.mem_cons_self)]
    exact ih fun z => hi (List.mem_cons_of_mem _ z)
/-- W0: in a block no exception leaves -/
abbrev W0 : WX := fun _ _ _ _ => False
theorem gComp_ok {gi : G Itm} {p : Pat} {vs : List Nat} {gt : G Bool} {ge : G Op} (hvs : ∀ j, j ∈ p.slots → j ∈ vs) (hsrc : ∀ ρ it ρ', gi ρ = .ok it ρ' → srcOut it.src vs) {Q : VK} (h : tE K mg W (gComp gi p vs gt ge) σ H Q) :
    tLc (tI K mg W gi) (tGd K mg p) (tT K mg W0 gt) (tO K mg W0 ge) vs σ H Q := by
  obtain ⟨ρ, fp, F, w, h⟩ := h
  refine ⟨ρ, fp, F, w, ?_⟩
  unfold gComp G.bind at h
  cases q : gi ρ with
  | bad => rw [q] at h; exact h
  | ex x ρ' => rw [q] at h; exact h
  | ok it ρ1 =>
    rw [q] at h
    simp only [R.bind_ok] at h
    intro J a F1 H1 fp1 w1 c1 ck1 an1 ok hz D hD
    have hs := hsrc ρ it ρ1 q
    by_cases hpl : plainAt ρ1 vs = true
    · rw [if_pos hpl] at h
      have sF1 := w1.sub.free hD
      -- the block's start
      have x0 : Frs F1 H1 F1 (upd H1 D (.lst [])) := Frs.new w1.sub hD
      have w0 := w1.frs x0
      obtain ⟨fpb, rb, kb⟩ := w0.re.wipe (vs := vs)
      have wb : Wd K mg F1 (upd H1 D (.lst [])) (wipeE ρ1 vs) fpb (L2.wipe σ vs) := ⟨w0.sub, rb⟩
      have Dfp : ¬ fp1 D := fun z => by
        obtain ⟨_, o, e⟩ := w1.re.own D z
        rw [hD] at e; cases e
      have anb : anchor it.src a (L2.wipe σ vs) := by
        cases z : it.src with
        | none => trivial
        | some u =>
          obtain ⟨i, c⟩ := u
          rw [z] at an1 hs
          show (L2.wipe σ vs)[i]? = _
          rw [wipe_out' hs]; exact an1
      have hlen : σ.length = ρ1.length := Re.length w1.re
      have z0 : Chg fpb F1 H1 (fun a => fpb a ∨ a = D) F1 (upd H1 D (.lst [])) := ⟨Same.refl _, fun b o _ e => x0.kp b o e, fun _ _ _ => rfl, fun b y => y.elim .inl fun u => .inr (by rw [u]; exact hD)⟩
      let Inv2 : Nat → List PyData → Env → Hp → Prop := fun i out ρo H' => ∃ ρ' fp' F' acc vacc rest, Wd K mg F' H' ρ' fp' (L2.wipe σ vs) ∧ Chg fpb F1 H1 (fun a => fp' a ∨ a = D) F' H' ∧ (∀ v ∈ vs, v < ρ'.length → ρ'[v]? = some none) ∧ H' D = some (.lst vacc) ∧ F' D = none ∧ ¬ fp' D ∧ DqAll K F' vacc acc ∧ acc.length ≤ i ∧
            compL it.src p vs gt ge (it.ds.drop i) ρ' = .ok rest ρo ∧ acc ++ rest = out
      cases qc : compL it.src p vs gt ge it.ds (wipeE ρ1 vs) with
      | bad => rw [qc] at h; exact h.elim
      | ex x ρ' => rw [qc] at h; exact h.elim
      | ok out ρo =>
        rw [qc] at h
        simp only at h
        refine ⟨fun i m H' => m = it.ds.length - i ∧ i ≤ it.ds.length ∧ Inv2 i out ρo H',
          ⟨_, rfl, Nat.zero_le _, wipeE ρ1 vs, fpb, F1, [], [], out, wb, z0, fun v hv hl => wipeE_at hv (by rw [wipeE_length] at hl; exact hl), upd_same, sF1, fun z => Dfp (kb D z), .nil, Nat.zero_le _, by simpa using qc, by simp⟩, ?_⟩
        rintro i m H2 ⟨rfl, hi, ρ2, fp2, F2, acc, vacc, rest, w2, c2, n2, D2, FD2, fD2, r2, l2, e2, eo⟩
        have s12 : Same F1 F2 := c2.fz
        by_cases hlt : i < it.ds.length
        · right
          rw [List.drop_eq_getElem_cons hlt] at e2
          unfold compL gChk at e2
          by_cases ck : chk it.src ρ2
          · rw [if_pos ck] at e2
            dsimp only at e2
            refine ⟨ok.go ρ2 fp2 F2 H2 _ i w2 ck anb s12 hlt, fun H' => (i + 1 ≤ it.ds.length ∧ Inv2 (i + 1) out ρo H'), fun H' n => ⟨_, by omega, rfl, n⟩, fun x H3 hy => ?_⟩
            obtain ⟨F3, x3, d3⟩ := ok.yld ρ2 fp2 F2 H2 _ i x H3 _ w2 ck anb s12 (List.getElem?_eq_getElem hlt) hy
            cases z : asg p it.ds[i] ρ2 with
            | none => rw [z] at e2; cases e2
            | some ρ3 =>
              rw [z] at e2
              simp only at e2
              refine ⟨ρ2, fp2, F3, it.ds[i], ρ3, w2.frs x3, d3, z, fun σ4 fp4 w4 k4 k4' => ?_⟩
              have we4 : L2.wipe σ4 vs = L2.wipe σ vs := by
                refine wipe_eq ?_ fun j hj => k4' j fun z => hj (hvs j z)
                have l4 := Re.length w4.re
                have l3 := Re.length w2.re
                rw [wipe_length] at l3
                rw [l4, asg_len _ _ _ _ z, ← l3]
              refine ⟨we4, ?_⟩
              have c4 : Chg fp2 F2 H2 fp4 F3 H3 := x3.chg.to k4
              have D3 : H3 D = some (.lst vacc) := x3.kp D _ D2
              have FD3 : F3 D = none := (x3.fn D (by rw [D2]; simp)).trans FD2
              have fD4 : ¬ fp4 D := fun y => fD2 (k4 D y)
              -- D stays what it is through the test and the element
              have stayD : ∀ {fp5 : AS} {F5 H5 : Hp}, Chg fp4 F3 H3 fp5 F5 H5 → H5 D = some (.lst vacc) ∧ F5 D = none ∧ ¬ fp5 D := fun {fp5 F5 H5} c5 =>
                ⟨c5.kp D _ fD4 D3, (c5.fn D fD4 (by rw [D3]; simp)).trans FD3, fun y => (c5.nw D y).elim fD4 fun u => by rw [D3] at u; cases u⟩
              -- the turn's end
              have fin : ∀ {ρ5 : Env} {fp5 : AS} {F5 H5 : Hp} {acc' : List PyData} {vacc' : List V} {rest' : List PyData}, Wd K mg F5 H5 ρ5 fp5 σ4 → Chg fpb F1 H1 (fun a => fp5 a ∨ a = D) F5 H5 → H5 D = some (.lst vacc') → F5 D = none → ¬ fp5 D → DqAll K F5 vacc' acc' → acc'.length ≤ i + 1 →
                  compL it.src p vs gt ge (it.ds.drop (i + 1)) (wipeE ρ5 vs) = .ok rest' ρo → acc' ++ rest' = out →
                  (i + 1 ≤ it.ds.length ∧ Inv2 (i + 1) out ρo H5) := fun {ρ5 fp5 F5 H5 acc' vacc' rest'} w5 c5 D5 FD5 fD5 r5 l5 e5 o5 => by
                obtain ⟨fp6, r6, k6⟩ := w5.re.wipe (vs := vs)
                rw [we4] at r6
                exact ⟨hlt, wipeE ρ5 vs, fp6, F5, acc', vacc', rest', ⟨w5.sub, r6⟩, c5.to fun a y => y.elim (fun u => .inl (k6 a u)) .inr, fun v hv hl => wipeE_at hv (by rw [wipeE_length] at hl; exact hl), D5, FD5, fun y => fD5 (k6 D y), r5, l5, e5, o5⟩
              -- from the turn's start on, D grown or not
              have far : ∀ {fp5 : AS} {F5 H5 H5' : Hp}, Chg fp4 F3 H3 fp5 F5 H5 → (∀ b, b ≠ D → H5' b = H5 b) → Chg fpb F1 H1 (fun a => fp5 a ∨ a = D) F5 H5' := fun {fp5 F5 H5 H5'} c5 hb => by
                have c25 := c4.trans c5
                refine c2.trans ⟨c25.fz, fun b o n e => ?_, fun b n e => c25.fn b (fun u => n (.inl u)) e, fun b y => ?_⟩
                · rw [hb b fun u => n (.inr u)]
                  exact c25.kp b o (fun u => n (.inl u)) e
                · rcases y with y | y
                  · exact (c25.nw b y).elim (fun u => .inl (.inl u)) .inr
                  · exact .inl (.inr y)
              refine tRun w4 (Chg.refl (fp := fp4) (F := F3) (H := H3)) ?_
              cases zt : gt ρ3 with
              | bad => rw [zt] at e2; cases e2
              | ex x ρ' => rw [zt] at e2; cases e2
              | ok b ρ5 =>
                rw [zt] at e2
                simp only [R.bind_ok] at e2
                intro F5 H5 fp5 w5 s5 c5
                have t5 := stayD c5
                cases b with
                | false =>
                  simp only [Bool.false_eq_true, if_false] at e2 ⊢
                  exact fin w5 (far c5 fun _ _ => rfl) t5.1 t5.2.1 t5.2.2 ((r2.mono x3.fz).mono s5) (by omega) e2 eo
                | true =>
                  simp only [if_true] at e2 ⊢
                  refine oRun w5 c5 ?_
                  cases ze : ge ρ5 with
                  | bad => rw [ze] at e2; cases e2
                  | ex x ρ' => rw [ze] at e2; cases e2
                  | ok o ρ6 =>
                    rw [ze] at e2
                    simp only [R.bind_ok] at e2
                    intro y F6 H6 fp6 w6 r6 s6 c6
                    cases o with
                    | s j => cases e2
                    | d y' =>
                      simp only at e2
                      have t6 := stayD c6
                      cases zr : compL it.src p vs gt ge (it.ds.drop (i + 1)) (wipeE ρ6 vs) with
                      | bad => rw [zr] at e2; cases e2
                      | ex x ρ' => rw [zr] at e2; cases e2
                      | ok rest' ρr =>
                        rw [zr] at e2
                        simp only [R.bind_ok, G.ret, R.ok.injEq] at e2
                        obtain ⟨e2, e3⟩ := e2
                        subst e2 e3
                        have racc : DqAll K F6 vacc acc := ((r2.mono x3.fz).mono s5).mono s6
                        refine ⟨vacc, t6.1, ?_, ?_⟩
                        · rw [racc.length]; omega
                        · have nd : ∀ b, b ≠ D → (upd H6 D (.lst (vacc ++ [y]))) b = H6 b := fun b hb => upd_ne hb
                          have sub6 : Same F6 (upd H6 D (.lst (vacc ++ [y]))) := fun b u e => by
                            have hb : b ≠ D := fun z => by rw [z, t6.2.1] at e; cases e
                            rw [nd b hb]; exact w6.sub b u e
                          have w7 : Wd K mg F6 (upd H6 D (.lst (vacc ++ [y]))) ρ6 fp6 σ4 := ⟨sub6, w6.re.frame (Same.refl _) fun b hb => ⟨nd b fun z => t6.2.2 (z ▸ hb), rfl⟩⟩
                          exact fin (acc' := acc ++ [y']) (vacc' := vacc ++ [y]) (rest' := rest') w7 (far c6 nd) upd_same t6.2.1 t6.2.2 (racc.append (.cons r6 .nil)) (by simp; omega) zr (by rw [List.append_assoc]; exact eo)
          · rw [if_neg ck] at e2
            cases e2
        · left
          have e : i = it.ds.length := by omega
          subst e
          rw [List.drop_length] at e2
          unfold compL gChk at e2
          by_cases ck : chk it.src ρ2
          · rw [if_pos ck] at e2
            simp only [G.ret, R.ok.injEq] at e2
            obtain ⟨e2, e3⟩ := e2
            subst e2 e3
            rw [List.append_nil] at eo
            subst eo
            refine ⟨ok.stop ρ2 fp2 F2 H2 _ w2 ck anb s12, ?_⟩
            refine h (.ref D) F2 H2 fp2 (fun a => a = D) ⟨w2.sub, Re.restore w1.re s12 hpl n2 w2.re⟩ ?_ (fun a y u => fD2 (y ▸ u)) ?_
            · simp only [mkL, Rc]
              exact ⟨D, vacc, fun _ => False, rfl, D2, FD2, Rcs_vals r2, id, fun b => by simp⟩
            · have c2' : Chg fp1 F1 H1 (fun a => fp2 a ∨ a = D) F2 H2 := ⟨c2.fz, fun b o n e => c2.kp b o (fun u => n (kb b u)) e, fun b n e => c2.fn b (fun u => n (kb b u)) e, fun b y => (c2.nw b y).imp (kb b) id⟩
              exact c1.trans c2'
          · rw [if_neg ck] at e2
            cases e2
    · rw [if_neg hpl] at h
      exact h.elim
end
end Nd

/-! Nd7: what is walked; items, slices, kinds, lengths. -/
namespace Nd
open PySem L2
/-- what stands in lists and tuples has a bounded length -/
def tSized (K : Frag) (t : TE) : TE := fun σ H Q => t σ H fun x H1 => (∀ a xs, x = .ref a → (SqL K H1 a xs ∨ SqT K H1 a xs) → xs.length ≤ sizeLine) → Q x H1
theorem _root_.L2.PE.sized {X : Cx} {e : Expr} {t : TE} (h : PE X e t) : PE X e (tSized X.K t) := ⟨fun pins s σ H Q I hw => thn (h.run pins s σ H _ I hw) fun u s1 ⟨x, H1, I1, r, q⟩ => ⟨x, H1, I1, r, q fun a xs e hs => by
  rcases hs with hs | hs
  · obtain ⟨its, _, _, z⟩ := I1.list hs
    exact z
  · obtain ⟨its, _, _, z⟩ := I1.tuple hs
    exact z⟩⟩
def signs (z : Str) : List PyData := z.cps.toList.map fun c => .str ⟨#[c]⟩
def items : PyData → Option (List PyData)
  | .list ds => some ds
  | .tuple ds => some ds
  | .str z => if lenOk z.length = true then some (signs z) else none
  | _ => none
section
variable [TF] {X : Cx} {K : Frag} {mg : Str → Option Value} {W : WX} {F H F0 H0 : Hp} {ρ : Env} {fp fp0 : AS} {σ σ0 : St} {v : V}
theorem itOk_list {a : Addr} {vs : List V} {ds : List PyData} (s : SqL K F a vs) (r : DqAll K F vs ds) : ItOk K mg none a F ds (Itl K a) where
  go := fun ρ fp F' H' σ i w _ _ se hi => by
    have hi' : i < vs.length := by rw [r.length]; exact hi
    exact ⟨vs, vs[i], w.sub.seq (se.seq s), List.getElem?_eq_getElem hi'⟩
  yld := fun ρ fp F' H' σ i x H2 d w _ _ se hd hy => by
    obtain ⟨rfl, hx⟩ := hy
    obtain ⟨u, e, q⟩ := r.get hd
    have := hx vs (w.sub.seq (se.seq s))
    rw [e] at this
    cases this
    exact ⟨F', Frs.refl w.sub, q.mono se⟩
  stop := fun ρ fp F' H' σ w _ _ se => ⟨vs, w.sub.seq (se.seq s), by rw [r.length]; exact Nat.le_refl _⟩
theorem itOk_tup {a : Addr} {vs : List V} {ds : List PyData} (s : SqT K F a vs) (r : DqAll K F vs ds) : ItOk K mg none a F ds (Itt K a) where
  go := fun ρ fp F' H' σ i w _ _ se hi => by
    have hi' : i < vs.length := by rw [r.length]; exact hi
    exact ⟨vs, vs[i], SqT.mono w.sub (SqT.mono se s), List.getElem?_eq_getElem hi'⟩
  yld := fun ρ fp F' H' σ i x H2 d w _ _ se hd hy => by
    obtain ⟨rfl, hx⟩ := hy
    obtain ⟨u, e, q⟩ := r.get hd
    have := hx vs (SqT.mono w.sub (SqT.mono se s))
    rw [e] at this
    cases this
    exact ⟨F', Frs.refl w.sub, q.mono se⟩
  stop := fun ρ fp F' H' σ w _ _ se => ⟨vs, SqT.mono w.sub (SqT.mono se s), by rw [r.length]; exact Nat.le_refl _⟩
theorem itOk_own {i : Nat} {cs : List C} {a : Addr} {ds : List PyData} (e : vals cs = some ds) : ItOk K mg (some (i, .lst cs)) a F ds (Itl K a) := by
  have key : ∀ {ρ : Env} {fp : AS} {F' H' : Hp} {σ : St}, Wd K mg F' H' ρ fp σ → chk (some (i, .lst cs)) ρ → anchor (some (i, .lst cs)) a σ → ∃ vs, SqL K H' a vs ∧ DqAll K F' vs ds := fun {ρ fp F' H' σ} w ck an => by
    obtain ⟨ov, f1, f2, q1, ⟨v, q2, q3⟩, _⟩ := w.re.focus ck
    have an' : σ[i]? = some (some (.ref a)) := an
    rw [q1, q2] at an'
    cases an'
    simp only [Rc] at q3
    obtain ⟨a', vs, f', h1, h2, h3, h4, h5, h6⟩ := q3
    cases h1
    exact ⟨vs, .of h2, vals_sh h4 e⟩
  refine ⟨fun ρ fp F' H' σ j w ck an se hi => ?_, fun ρ fp F' H' σ j x H2 d w ck an se hd hy => ?_, fun ρ fp F' H' σ w ck an se => ?_⟩
  · obtain ⟨vs, s, r⟩ := key w ck an
    have hi' : j < vs.length := by rw [r.length]; exact hi
    exact ⟨vs, vs[j], s, List.getElem?_eq_getElem hi'⟩
  · obtain ⟨vs, s, r⟩ := key w ck an
    obtain ⟨rfl, hx⟩ := hy
    obtain ⟨u, e, q⟩ := r.get hd
    have := hx vs s
    rw [e] at this
    cases this
    exact ⟨F', Frs.refl w.sub, q⟩
  · obtain ⟨vs, s, r⟩ := key w ck an
    exact ⟨vs, s, by rw [r.length]; exact Nat.le_refl _⟩
theorem strOk_mem {z : Str} (h : PyData.canLay0 (.str z) = true) {c : Nat} (m : c ∈ z.cps.toList) : PyData.canLay0 (.str ⟨#[c]⟩) = true := by
  simp only [PyData.canLay0, PyData.strOk, Array.all_eq_true', decide_eq_true_eq] at h ⊢
  intro x hx
  have e : x = c := by simpa using hx
  subst e
  exact h x (by simpa using m)
theorem itOk_str {z : Str} (h : PyData.canLay0 (.str z) = true) : ItOk K mg none 0 F (signs z) (Its z) where
  go := fun ρ fp F' H' σ i w _ _ se hi => by
    have : i < z.cps.toList.length := by simpa [signs] using hi
    show i < z.cps.size
    simpa using this
  yld := fun ρ fp F' H' σ i x H2 d w _ _ se hd hy => by
    obtain ⟨rfl, c, hc, rfl⟩ := hy
    simp only [signs, List.getElem?_map] at hd
    have hc' : z.cps.toList[i]? = some c := by simpa using hc
    rw [hc'] at hd
    cases hd
    exact ⟨F', Frs.refl w.sub, .str (strOk_mem h (List.mem_of_getElem? hc'))⟩
  stop := fun ρ fp F' H' σ w _ _ se => by
    show z.cps.size ≤ _
    simp [signs]
/-- an operand walked: its items -/
def gItems (g : G Op) : G Itm := G.bind g fun o ρ => match o with
  | .d d => match items d with
    | some ds => .ok ⟨ds, none⟩ ρ
    | none => .bad
  | .s i => match ρ[i]? with
    | some (some (.val d)) => match items d with
      | some ds => .ok ⟨ds, none⟩ ρ
      | none => .bad
    | some (some (.lst cs)) => match vals cs with
      | some ds => .ok ⟨ds, some (i, .lst cs)⟩ ρ
      | none => .bad
    | _ => .bad
theorem sized_mono {t : TE} {σ : St} {H : Hp} {Q : VK} (h : t σ H fun x H1 => (∀ a xs, x = .ref a → (SqL K H1 a xs ∨ SqT K H1 a xs) → xs.length ≤ sizeLine) → Q x H1) : tSized K t σ H Q := h
theorem i_op {tg l : Expr} {g : G Op} (hl : PE X l (tO X.K mg W g)) : PI X tg l (tI X.K mg W (gItems g)) := by
  refine ⟨fun pins s σ H Rr I h => ?_⟩
  obtain ⟨ρ, fp, F, w, h⟩ := h
  unfold gItems G.bind at h
  -- frozen data
  have dat : ∀ {d : PyData} {ρ' : Env} {o : Op}, g ρ = .ok o ρ' → (∀ v F' H' fp', Wd X.K mg F' H' ρ' fp' σ → Ro X.K F' σ o v → Dq X.K F' v d) →
      (match items d with
        | some ds => ∀ J a F' H' fp', Wd X.K mg F' H' ρ' fp' σ → Chg fp F H fp' F' H' → ItOk X.K mg none a F' ds J → ds.length ≤ sizeLine → Rr J H'
        | none => False) →
      wpAny (model X.prog X.w) X.A (eval l X.env) (fun v s1 => wpAny (model X.prog X.w) X.A (pyIter v) (PIE X pins σ tg Rr) X.xe s1) X.xe s := fun {d ρ' o} eg ro hh => by
    have run : ∀ {Q : VK}, (∀ v F' H' fp', Wd X.K mg F' H' ρ' fp' σ → Dq X.K F' v d → Chg fp F H fp' F' H' → (∀ a xs, v = .ref a → (SqL X.K H' a xs ∨ SqT X.K H' a xs) → xs.length ≤ sizeLine) → Q v H') → tSized X.K (tO X.K mg W g) σ H Q := fun {Q} k =>
      ⟨ρ, fp, F, w, by rw [eg]; exact fun v F' H' fp' w' r c sz => k v F' H' fp' w' (ro v F' H' fp' w' r) c sz⟩
    cases d with
    | list ds =>
      simp only [items] at hh
      refine (pi_list hl.sized).run pins s σ H Rr I (run fun v F' H' fp' w' r c sz => ?_)
      obtain ⟨a, vs, e, s1, r1⟩ := r.list_inv
      have s2 := w'.sub.seq s1
      exact ⟨a, e, ⟨vs, s2⟩, hh _ a F' H' fp' w' c (itOk_list s1 r1) (by rw [← r1.length]; exact sz a vs e (.inl s2))⟩
    | tuple ds =>
      simp only [items] at hh
      refine (pi_tup hl.sized).run pins s σ H Rr I (run fun v F' H' fp' w' r c sz => ?_)
      obtain ⟨a, vs, e, s1, r1⟩ := r.tup_inv
      have s2 := SqT.mono w'.sub s1
      exact ⟨a, e, ⟨vs, s2⟩, hh _ a F' H' fp' w' c (itOk_tup s1 r1) (by rw [← r1.length]; exact sz a vs e (.inr s2))⟩
    | str z =>
      simp only [items] at hh
      by_cases hz : lenOk z.length = true
      · rw [if_pos hz] at hh
        refine (pi_str hl.sized).run pins s σ H Rr I (run fun v F' H' fp' w' r c sz => ?_)
        obtain ⟨e, lay⟩ := r.str_inv
        refine ⟨z, e, hh _ 0 F' H' fp' w' c (itOk_str lay) ?_⟩
        have := of_decide_eq_true hz
        simpa [signs, Str.length] using this
      · rw [if_neg hz] at hh
        exact hh.elim
    | none => exact hh.elim
    | bool b => exact hh.elim
    | int i => exact hh.elim
    | dict ds => exact hh.elim
  cases q : g ρ with
  | bad => rw [q] at h; exact h.elim
  | ex x ρ' =>
    rw [q] at h
    exact (pi_list hl).run pins s σ H Rr I ⟨ρ, fp, F, w, by rw [q]; exact h⟩
  | ok o ρ1 =>
    rw [q] at h
    simp only [R.bind_ok] at h
    cases o with
    | d d =>
      dsimp only at h
      refine dat q (fun v F' H' fp' _ r => r) ?_
      cases z : items d with
      | none => rw [z] at h; exact h.elim
      | some ds => rw [z] at h; exact fun J a F' H' fp' w' c ok hz => h J a F' H' fp' w' c trivial trivial ok hz
    | s i =>
      simp only at h
      cases z : ρ1[i]? with
      | none => rw [z] at h; exact h.elim
      | some oc =>
        cases oc with
        | none => rw [z] at h; exact h.elim
        | some c =>
          rw [z] at h
          cases c with
          | val d =>
            refine dat (d := d) q (fun v F' H' fp' w' r => ?_) ?_
            · obtain ⟨ov, f1, f2, q1, ⟨v', q2, q3⟩, _⟩ := w'.re.focus z
              have r' : σ[i]? = some (some v) := r
              rw [q1, q2] at r'
              cases r'
              simp only [Rc] at q3
              exact q3.1
            · simp only at h
              cases z : items d with
              | none => rw [z] at h; exact h.elim
              | some ds => rw [z] at h; exact fun J a F' H' fp' w' c ok hz => h J a F' H' fp' w' c trivial trivial ok hz
          | lst cs =>
            simp only at h
            cases zv : vals cs with
            | none => rw [zv] at h; exact h.elim
            | some ds =>
              rw [zv] at h
              refine (pi_list hl.sized).run pins s σ H Rr I ⟨ρ, fp, F, w, by
                rw [q]
                intro v F' H' fp' w' r c sz
                obtain ⟨ov, f1, f2, q1, ⟨v', q2, q3⟩, _⟩ := w'.re.focus z
                have r' : σ[i]? = some (some v) := r
                rw [q1, q2] at r'
                cases r'
                simp only [Rc] at q3
                obtain ⟨a, vs, f', h1, h2, h3, h4, h5, h6⟩ := q3
                have r1 := vals_sh h4 zv
                exact ⟨a, h1, ⟨vs, .of h2⟩, h (Itl X.K a) a F' H' fp' w' c z (show σ[i]? = some (some (.ref a)) by rw [← h1]; exact r) (itOk_own zv) (by rw [← r1.length]; exact sz a vs h1 (.inl (.of h2)))⟩⟩
          | tup cs => exact h.elim
          | dic ks cs => exact h.elim
          | obj cl ks cs => exact h.elim
/-- where the source is -/
theorem src_slot {i : Nat} {T : Src → Prop} (h0 : T none) (h : ∀ c, T (some (i, c))) : ∀ ρ it ρ', gItems (gSlot i) ρ = .ok it ρ' → T it.src := by
  intro ρ it ρ' e
  simp only [gItems, gSlot, G.bind] at e
  cases z : ρ[i]? with
  | none => rw [z] at e; cases e
  | some oc =>
    cases oc with
    | none => rw [z] at e; cases e
    | some c =>
      rw [z] at e
      simp only [R.bind_ok, z] at e
      cases c with
      | val d =>
        simp only at e
        cases y : items d with
        | none => rw [y] at e; cases e
        | some ds => rw [y] at e; cases e; exact h0
      | lst cs =>
        simp only at e
        cases y : vals cs with
        | none => rw [y] at e; cases e
        | some ds => rw [y] at e; cases e; exact h _
      | tup cs => cases e
      | dic ks cs => cases e
      | obj cl ks cs => cases e
theorem src_fz {g : G C} {T : Src → Prop} (h0 : T none) : ∀ ρ it ρ', gItems (gFz g) ρ = .ok it ρ' → T it.src := by
  intro ρ it ρ' e
  unfold gItems gFz G.bind at e
  cases z : g ρ with
  | bad => rw [z] at e; cases e
  | ex x ρ1 => rw [z] at e; cases e
  | ok c ρ1 =>
    rw [z] at e
    simp only [R.bind_ok] at e
    cases y : fz c with
    | none => rw [y] at e; cases e
    | some d =>
      rw [y] at e
      simp only [G.ret, R.bind_ok] at e
      cases u : items d with
      | none => rw [u] at e; cases e
      | some ds => rw [u] at e; cases e; exact h0

/-! ### range -/
def rng (n : Nat) (lo : Int) : List PyData := (List.range n).map fun k => .int (lo + (k : Nat))
theorem itOk_rng {n : Nat} {lo : Int} : ItOk K mg none 0 F (rng n lo) (Itr lo n) where
  go := fun ρ fp F' H' σ i w _ _ se hi => by
    show i < n
    simpa [rng] using hi
  yld := fun ρ fp F' H' σ i x H2 d w _ _ se hd hy => by
    obtain ⟨rfl, rfl⟩ := hy
    simp only [rng, List.getElem?_map] at hd
    by_cases hi : i < n
    · rw [List.getElem?_range hi] at hd
      cases hd
      exact ⟨F', Frs.refl w.sub, .int _⟩
    · rw [List.getElem?_eq_none (by simpa using hi)] at hd
      cases hd
  stop := fun ρ fp F' H' σ w _ _ se => by
    show n ≤ _
    simp [rng]
def rng1 : List PyData → Option Int
  | [.int j] => if decide (-(2 ^ 62) ≤ j ∧ j ≤ 16777216) = true then some j else none
  | _ => none
theorem rng1_eq {ds : List PyData} {j : Int} (h : rng1 ds = some j) : ds = [.int j] ∧ -(2 ^ 62) ≤ j ∧ j ≤ 16777216 := by
  unfold rng1 at h
  split at h
  · split at h
    · rename_i hb
      cases h
      exact ⟨rfl, of_decide_eq_true hb⟩
    · cases h
  · cases h
def gRng1 (g : G (List Op)) : G Itm := G.bind g fun os ρ => match (derefs ρ os).bind rng1 with
  | some j => .ok ⟨rng j.toNat 0, none⟩ ρ
  | none => .bad
theorem i_range1 {tg a : Expr} {gs : List (G Op)} {p pos : Pos} (hg : Gl X "range") (hm : X.mg "range" = none) (ha : PA X [a] (tOs X.K mg W (gOs gs))) (hs : starEach [a] X.env = [(false, eval a X.env)] := by rfl) : PI X tg (.Call (.Name "range" p) [a] [] pos) (tI X.K mg W (gRng1 (gOs gs))) := by
  refine ⟨fun pins s σ H Rr I h => ?_⟩
  refine (pi_range1 hg hm ha hs).run pins s σ H Rr I ?_
  obtain ⟨ρ, fp, F, w, h⟩ := h
  unfold gRng1 G.bind at h
  refine osRun w Chg.refl ?_
  cases q : gOs gs ρ with
  | bad => rw [q] at h; exact h.elim
  | ex x ρ' => rw [q] at h; exact h
  | ok os ρ1 =>
    rw [q] at h
    simp only [R.bind_ok] at h
    intro vs F1 H1 fp1 w1 r1 s1 c1
    cases z : derefs ρ1 os with
    | none => rw [z] at h; exact h.elim
    | some ds =>
      rw [z] at h
      have sh := derefs_sh w1 r1 z
      simp only [Option.bind_some] at h
      cases y : rng1 ds with
      | none => rw [y] at h; exact h.elim
      | some j =>
        rw [y] at h
        obtain ⟨e, b1, b2⟩ := rng1_eq y
        subst e
        cases vs with
        | nil => cases sh
        | cons v vs =>
          obtain ⟨d, r, e1, e2, e3⟩ := sh
          cases e1
          cases vs with
          | cons _ _ => obtain ⟨_, _, e1, _⟩ := e3; cases e1
          | nil =>
            refine ⟨j, by rw [e2.int], b1, by omega, h _ 0 F1 H1 fp1 w1 c1 trivial trivial itOk_rng ?_⟩
            simp only [rng, List.length_map, List.length_range]
            rw [sizeLine_eq]
            omega
theorem src_rng1 {g : G (List Op)} {T : Src → Prop} (h0 : T none) : ∀ ρ it ρ', gRng1 g ρ = .ok it ρ' → T it.src := by
  intro ρ it ρ' e
  unfold gRng1 G.bind at e
  cases z : g ρ with
  | bad => rw [z] at e; cases e
  | ex x ρ1 => rw [z] at e; cases e
  | ok c ρ1 =>
    rw [z] at e
    simp only [R.bind_ok] at e
    split at e
    · cases e; exact h0
    · cases e
end
end Nd

/-! Nd8: defs and their calls. -/
namespace Nd
open PySem L2

inductive RF where
  | ok (r : C) (cs : List C)
  | ex (x : Xc) (cs : List C)
  | bad
/-- a def's meaning: what its arguments hold, ahead and behind; its answer -/
abbrev Fn := List C → RF
section
variable [TF] (K : Frag) (mg : Str → Option Value)
def SpOf (n : Nat) (f : Fn) : Sp := fun vs H Q E => ∃ F cs fp, vs.length = n ∧ Same F H ∧ Rct K mg F H cs vs fp ∧
  match f cs with
  | .ok r cs' => ∀ v F' H' fp' fv, Same F' H' → Rct K mg F' H' cs' vs fp' → Rc K mg F' H' r v fv → (∀ a, fv a → ¬ fp' a) → Chg fp F H (fun a => fp' a ∨ fv a) F' H' → Q v H'
  | .ex x cs' => ∀ cls dd F' H' fp', Same F' H' → Rct K mg F' H' cs' vs fp' → Chg fp F H fp' F' H' → Xr mg x cls dd H' → E cls dd H'
  | .bad => False
end
/-- an argument: a value of its own, or a slot that is lent -/
inductive Arg where
  | c (c : C)
  | s (i : Nat)
def lent : List Arg → List Nat
  | [] => []
  | .c _ :: r => lent r
  | .s i :: r => i :: lent r
def conts (ρ : Env) : List Arg → Option (List C)
  | [] => some []
  | .c c :: r => (conts ρ r).map (c :: ·)
  | .s i :: r => match ρ[i]?, conts ρ r with
    | some (some c), some cs => some (c :: cs)
    | _, _ => none
def lendE (ρ : Env) : List Arg → Env
  | [] => ρ
  | .c _ :: r => lendE ρ r
  | .s i :: r => (lendE ρ r).set i none
def backE : List Arg → List C → Env → Env
  | .c _ :: r, _ :: cs, ρ => backE r cs ρ
  | .s i :: r, c :: cs, ρ => (backE r cs ρ).set i (some c)
  | _, _, ρ => ρ
section
variable [TF] (K : Frag) (mg : Str → Option Value)
def Ras (F H : Hp) (σ : St) : List Arg → List V → AS → Prop
  | [], vs, fv => vs = [] ∧ ∀ a, ¬ fv a
  | .c c :: as, vs, fv => ∃ v r f1 f2, vs = v :: r ∧ Rc K mg F H c v f1 ∧ Ras F H σ as r f2 ∧ (∀ a, f1 a → ¬ f2 a) ∧ ∀ a, fv a ↔ f1 a ∨ f2 a
  | .s i :: as, vs, fv => ∃ v r, vs = v :: r ∧ σ[i]? = some (some v) ∧ Ras F H σ as r fv
def tAs (W : WX) (g : G (List Arg)) : TA := fun σ H Q => ∃ ρ fp F, Wd K mg F H ρ fp σ ∧
  match g ρ with
  | .ok as ρ' => ∀ vs F' H' fp' fv, Wd K mg F' H' ρ' fp' σ → Ras K mg F' H' σ as vs fv → (∀ a, fv a → ¬ fp' a) → Chg fp F H (fun a => fp' a ∨ fv a) F' H' → Q vs H'
  | .ex x ρ' => exPost K mg W F H fp σ x ρ'
  | .bad => False
end
section
variable [TF] {X : Cx} {K : Frag} {mg : Str → Option Value} {W : WX} {F H F' H' F0 H0 : Hp} {ρ : Env} {fp fp0 : AS} {σ σ0 : St}
theorem Ras.own : ∀ {as : List Arg} {vs : List V} {fv : AS}, Ras K mg F H σ as vs fv → ∀ a, fv a → F a = none ∧ ∃ o, H a = some o
  | [], vs, fv, h, a, z => (h.2 a z).elim
  | .c c :: as, vs, fv, h, a, z => by
    obtain ⟨v, r, f1, f2, h1, h2, h3, h4, h5⟩ := h
    rcases (h5 a).mp z with y | y
    · exact Rc.own h2 a y
    · exact Ras.own h3 a y
  | .s i :: as, vs, fv, h, a, z => by
    obtain ⟨v, r, h1, h2, h3⟩ := h
    exact Ras.own h3 a z
theorem Ras.frame (e : Same F F') : ∀ {as : List Arg} {vs : List V} {fv : AS}, Ras K mg F H σ as vs fv → (∀ a, fv a → H' a = H a ∧ F' a = F a) → Ras K mg F' H' σ as vs fv
  | [], vs, fv, h, k => h
  | .c c :: as, vs, fv, h, k => by
    obtain ⟨v, r, f1, f2, h1, h2, h3, h4, h5⟩ := h
    exact ⟨v, r, f1, f2, h1, h2.frame e fun a z => k a ((h5 a).mpr (.inl z)), Ras.frame e h3 fun a z => k a ((h5 a).mpr (.inr z)), h4, h5⟩
  | .s i :: as, vs, fv, h, k => by
    obtain ⟨v, r, h1, h2, h3⟩ := h
    exact ⟨v, r, h1, h2, Ras.frame e h3 k⟩
def gAs : List (G Arg) → G (List Arg)
  | [] => G.ret []
  | g :: gs => G.bind g fun o => G.bind (gAs gs) fun os => G.ret (o :: os)
def gArg (g : G C) : G Arg := G.bind g fun c => G.ret (.c c)
def gLent (i : Nat) : G Arg := fun ρ => match ρ[i]? with
  | some (some _) => .ok (.s i) ρ
  | _ => .bad
theorem as_nil : PA X [] (tAs K mg W (gAs [])) := pa_nil.imp fun σ H Q h => by
  obtain ⟨ρ, fp, F, w, h⟩ := h
  exact h [] F H fp (fun _ => False) w ⟨rfl, fun _ z => z⟩ (fun _ z => z.elim) Chg.refl.or_false
theorem asRun {g : G (List Arg)} {Q : List V → Hp → Prop} (w : Wd K mg F H ρ fp σ) (ch : Chg fp0 F0 H0 fp F H)
    (h : match g ρ with
      | .ok c ρ' => ∀ v F' H' fp' fv, Wd K mg F' H' ρ' fp' σ → Ras K mg F' H' σ c v fv → (∀ a, fv a → ¬ fp' a) → Chg fp F H (fun a => fp' a ∨ fv a) F' H' → Chg fp0 F0 H0 (fun a => fp' a ∨ fv a) F' H' → Q v H'
      | .ex x ρ' => exPost K mg W F0 H0 fp0 σ x ρ'
      | .bad => False) : tAs K mg W g σ H Q := by
  refine ⟨ρ, fp, F, w, ?_⟩
  cases q : g ρ with
  | bad => rw [q] at h; exact h.elim
  | ex x ρ' => rw [q] at h; exact exPost.of ch h
  | ok o ρ' =>
    rw [q] at h
    exact fun v F' H' fp' fv w' r dj c => h v F' H' fp' fv w' r dj c (ch.trans c)
theorem as_val {e : Expr} {es : List Expr} {g : G C} {gs : List (G Arg)} (ha : PE X e (tE K mg W g)) (hr : PA X es (tAs K mg W (gAs gs))) (hs : starEach (e :: es) X.env = (false, eval e X.env) :: starEach es X.env := by rfl) :
    PA X (e :: es) (tAs K mg W (gAs (gArg g :: gs))) := (pa_cons ha hr hs).imp fun σ H Q h => by
  obtain ⟨ρ, fp, F, w, h⟩ := h
  simp only [gAs, gArg, G.bind] at h
  refine eRun w Chg.refl ?_
  cases q : g ρ with
  | bad => rw [q] at h; exact h.elim
  | ex x ρ' => rw [q] at h; exact h
  | ok o ρ1 =>
    rw [q] at h
    simp only [R.bind_ok, G.bind_at, G.ret] at h
    intro v F1 H1 fp1 fv1 w1 r1 d1 c1 _
    refine asRun w1 (c1.to fun a => .inl) ?_
    cases q2 : gAs gs ρ1 with
    | bad => rw [q2] at h; exact h.elim
    | ex x ρ' => rw [q2] at h; exact h
    | ok os ρ2 =>
      rw [q2] at h
      intro vs F2 H2 fp2 fv2 w2 r2 d2 c2 c2'
      obtain ⟨k1, k2⟩ := c2.aside (fv := fv1) (fun a z => (Rc.own r1 a z).2) d1
      refine h (v :: vs) F2 H2 fp2 (fun a => fv1 a ∨ fv2 a) w2 ⟨v, vs, fv1, fv2, rfl, r1.frame c2.fz k1, r2, fun a y u => k2 a y (.inr u), fun a => Iff.rfl⟩ (fun a z => z.elim (fun y u => k2 a y (.inl u)) (d2 a)) ⟨c2'.fz, c2'.kp, c2'.fn, fun a z => ?_⟩
      rcases z with z | z | z
      · exact c2'.nw a (.inl z)
      · exact c1.nw a (.inr z)
      · exact c2'.nw a (.inr z)
theorem as_lent {es : List Expr} {gs : List (G Arg)} (i : Nat) {x : Str} {pos : Pos} (hr : PA X es (tAs K mg W (gAs gs))) (hN : X.N[i]? = some x := by rfl) (hv : Vis X.env.scope x := by first | exact Or.inl rfl | exact Or.inr (Or.inl rfl) | exact Or.inr (Or.inr rfl))
    (hd : (x == ("__debug__" : Str)) = false := by decide) (hcd : (x == ("__classdict__" : Str)) = false := by decide) (hs : starEach (.Name x pos :: es) X.env = (false, eval (.Name x pos) X.env) :: starEach es X.env := by rfl) :
    PA X (.Name x pos :: es) (tAs K mg W (gAs (gLent i :: gs))) := (pa_cons (pe_var hN hv hd hcd) hr hs).imp fun σ H Q h => by
  obtain ⟨ρ, fp, F, w, h⟩ := h
  simp only [gAs, G.bind, gLent] at h
  cases q : ρ[i]? with
  | none => rw [q] at h; exact h.elim
  | some oc =>
    cases oc with
    | none => rw [q] at h; exact h.elim
    | some c =>
      simp only [q, R.bind_ok, G.bind_at] at h
      obtain ⟨ov, f1, f2, q1, ⟨v, q2, q3⟩, dj, cv, put⟩ := w.re.focus q
      subst q2
      refine ⟨v, q1, ?_⟩
      refine asRun w Chg.refl ?_
      cases q2 : gAs gs ρ with
      | bad => rw [q2] at h; exact h.elim
      | ex x ρ' => rw [q2] at h; exact h
      | ok os ρ2 =>
        rw [q2] at h
        intro vs F2 H2 fp2 fv2 w2 r2 d2 c2 c2'
        exact h (v :: vs) F2 H2 fp2 fv2 w2 ⟨v, vs, rfl, q1, r2⟩ d2 c2'

/-! ### lending -/
theorem lendE_out : ∀ {as : List Arg} {i : Nat}, i ∉ lent as → (lendE ρ as)[i]? = ρ[i]?
  | [], i, h => rfl
  | .c c :: as, i, h => lendE_out (as := as) h
  | .s j :: as, i, h => by
    simp only [lent, List.mem_cons, not_or] at h
    simp only [lendE]
    rw [List.getElem?_set_ne (Ne.symm h.1)]
    exact lendE_out h.2
theorem lendE_length : ∀ {as : List Arg}, (lendE ρ as).length = ρ.length
  | [] => rfl
  | .c c :: as => lendE_length (as := as)
  | .s j :: as => by simp [lendE, lendE_length (as := as)]
theorem lend : ∀ {as : List Arg} {vs : List V} {fv : AS} {cs : List C}, Re0 K mg F H ρ σ fp → Ras K mg F H σ as vs fv → (∀ a, fv a → ¬ fp a) → (lent as).Nodup → conts ρ as = some cs →
    ∃ fpa fp0, Rcs K mg F H cs vs fpa ∧ Re0 K mg F H (lendE ρ as) σ fp0 ∧ (∀ a, fpa a → ¬ fp0 a) ∧ (∀ a, fpa a → fp a ∨ fv a) ∧ (∀ a, fp0 a → fp a) ∧ (∀ a, fp a → fpa a ∨ fp0 a) ∧ ∀ a, fv a → fpa a
  | [], vs, fv, cs, w, r, d, nd, e => by
    simp only [conts, Option.some.injEq] at e
    subst e
    obtain ⟨rfl, n⟩ := r
    exact ⟨fun _ => False, fp, by simp only [Rcs]; exact ⟨trivial, fun _ z => z⟩, w, fun _ z => z.elim, fun _ z => z.elim, fun _ z => z, fun _ z => .inr z, fun a z => (n a z).elim⟩
  | .c c :: as, vs, fv, cs, w, r, d, nd, e => by
    obtain ⟨v, vr, f1, f2, h1, h2, h3, h4, h5⟩ := r
    simp only [conts] at e
    cases q : conts ρ as with
    | none => rw [q] at e; cases e
    | some cr =>
      rw [q] at e
      cases e
      obtain ⟨fpa, fp0, k1, k2, k3, k4, k5, k6, k7⟩ := lend w h3 (fun a z => d a ((h5 a).mpr (.inr z))) nd q
      have n1 : ∀ a, f1 a → ¬ fpa a := fun a z y => (k4 a y).elim (d a ((h5 a).mpr (.inl z))) (h4 a z)
      refine ⟨fun a => f1 a ∨ fpa a, fp0, ?_, k2, fun a z y => ?_, fun a z => ?_, k5, fun a z => (k6 a z).imp .inr id, fun a z => ((h5 a).mp z).imp id (k7 a)⟩
      · simp only [Rcs]
        exact ⟨v, vr, f1, fpa, h1, h2, k1, n1, fun _ => Iff.rfl⟩
      · rcases z with z | z
        · exact d a ((h5 a).mpr (.inl z)) (k5 a y)
        · exact k3 a z y
      · rcases z with z | z
        · exact .inr ((h5 a).mpr (.inl z))
        · exact (k4 a z).imp id fun u => (h5 a).mpr (.inr u)
  | .s i :: as, vs, fv, cs, w, r, d, nd, e => by
    obtain ⟨v, vr, h1, h2, h3⟩ := r
    simp only [lent, List.nodup_cons] at nd
    simp only [conts] at e
    cases q0 : ρ[i]? with
    | none => rw [q0] at e; cases e
    | some oc =>
      cases oc with
      | none => rw [q0] at e; cases e
      | some c =>
        cases q : conts ρ as with
        | none => rw [q0, q] at e; cases e
        | some cr =>
          rw [q0, q] at e
          cases e
          obtain ⟨fpa, fp0, k1, k2, k3, k4, k5, k6, k7⟩ := lend w h3 d nd.2 q
          have qi : (lendE ρ as)[i]? = some (some c) := (lendE_out nd.1).trans q0
          obtain ⟨ov, f1, f2, p1, ⟨v', p2, p3⟩, dj, cv, put⟩ := k2.focus qi
          subst p2
          rw [h2] at p1
          cases p1
          have e1 : σ.set i (some v) = σ := by
            apply List.ext_getElem?
            intro j
            by_cases hj : i = j
            · subst hj; rw [h2]; exact List.getElem?_set_self (List.getElem?_eq_some_iff.mp h2).1
            · exact List.getElem?_set_ne hj
          have re := put none (some v) F H (fun _ => False) (Same.refl _) (fun _ _ => ⟨rfl, rfl⟩) (fun _ z => z) (fun _ z => z.elim)
          rw [e1] at re
          refine ⟨fun a => f1 a ∨ fpa a, fun a => False ∨ f2 a, ?_, re, fun a z y => ?_, fun a z => ?_, fun a z => ?_, fun a z => ?_, fun a z => .inr (k7 a z)⟩
          · simp only [Rcs]
            exact ⟨v, vr, f1, fpa, h1, p3, k1, fun a y u => k3 a u ((cv a).mpr (.inl y)), fun _ => Iff.rfl⟩
          · rcases y with y | y
            · exact y
            · rcases z with z | z
              · exact dj a z y
              · exact k3 a z ((cv a).mpr (.inr y))
          · rcases z with z | z
            · exact .inl (k5 a ((cv a).mpr (.inl z)))
            · exact k4 a z
          · rcases z with z | z
            · exact z.elim
            · exact k5 a ((cv a).mpr (.inr z))
          · rcases k6 a z with y | y
            · exact .inl (.inr y)
            · rcases (cv a).mp y with u | u
              · exact .inl (.inl u)
              · exact .inr (.inr u)
/-- what was lent comes back -/
theorem unlend : ∀ {as : List Arg} {vs : List V} {cs : List C} {fpa : AS} {ρ0 : Env}, Re0 K mg F H ρ0 σ fp0 → Rcs K mg F H cs vs fpa → (∀ a, fpa a → ¬ fp0 a) → (lent as).Nodup → (∀ i ∈ lent as, ρ0[i]? = some none) →
    (∀ F1 H1 fv, Ras K mg F1 H1 σ as vs fv → True) → (∃ F1 H1 fv, Ras K mg F1 H1 σ as vs fv) → ∃ fp', Re0 K mg F H (backE as cs ρ0) σ fp' ∧ ∀ a, fp' a → fp0 a ∨ fpa a
  | [], vs, cs, fpa, ρ0, w, r, d, nd, hn, _, _ => by
    simp only [backE]
    exact ⟨fp0, w, fun _ z => .inl z⟩
  | .c c :: as, vs, cs, fpa, ρ0, w, r, d, nd, hn, t, ⟨F1, H1, fv, h⟩ => by
    obtain ⟨v, vr, f1, f2, h1, h2, h3, h4, h5⟩ := h
    subst h1
    cases cs with
    | nil => simp only [Rcs] at r; exact nomatch r.1
    | cons c' cr =>
      simp only [Rcs] at r
      obtain ⟨v', vr', g1, g2, e1, r1, r2, dj, cv⟩ := r
      cases e1
      simp only [backE]
      obtain ⟨fp', k1, k2⟩ := unlend (as := as) w r2 (fun a z => d a ((cv a).mpr (.inr z))) nd hn (fun _ _ _ _ => trivial) ⟨F1, H1, f2, h3⟩
      exact ⟨fp', k1, fun a z => (k2 a z).imp id fun u => (cv a).mpr (.inr u)⟩
  | .s i :: as, vs, cs, fpa, ρ0, w, r, d, nd, hn, t, ⟨F1, H1, fv, h⟩ => by
    obtain ⟨v, vr, h1, h2, h3⟩ := h
    subst h1
    simp only [lent, List.nodup_cons] at nd
    cases cs with
    | nil => simp only [Rcs] at r; exact nomatch r.1
    | cons c' cr =>
      simp only [Rcs] at r
      obtain ⟨v', vr', g1, g2, e1, r1, r2, dj, cv⟩ := r
      cases e1
      simp only [backE]
      obtain ⟨fp', k1, k2⟩ := unlend (as := as) w r2 (fun a z => d a ((cv a).mpr (.inr z))) nd.2 (fun j hj => hn j (by simp [lent, hj])) (fun _ _ _ _ => trivial) ⟨F1, H1, fv, h3⟩
      have hb : ∀ {as : List Arg} {cs : List C} {ρ0 : Env}, i ∉ lent as → (backE as cs ρ0)[i]? = ρ0[i]? := fun {as} => by
        induction as with
        | nil => intro cs ρ0 _; simp [backE]
        | cons a as ih =>
          intro cs ρ0 hi
          cases a with
          | c c =>
            cases cs with
            | nil => simp [backE]
            | cons c' cs => simp only [backE]; exact ih hi
          | s j =>
            simp only [lent, List.mem_cons, not_or] at hi
            cases cs with
            | nil => simp [backE]
            | cons c' cs =>
              simp only [backE]
              rw [List.getElem?_set_ne (Ne.symm hi.1)]
              exact ih hi.2
      have qi : (backE as cr ρ0)[i]? = some none := (hb nd.1).trans (hn i (by simp [lent]))
      obtain ⟨ov, f1, f2, p1, p2, dj2, cv2, put⟩ := k1.focus qi
      have e1 : σ.set i (some v) = σ := by
        apply List.ext_getElem?
        intro j
        by_cases hj : i = j
        · subst hj; rw [h2]; exact List.getElem?_set_self (List.getElem?_eq_some_iff.mp h2).1
        · exact List.getElem?_set_ne hj
      have re := put (some c') (some v) F H g1 (Same.refl _) (fun _ _ => ⟨rfl, rfl⟩) ⟨v, rfl, r1⟩ (fun a z y => (k2 a ((cv2 a).mpr (.inr y))).elim (d a ((cv a).mpr (.inl z))) (dj a z))
      rw [e1] at re
      refine ⟨_, re, fun a z => ?_⟩
      rcases z with z | z
      · exact .inr ((cv a).mpr (.inl z))
      · exact (k2 a ((cv2 a).mpr (.inr z))).imp id fun u => (cv a).mpr (.inr u)
theorem lendR {as : List Arg} {vs : List V} {fv : AS} {cs : List C} (w : Re K mg F H ρ σ fp) (r : Ras K mg F H σ as vs fv) (d : ∀ a, fv a → ¬ fp a) (nd : (lent as).Nodup) (e : conts ρ as = some cs) :
    ∃ fpa fp0, Rct K mg F H cs vs fpa ∧ Re0 K mg F H (lendE ρ as) σ fp0 ∧ (∀ a, fpa a → ¬ fp0 a) ∧ (∀ a, fpa a → fp a ∨ fv a) ∧ (∀ a, fp0 a → fp a) ∧ (∀ a, fp a → fpa a ∨ fp0 a) ∧ ∀ a, fv a → fpa a := by
  obtain ⟨f1, f2, h1, h2, h3, h4⟩ := w
  obtain ⟨fpa, fp0, k1, k2, k3, k4, k5, k6, k7⟩ := lend h1 r (fun a z y => d a z ((h4 a).mpr (.inl y))) nd e
  refine ⟨fun a => fpa a ∨ f2 a, fp0, ⟨fpa, f2, k1, h2, fun a z y => ?_, fun _ => Iff.rfl⟩, k2, fun a z y => ?_, fun a z => ?_, fun a z => (h4 a).mpr (.inl (k5 a z)), fun a z => ?_, fun a z => .inl (k7 a z)⟩
  · rcases k4 a z with u | u
    · exact h3 a u y
    · exact d a u ((h4 a).mpr (.inr y))
  · rcases z with z | z
    · exact k3 a z y
    · exact h3 a (k5 a y) z
  · rcases z with z | z
    · exact (k4 a z).imp (fun u => (h4 a).mpr (.inl u)) id
    · exact .inl ((h4 a).mpr (.inr z))
  · rcases (h4 a).mp z with u | u
    · exact (k6 a u).imp .inl id
    · exact .inl (.inr u)
theorem unlendR {as : List Arg} {vs : List V} {cs : List C} {fpa : AS} {ρ0 : Env} (w : Re0 K mg F H ρ0 σ fp0) (r : Rct K mg F H cs vs fpa) (d : ∀ a, fpa a → ¬ fp0 a) (nd : (lent as).Nodup) (hn : ∀ i ∈ lent as, ρ0[i]? = some none)
    (hx : ∃ F1 H1 fv, Ras K mg F1 H1 σ as vs fv) : ∃ fp', Re K mg F H (backE as cs ρ0) σ fp' ∧ ∀ a, fp' a → fp0 a ∨ fpa a := by
  obtain ⟨f1, f2, h1, h2, h3, h4⟩ := r
  obtain ⟨fp', k1, k2⟩ := unlend w h1 (fun a z y => d a ((h4 a).mpr (.inl z)) y) nd hn (fun _ _ _ _ => trivial) hx
  refine ⟨fun a => fp' a ∨ f2 a, ⟨fp', f2, k1, h2, fun a z y => ?_, fun _ => Iff.rfl⟩, fun a z => ?_⟩
  · rcases k2 a z with u | u
    · exact d a ((h4 a).mpr (.inr y)) u
    · exact h3 a u y
  · rcases z with z | z
    · exact (k2 a z).imp id fun u => (h4 a).mpr (.inl u)
    · exact .inr ((h4 a).mpr (.inr z))
theorem lendE_at : ∀ {as : List Arg} {i : Nat}, i ∈ lent as → i < ρ.length → (lendE ρ as)[i]? = some none
  | [], i, h, hl => nomatch h
  | .c c :: as, i, h, hl => lendE_at (as := as) h hl
  | .s j :: as, i, h, hl => by
    simp only [lendE]
    by_cases e : j = i
    · subst e; exact List.getElem?_set_self (by rw [lendE_length]; exact hl)
    · rw [List.getElem?_set_ne e]
      simp only [lent, List.mem_cons] at h
      exact lendE_at (h.resolve_left (Ne.symm e)) hl
theorem conts_lt : ∀ {as : List Arg} {cs : List C}, conts ρ as = some cs → ∀ i ∈ lent as, i < ρ.length
  | [], cs, e, i, h => nomatch h
  | .c c :: as, cs, e, i, h => by
    simp only [conts] at e
    cases q : conts ρ as with
    | none => rw [q] at e; cases e
    | some cr => exact conts_lt q i h
  | .s j :: as, cs, e, i, h => by
    simp only [conts] at e
    cases q0 : ρ[j]? with
    | none => rw [q0] at e; cases e
    | some oc =>
      cases q : conts ρ as with
      | none => rw [q0, q] at e; cases oc <;> cases e
      | some cr =>
        simp only [lent, List.mem_cons] at h
        rcases h with h | h
        · subst h; exact (List.getElem?_eq_some_iff.mp q0).1
        · exact conts_lt q i h

/-! ### the call -/
def gCallF (f : Fn) (g : G (List Arg)) : G C := G.bind g fun as ρ => if decide (lent as).Nodup = true then
  match conts ρ as with
  | some cs => match f cs with
    | .ok r cs' => .ok r (backE as cs' (lendE ρ as))
    | .ex x cs' => .ex x (backE as cs' (lendE ρ as))
    | .bad => .bad
  | none => .bad
  else .bad
theorem gCall_ok {n : Nat} {f : Fn} {g : G (List Arg)} (hn : ∀ ρ as ρ', g ρ = .ok as ρ' → as.length = n) {Q : VK} (h : tE K mg W (gCallF f g) σ H Q) : tCallS (SpOf K mg n f) (WE W) (tAs K mg W g) σ H Q := by
  obtain ⟨ρ, fp, F, w, h⟩ := h
  unfold gCallF G.bind at h
  refine asRun w Chg.refl ?_
  cases q : g ρ with
  | bad => rw [q] at h; exact h
  | ex x ρ' => rw [q] at h; exact h
  | ok as ρ1 =>
    rw [q] at h
    simp only [R.bind_ok] at h
    intro vs F1 H1 fp1 fv1 w1 r1 d1 _ c1
    by_cases nd : (lent as).Nodup
    · rw [if_pos (decide_eq_true nd)] at h
      cases qc : conts ρ1 as with
      | none => rw [qc] at h; exact h.elim
      | some cs =>
        rw [qc] at h
        simp only at h
        obtain ⟨fpa, fp0, k1, k2, k3, k4, k5, k6, k7⟩ := lendR w1.re r1 d1 nd qc
        have hl : vs.length = n := by
          have : ∀ {as : List Arg} {vs : List V} {fv : AS}, Ras K mg F1 H1 σ as vs fv → vs.length = as.length := fun {as} => by
            induction as with
            | nil => intro vs fv r; rw [r.1]; rfl
            | cons a as ih =>
              intro vs fv r
              cases a with
              | c c => obtain ⟨v, vr, f1, f2, h1, h2, h3, h4, h5⟩ := r; rw [h1]; simp [ih h3]
              | s j => obtain ⟨v, vr, h1, h2, h3⟩ := r; rw [h1]; simp [ih h3]
          rw [this r1]; exact hn ρ as ρ1 q
        have lt := conts_lt qc
        -- what stood beside the arguments stays
        have back : ∀ {F2 H2 : Hp} {cs' : List C} {fp' fv' : AS}, Same F2 H2 → Rct K mg F2 H2 cs' vs fp' → (∀ a, fv' a → ¬ fp' a) → Chg fpa F1 H1 (fun a => fp' a ∨ fv' a) F2 H2 →
            ∃ fp2, Wd K mg F2 H2 (backE as cs' (lendE ρ1 as)) fp2 σ ∧ (∀ a, fp2 a → fp0 a ∨ fp' a) ∧ (∀ a, fv' a → ¬ fp2 a) ∧ Chg fp F H (fun a => fp2 a ∨ fv' a) F2 H2 := fun {F2 H2 cs' fp' fv'} s2 r2 d2 c2 => by
          obtain ⟨n1, n2⟩ := c2.aside (fv := fp0) (fun a z => (Re0.own k2 a z).2) fun a z y => k3 a y z
          have re0 := k2.frame c2.fz n1
          obtain ⟨fp2, e1, e2⟩ := unlendR (as := as) re0 r2 (fun a z y => n2 a y (.inl z)) nd (fun i hi => lendE_at hi (lt i hi)) ⟨F1, H1, fv1, r1⟩
          refine ⟨fp2, ⟨s2, e1⟩, e2, fun a z y => (e2 a y).elim (fun u => n2 a u (.inr z)) (d2 a z), ?_⟩
          have c2' : Chg (fun a => fp1 a ∨ fv1 a) F1 H1 (fun a => fp2 a ∨ fv' a) F2 H2 := ⟨c2.fz, fun a o nn e => c2.kp a o (fun u => nn (k4 a u)) e, fun a nn e => c2.fn a (fun u => nn (k4 a u)) e, fun a z => ?_⟩
          · exact c1.trans c2'
          · rcases z with z | z
            · rcases e2 a z with u | u
              · exact .inl (.inl (k5 a u))
              · exact (c2.nw a (.inl u)).imp (k4 a) id
            · exact (c2.nw a (.inr z)).imp (k4 a) id
        refine ⟨F1, cs, fpa, hl, w1.sub, k1, ?_⟩
        cases qf : f cs with
        | bad => rw [qf] at h; exact h.elim
        | ex x cs' =>
          rw [qf] at h
          intro cls dd F2 H2 fp' s2 r2 c2 xr
          obtain ⟨fp2, w2, _, _, c⟩ := back (fv' := fun _ => False) s2 r2 (fun _ z => z.elim) c2.or_false
          exact h cls dd F2 H2 fp2 w2 (c.to fun a => .inl) xr
        | ok r cs' =>
          rw [qf] at h
          intro v F2 H2 fp' fv' s2 r2 rv d2 c2
          obtain ⟨fp2, w2, _, d3, c⟩ := back s2 r2 d2 c2
          exact h v F2 H2 fp2 fv' w2 rv d3 c
    · rw [if_neg (by simpa using nd)] at h
      exact h.elim
theorem gAs_length : ∀ {gs : List (G Arg)} {ρ ρ' : Env} {cs : List Arg}, gAs gs ρ = .ok cs ρ' → cs.length = gs.length
  | [], ρ, ρ', cs, h => by
    simp only [gAs, G.ret] at h
    cases h; rfl
  | g :: gs, ρ, ρ', cs, h => by
    simp only [gAs, G.bind] at h
    cases q : g ρ with
    | bad => rw [q] at h; cases h
    | ex x ρ1 => rw [q] at h; cases h
    | ok c ρ1 =>
      rw [q] at h
      simp only [R.bind_ok, G.bind_at] at h
      cases q2 : gAs gs ρ1 with
      | bad => rw [q2] at h; cases h
      | ex x ρ2 => rw [q2] at h; cases h
      | ok cr ρ2 =>
        rw [q2] at h
        simp only [R.bind_ok, G.ret] at h
        cases h
        simp [gAs_length q2]
/-- a def as its callers know it -/
structure Cal (Pg : Program) (w : World) (K : Frag) (mg : Str → Option Value) (base : Heap) (x : Str) (n k : Nat) (fn : Fn) : Prop where
  ex : ∃ f fd ps, FnOk Pg w K mg base (L2.CX Pg w) k f fd ps (SpOf K mg n fn) ∧ mg x = some (.ref f) ∧ PySem.W.keepIn K (.ref f) = true ∧ Binds K fd ps []
theorem e_call {x : Str} {k : Nat} {fn : Fn} {gs : List (G Arg)} {e : Expr} {es : List Expr} {p pos : Pos} (c : Cal X.prog X.w X.K X.mg X.base x gs.length k fn) (hr : Room k X.A) (tk : Takes X W) (hg : Gl X x) (ha : PA X (e :: es) (tAs X.K X.mg W (gAs gs)))
    (hdb : (x == ("__debug__" : Str)) = false := by decide) (he : starEach (e :: es) X.env = (false, eval e X.env) :: starEach es X.env := by rfl) (hpl : (backTo pos (starEach es X.env)).any (·.1) = false := by rfl) :
    PE X (.Call (.Name x p) (e :: es) [] pos) (tE X.K X.mg W (gCallF fn (gAs gs))) := by
  obtain ⟨f, fd, ps, F, hm, hk, hb⟩ := c.ex
  exact (pe_callS F hr hg hm hk hb (fun σ => passAt tk σ) ha hdb he hpl).imp fun _ _ _ => gCall_ok fun _ _ _ e => gAs_length e

/-! ### a def -/
def startE (n : Nat) (cs : List C) : Env := cs.map some ++ List.replicate (n - cs.length) none
/-- what the arguments hold behind: those never stored to as they stand, the others were data -/
def backs : List Bool → List C → Env → Option (List C)
  | [], [], _ => some []
  | true :: bs, _ :: cs, some c' :: ρ => (backs bs cs ρ).map (c' :: ·)
  | false :: bs, .val d :: cs, _ :: ρ => (backs bs cs ρ).map (.val d :: ·)
  | _, _, _ => none
def fnOf (N : Nat) (bs : List Bool) (g : G Fl) : Fn := fun cs => match g (startE N cs) with
  | .ok .next ρ' => match backs bs cs ρ' with
    | some cs' => .ok (.val .none) cs'
    | none => .bad
  | .ok (.ret c) ρ' => match backs bs cs ρ' with
    | some cs' => .ok c cs'
    | none => .bad
  | .ex x ρ' => match backs bs cs ρ' with
    | some cs' => .ex x cs'
    | none => .bad
  | _ => .bad
theorem re_none (n : Nat) : ∀ {σ : St}, σ.length = n → Re0 K mg F H (List.replicate n none) σ (fun _ => False) := by
  induction n with
  | zero =>
    intro σ h
    exact ⟨List.eq_nil_of_length_eq_zero h, fun _ z => z⟩
  | succ n ih =>
    intro σ h
    cases σ with
    | nil => cases h
    | cons x σ => exact ⟨x, σ, rfl, ih (by simpa using h)⟩
theorem re_start : ∀ {cs : List C} {vs : List V} {fp : AS} {m : Nat} {σ : St}, Rcs K mg F H cs vs fp → σ.length = m → Re0 K mg F H (cs.map some ++ List.replicate m none) (vs.map some ++ σ) fp
  | [], vs, fp, m, σ, r, h => by
    simp only [Rcs] at r
    rw [r.1]
    exact (re_none m h).iff fun a => ⟨fun z => (r.2 a z).elim, fun z => z.elim⟩
  | c :: cs, vs, fp, m, σ, r, h => by
    simp only [Rcs] at r
    obtain ⟨v, vr, f1, f2, e1, r1, r2, dj, cv⟩ := r
    rw [e1]
    exact ⟨v, _, f1, f2, rfl, r1, re_start r2 h, dj, cv⟩
theorem backs_ok {F0 H0 : Hp} : ∀ {bs : List Bool} {cs cs' : List C} {vs : List V} {fp0 : AS} {ρ' : Env} {σ' : St} {fp' : AS}, Re0 K mg F H ρ' σ' fp' → Rcs K mg F0 H0 cs vs fp0 → Same F0 F → (∀ i : Nat, bs[i]? = some true → σ'[i]? = (vs.map some)[i]?) → backs bs cs ρ' = some cs' →
    ∃ fp2, Rcs K mg F H cs' vs fp2 ∧ ∀ a, fp2 a → fp' a
  | [], [], cs', vs, fp0, ρ', σ', fp', re, r, se, k, e => by
    simp only [backs, Option.some.injEq] at e
    subst e
    simp only [Rcs] at r
    exact ⟨fun _ => False, by simp only [Rcs]; exact ⟨r.1, fun _ z => z⟩, fun _ z => z.elim⟩
  | true :: bs, c :: cs, cs', vs, fp0, some c' :: ρ', σ', fp', re, r, se, k, e => by
    simp only [backs] at e
    simp only [Rcs] at r
    obtain ⟨v, vr, g1, g2, e1, r1, r2, dj, cv⟩ := r
    subst e1
    obtain ⟨v', σ2, f1, f2, e2, q1, q2, dj2, cv2⟩ := re
    subst e2
    have e0 := k 0 rfl
    simp only [List.map_cons, List.getElem?_cons_zero, Option.some.injEq] at e0
    subst e0
    cases q : backs bs cs ρ' with
    | none => rw [q] at e; cases e
    | some cr =>
      rw [q] at e
      cases e
      obtain ⟨fp2, k1, k2⟩ := backs_ok q2 r2 se (fun i hi => by simpa using k (i + 1) (by simpa using hi)) q
      refine ⟨fun a => f1 a ∨ fp2 a, ?_, fun a z => (cv2 a).mpr (z.imp id (k2 a))⟩
      simp only [Rcs]
      exact ⟨v', vr, f1, fp2, rfl, q1, k1, fun a z y => dj2 a z (k2 a y), fun _ => Iff.rfl⟩
  | false :: bs, .val d :: cs, cs', vs, fp0, oc :: ρ', σ', fp', re, r, se, k, e => by
    simp only [backs] at e
    simp only [Rcs, Rc] at r
    obtain ⟨v, vr, g1, g2, e1, r1, r2, dj, cv⟩ := r
    subst e1
    cases q : backs bs cs ρ' with
    | none => rw [q] at e; cases e
    | some cr =>
      rw [q] at e
      cases e
      have tail : ∃ x σ2 f2, σ' = x :: σ2 ∧ Re0 K mg F H ρ' σ2 f2 ∧ ∀ a, f2 a → fp' a := by
        cases oc with
        | none =>
          obtain ⟨x, σ2, e2, q2⟩ := re
          exact ⟨x, σ2, fp', e2, q2, fun _ z => z⟩
        | some c2 =>
          obtain ⟨v', σ2, f1, f2, e2, q1, q2, dj2, cv2⟩ := re
          exact ⟨_, σ2, f2, e2, q2, fun a z => (cv2 a).mpr (.inr z)⟩
      obtain ⟨x, σ2, f2, e2, q2, sub⟩ := tail
      subst e2
      obtain ⟨fp2, k1, k2⟩ := backs_ok q2 r2 se (fun i hi => by simpa using k (i + 1) (by simpa using hi)) q
      refine ⟨fp2, ?_, fun a z => sub a (k2 a z)⟩
      simp only [Rcs, Rc]
      exact ⟨v, vr, fun _ => False, fp2, rfl, ⟨r1.1.mono se, fun _ z => z⟩, k1, fun _ z => z.elim, fun a => by simp⟩
  | [], _ :: _, cs', vs, fp0, ρ', σ', fp', re, r, se, k, e => by simp [backs] at e
  | _ :: _, [], cs', vs, fp0, ρ', σ', fp', re, r, se, k, e => by cases ρ' <;> simp [backs] at e
  | true :: bs, c :: cs, cs', vs, fp0, [], σ', fp', re, r, se, k, e => by simp [backs] at e
  | true :: bs, c :: cs, cs', vs, fp0, none :: ρ', σ', fp', re, r, se, k, e => by simp [backs] at e
  | false :: bs, c :: cs, cs', vs, fp0, [], σ', fp', re, r, se, k, e => by cases c <;> simp [backs] at e
  | false :: bs, .tup _ :: cs, cs', vs, fp0, _ :: ρ', σ', fp', re, r, se, k, e => by simp [backs] at e
  | false :: bs, .lst _ :: cs, cs', vs, fp0, _ :: ρ', σ', fp', re, r, se, k, e => by simp [backs] at e
  | false :: bs, .dic _ _ :: cs, cs', vs, fp0, _ :: ρ', σ', fp', re, r, se, k, e => by simp [backs] at e
  | false :: bs, .obj _ _ _ :: cs, cs', vs, fp0, _ :: ρ', σ', fp', re, r, se, k, e => by simp [backs] at e
theorem re_startR {cs : List C} {vs : List V} {fp : AS} {m : Nat} {σ : St} (r : Rct K mg F H cs vs fp) (h : σ.length = m) : Re K mg F H (cs.map some ++ List.replicate m none) (vs.map some ++ σ) fp := by
  obtain ⟨f1, f2, h1, h2, h3, h4⟩ := r
  exact ⟨f1, f2, re_start h1 h, h2, h3, h4⟩
theorem backs_okR {F0 H0 : Hp} {bs : List Bool} {cs cs' : List C} {vs : List V} {fp0 : AS} {ρ' : Env} {σ' : St} {fp' : AS} (w : Re K mg F H ρ' σ' fp') (r : Rct K mg F0 H0 cs vs fp0) (se : Same F0 F) (k : ∀ i : Nat, bs[i]? = some true → σ'[i]? = (vs.map some)[i]?) (e : backs bs cs ρ' = some cs') :
    ∃ fp2, Rct K mg F H cs' vs fp2 ∧ ∀ a, fp2 a → fp' a := by
  obtain ⟨f1, f2, h1, h2, h3, h4⟩ := w
  obtain ⟨g1, g2, r1, r2, r3, r4⟩ := r
  obtain ⟨fp2, k1, k2⟩ := backs_ok h1 r1 se k e
  refine ⟨fun a => fp2 a ∨ f2 a, ⟨fp2, f2, k1, h2, fun a z y => h3 a (k2 a z) y, fun _ => Iff.rfl⟩, fun a z => (h4 a).mpr (z.imp (k2 a) id)⟩
section
variable {Pg : Program} {w : World} {base : Heap}
abbrev WDef (E : XK) : WX := fun cls d _ H => E cls d H
/-- the code object of the def at f -/
def CodeAt (K : Frag) (f : Addr) (cdv : Value) : Prop := ∃ (oc : Value) (od : Option Addr) (osl : Array (Option Value)) (fd : FuncData), K.lookup f = some ⟨oc, od, .func fd, osl⟩ ∧ fd.code = cdv
theorem okX2 {x qual : Str} {st : Stmt} {f : Addr} {fd : FuncData} {N ps : List Str} {k : Nat} {sp : Sp} (F : Fun K x qual st f fd) (S : FnScope N ps (defScope st)) (len : ∀ vs H Q E, sp vs H Q E → vs.length = ps.length)
    (hb : ∀ (cdv : Value) (hc : CodeAt K f cdv) (A : Around) (outer : List PySem.Env) (s : Shared) (H : Hp) (vs : List V) (Q : VK) (E : XK), Room k (A.deeper (PyProof.Rows.envOfC qual (defScope st) s.heap.objs.size f cdv)) → sp vs H Q E → ∃ t, PSs (cxOf (L2.CX Pg w) Pg w K mg base N qual (defScope st) f cdv A outer s H E) (defBody st) t ∧ t { nx := fun _ H' => Q .non H', rt := Q } (L2.start N vs) H) :
    FnOk Pg w K mg base (L2.CX Pg w) (k + 1) f fd ps sp := by
  obtain ⟨oc, od, kV, doc, pm, an, cdv, ct, osl, e, lk, hcd⟩ := F.ex
  subst e
  exact fn_of lk hcd S len fun A outer s H vs Q E hr hsp => hb cdv ⟨oc, od, osl, _, lk, rfl⟩ A outer s H vs Q E hr hsp
/-- THE DEF: its body's meaning -/
theorem fn_ok {x qual : Str} {st : Stmt} {f : Addr} {fd : FuncData} {N ps : List Str} {k : Nat} (Fn' : Fun K x qual st f fd) (S : FnScope N ps (defScope st)) (P : List Nat) (bs : List Bool) {g : G Fl} (hN : ps.length ≤ N.length := by decide) (hb : bs.length = ps.length := by rfl) (hP : ∀ i : Nat, bs[i]? = some true → i ∈ P)
    (hbody : ∀ (cdv : Value) (hc : CodeAt K f cdv) (A : Around) (outer : List PySem.Env) (s : Shared) (H : Hp) (E : XK), Room k (A.deeper (PyProof.Rows.envOfC qual (defScope st) s.heap.objs.size f cdv)) → PSs (cxOf (L2.CX Pg w) Pg w K mg base N qual (defScope st) f cdv A outer s H E) (defBody st) (tS K mg (WDef E) P g)) :
    FnOk Pg w K mg base (L2.CX Pg w) (k + 1) f fd ps (SpOf K mg ps.length (fnOf N.length bs g)) := by
  refine okX2 Fn' S (fun vs H Q E h => ?_) fun cdv hc A outer s H vs Q E hr h => ⟨_, hbody cdv hc A outer s H E hr, ?_⟩
  · obtain ⟨_, _, _, e, _⟩ := h
    exact e
  · obtain ⟨F, cs, fp, hl, sub, r, h⟩ := h
    have hlc : cs.length = ps.length := by obtain ⟨_, _, r1, _⟩ := r; rw [← Rcs.length r1, hl]
    refine ⟨startE N.length cs, fp, F, ⟨sub, ?_⟩, ?_⟩
    · unfold startE L2.start
      rw [hl]
      have : N.length - ps.length = N.length - cs.length := by rw [hlc]
      exact re_startR r (by rw [List.length_replicate, hlc])
    · unfold fnOf at h
      have keep : ∀ {σ' : St}, (∀ i ∈ P, σ'[i]? = (L2.start N vs)[i]?) → ∀ i : Nat, bs[i]? = some true → σ'[i]? = (vs.map some)[i]? := fun {σ'} k i hi => by
        rw [k i (hP i hi)]
        unfold L2.start
        have : i < (vs.map some).length := by
          rw [List.length_map, hl, ← hb]
          exact (List.getElem?_eq_some_iff.mp hi).1
        exact List.getElem?_append_left this
      cases q : g (startE N.length cs) with
      | bad => rw [q] at h; exact h
      | ex x ρ' =>
        rw [q] at h
        simp only at h
        cases z : backs bs cs ρ' with
        | none => rw [z] at h; exact h.elim
        | some cs' =>
          rw [z] at h
          intro cls dd σ' F' H' fp' w' c' k' xr
          obtain ⟨fp2, r2, k2⟩ := backs_okR w'.re r c'.fz (keep k') z
          exact h cls dd F' H' fp2 w'.sub r2 (c'.to k2) xr
      | ok fl ρ' =>
        rw [q] at h
        cases fl with
        | brk => exact h.elim
        | cont => exact h.elim
        | next =>
          simp only at h
          cases z : backs bs cs ρ' with
          | none => rw [z] at h; exact h.elim
          | some cs' =>
            rw [z] at h
            intro σ' F' H' fp' w' c' k'
            obtain ⟨fp2, r2, k2⟩ := backs_okR w'.re r c'.fz (keep k') z
            exact h .non F' H' fp2 (fun _ => False) w'.sub r2 (Rc.of_dp .non) (fun _ z => z.elim) ((c'.to k2).or_false)
        | ret c =>
          simp only at h
          cases z : backs bs cs ρ' with
          | none => rw [z] at h; exact h.elim
          | some cs' =>
            rw [z] at h
            intro v σ' F' H' fp' fv w' rv d' c' k'
            obtain ⟨fp2, r2, k2⟩ := backs_okR w'.re r c'.fz (keep k') z
            exact h v F' H' fp2 fv w'.sub r2 rv (fun a u y => d' a u (k2 a y)) (c'.to fun a u => u.imp (k2 a) id)
end
end
end Nd

/-! Nd9: kinds, lengths, items, slices, new lists, sorting of texts; append, x[i] = v; zip, enumerate. -/
namespace Nd
open PySem L2
/-! ### isinstance -/
inductive Ty where
  | int | bool | str | tuple | list
def Ty.name : Ty → String
  | .int => "int"
  | .bool => "bool"
  | .str => "str"
  | .tuple => "tuple"
  | .list => "list"
def tyN : PyData → String
  | .none => "NoneType"
  | .bool _ => "bool"
  | .int _ => "int"
  | .str _ => "str"
  | .list _ => "list"
  | .tuple _ => "tuple"
  | .dict _ => "dict"
def isTy : Ty → PyData → Bool
  | .int, .int _ => true
  | .int, .bool _ => true
  | .bool, .bool _ => true
  | .str, .str _ => true
  | .tuple, .tuple _ => true
  | .list, .list _ => true
  | _, _ => false
section
variable [TF] {X : Cx} {K : Frag} {mg : Str → Option Value} {W : WX} {P : List Nat} {F H F0 H0 : Hp} {ρ : Env} {fp fp0 : AS} {σ σ0 : St} {v : V}
theorem Sh.tyx {d : PyData} (s : Same F H) (h : Sh K F H v d) : TyX K H v (.type (tyN d)) := by
  cases d with
  | none => rw [h.non]; exact .base .non
  | bool b => rw [h.bl]; exact .base (.bl b)
  | int i => rw [h.int]; exact .base (.int i)
  | str x => rw [h.str.1]; exact .base (.str x)
  | list ds =>
    obtain ⟨a, vs, e, q, r⟩ := h.list s
    rw [e]
    rcases q with (q | ⟨o, q⟩) | ⟨o, its, n, q, c, _⟩
    · exact .base (.lst q)
    · exact .base (.frz q)
    · exact .kList q c
  | tuple ds =>
    obtain ⟨a, vs, e, _, q, r⟩ := h.tup s
    rw [e]
    rcases q with (q | ⟨o, q⟩) | ⟨o, its, n, q, c, _⟩
    · exact .base (.tup q)
    · exact .fTuple q
    · exact .kTuple q c
  | dict kvs =>
    rcases h with h | ⟨a, vs, ds', e1, e, e2, e3⟩
    · cases h.1
    · cases e
theorem kit_is {d : PyData} {t : Ty} (h : ∀ kvs, d ≠ .dict kvs) : PySem.W.kitOne K (.type (tyN d)) (.type t.name) = some (isTy t d) := by
  refine kit_ty ?_
  cases d with
  | dict kvs => exact (h kvs rfl).elim
  | none => cases t <;> (show kitB _ _ = some _; decide +kernel)
  | bool b => cases t <;> (show kitB "bool" _ = some _; simp only [Ty.name, isTy]; decide +kernel)
  | int b => cases t <;> (show kitB "int" _ = some _; simp only [Ty.name, isTy]; decide +kernel)
  | str b => cases t <;> (show kitB "str" _ = some _; simp only [Ty.name, isTy]; decide +kernel)
  | list b => cases t <;> (show kitB "list" _ = some _; simp only [Ty.name, isTy]; decide +kernel)
  | tuple b => cases t <;> (show kitB "tuple" _ = some _; simp only [Ty.name, isTy]; decide +kernel)
theorem Sh.nodict {d : PyData} (h : Sh K F H v d) : ∀ kvs, d ≠ .dict kvs := fun kvs e => by
  subst e
  rcases h with h | ⟨a, vs, ds', e1, e, e2, e3⟩
  · cases h.1
  · cases e
/-- a question about an operand -/
def gAsk (p : PyData → Bool) (g : G Op) : G C := G.bind g fun o ρ => match deref ρ o with
  | some d => .ok (.val (.bool (p d))) ρ
  | none => .bad
theorem ask_ok {p : PyData → Bool} {g : G Op} {Q : VK} (h : tE K mg W (gAsk p g) σ H Q) : tO K mg W g σ H fun x H1 => ∃ ρ fp F d, Wd K mg F H1 ρ fp σ ∧ Sh K F H1 x d ∧ ∀ F' H' , Frs F H1 F' H' → Q (.bl (p d)) H' := by
  obtain ⟨ρ, fp, F, w, h⟩ := h
  unfold gAsk G.bind at h
  refine oRun w Chg.refl ?_
  cases q : g ρ with
  | bad => rw [q] at h; exact h.elim
  | ex x ρ' => rw [q] at h; exact h
  | ok o ρ1 =>
    rw [q] at h
    simp only [R.bind_ok] at h
    intro v F1 H1 fp1 w1 r1 s1 c1
    cases z : deref ρ1 o with
    | none => rw [z] at h; exact h.elim
    | some d =>
      rw [z] at h
      exact ⟨ρ1, fp1, F1, d, w1, deref_sh w1 r1 z, fun F' H' x => h _ F' H' fp1 _ (w1.frs x) (Rc.of_dp (.bl _)) (fun _ z => z.elim) (c1.trans x.chg).or_false⟩
variable {e : Expr} {es : List Expr} {p pos p1 p2 : Pos} {x : Str}
theorem e_isi (t : Ty) {g : G Op} {T : Str} (hg : Gl X "isinstance") (hm : X.mg "isinstance" = none) (ha : PE X e (tO X.K mg W g)) (hT : PE X (.Name T p2) (tC (.ty t.name)))
    (he : starEach [e, .Name T p2] X.env = (false, eval e X.env) :: starEach [.Name T p2] X.env := by rfl) (he2 : starEach [.Name T p2] X.env = (false, eval (.Name T p2) X.env) :: starEach [] X.env := by rfl) (hpl : (backTo pos (starEach [.Name T p2] X.env)).any (·.1) = false := by rfl) :
    PE X (.Call (.Name "isinstance" p1) [e, .Name T p2] [] pos) (tE X.K mg W (gAsk (isTy t) g)) :=
  (pe_callB call_isi hg hm PyProof.Rows.boot_isinstance (pa_cons ha (pa_cons hT pa_nil he2) he) (he := he) (hpl := hpl)).imp fun σ H Q h =>
    tO_mono (fun v H1 ⟨ρ, fp, F, d, w, sh, k⟩ => ⟨_, _, _, _, _, rfl, .ty _, sh.tyx w.sub, kit_is sh.nodict, k F H1 (Frs.refl w.sub)⟩) (ask_ok h)
/-- isinstance(x, (T1, T2)) -/
theorem e_isi2 (t t' : Ty) {g : G Op} {T T' : Str} {k3 : Nat} {p3 p4 : Pos} (hg : Gl X "isinstance") (hm : X.mg "isinstance" = none) (ha : PE X e (tO X.K mg W g)) (hT : PE X (.Name T p2) (tC (.ty t.name))) (hT' : PE X (.Name T' p3) (tC (.ty t'.name)))
    (he : starEach [e, .Tuple [.Name T p2, .Name T' p3] k3 p4] X.env = (false, eval e X.env) :: starEach [.Tuple [.Name T p2, .Name T' p3] k3 p4] X.env := by rfl)
    (he2 : starEach [.Tuple [.Name T p2, .Name T' p3] k3 p4] X.env = (false, eval (.Tuple [.Name T p2, .Name T' p3] k3 p4) X.env) :: starEach [] X.env := by rfl)
    (he3 : starEach [.Name T p2, .Name T' p3] X.env = (false, eval (.Name T p2) X.env) :: starEach [.Name T' p3] X.env := by rfl) (he4 : starEach [.Name T' p3] X.env = (false, eval (.Name T' p3) X.env) :: starEach [] X.env := by rfl)
    (hpl : (backTo pos (starEach [.Tuple [.Name T p2, .Name T' p3] k3 p4] X.env)).any (·.1) = false := by rfl) :
    PE X (.Call (.Name "isinstance" p1) [e, .Tuple [.Name T p2, .Name T' p3] k3 p4] [] pos) (tE X.K mg W (gAsk (fun d => isTy t d || isTy t' d) g)) :=
  (pe_callB call_isiT hg hm PyProof.Rows.boot_isinstance (pa_cons ha (pa_cons (pe_tup (pa_cons hT (pa_cons hT' pa_nil he4) he3)) pa_nil he2) he) (he := he) (hpl := hpl)).imp fun σ H Q h =>
    tO_mono (fun v H1 ⟨ρ, fp, F, d, w, sh, k⟩ => by
      refine ⟨by show 2 ≤ sizeLine; decide, fun q hq => ?_⟩
      have x := Frs.new (p := q) (o := .tup [V.ty t.name, V.ty t'.name]) w.sub hq
      refine ⟨_, q, _, _, [.type t.name, .type t'.name], _, rfl, upd_same, .cons (.ty _) (.cons (.ty _) .nil), (sh.frs x).tyx x.sub, ?_, k F _ x⟩
      refine kitAny_cons (kit_is sh.nodict) (fun h1 => kitAny_cons (kit_is sh.nodict) (fun h2 => ?_) fun h2 => ?_) fun h1 => by rw [h1]; rfl
      · rw [h1, h2]; exact kitAny_nil
      · rw [h1, h2]; rfl) (ask_ok h)

/-! ### len, list, tuple -/
def lenD : List PyData → Option C
  | [.list ds] => some (.val (.int ds.length))
  | [.tuple ds] => some (.val (.int ds.length))
  | [.str z] => if lenOk z.length = true then some (.val (.int z.length)) else none
  | _ => none
theorem Shs.one {vs : List V} {d : PyData} (h : Shs K F H vs [d]) : ∃ v, vs = [v] ∧ Sh K F H v d := by
  cases vs with
  | nil => cases h
  | cons v vs =>
    obtain ⟨d', r, e1, e2, e3⟩ := h
    cases e1
    cases vs with
    | nil => exact ⟨v, rfl, e2⟩
    | cons _ _ => obtain ⟨_, _, e1, _⟩ := e3; cases e1
theorem Shs.two {vs : List V} {d d' : PyData} (h : Shs K F H vs [d, d']) : ∃ v v', vs = [v, v'] ∧ Sh K F H v d ∧ Sh K F H v' d' := by
  cases vs with
  | nil => cases h
  | cons v vs =>
    obtain ⟨d1, r, e1, e2, e3⟩ := h
    cases e1
    obtain ⟨v', rfl, e4⟩ := Shs.one e3
    exact ⟨v, v', rfl, e2, e4⟩
theorem c_len : CallR X (.builtin "len") (rN X.K mg lenD) := by
  intro pins s σ H xs us Q I r h
  obtain ⟨F, ds, c, sub, sh, e, post⟩ := h
  unfold lenD at e
  split at e
  · cases e
    obtain ⟨v, rfl, s1⟩ := sh.one
    obtain ⟨a, vs, e1, q1, r1⟩ := s1.list sub
    refine call_len_seq pins s σ H _ us Q I r ⟨a, vs, by rw [e1], .inl q1, ?_⟩
    rw [r1.length]
    exact post.val sub (.int _)
  · cases e
    obtain ⟨v, rfl, s1⟩ := sh.one
    obtain ⟨a, vs, e1, q0, q1, r1⟩ := s1.tup sub
    refine call_len_seq pins s σ H _ us Q I r ⟨a, vs, by rw [e1], .inr q1, ?_⟩
    rw [r1.length]
    exact post.val sub (.int _)
  · rename_i z
    split at e
    · rename_i hl
      cases e
      obtain ⟨v, rfl, s1⟩ := sh.one
      exact call_len_str pins s σ H _ us Q I r ⟨z, by rw [s1.str.1], of_decide_eq_true hl, post.val sub (.int _)⟩
    · cases e
  · cases e
def listD : List PyData → Option C
  | [.list ds] => some (mkL ds)
  | [.tuple ds] => some (mkL ds)
  | _ => none
theorem c_list : CallR X (.type "list") (rN X.K mg listD) := by
  intro pins s σ H xs us Q I r h
  obtain ⟨F, ds, c, sub, sh, e, post⟩ := h
  unfold listD at e
  split at e
  · cases e
    obtain ⟨v, rfl, s1⟩ := sh.one
    obtain ⟨a, vs, e1, q1, r1⟩ := s1.list sub
    exact call_list_of pins s σ H _ us Q I r ⟨a, vs, by rw [e1], .inl q1, fun l hl => post.lst sub r1 hl⟩
  · cases e
    obtain ⟨v, rfl, s1⟩ := sh.one
    obtain ⟨a, vs, e1, q0, q1, r1⟩ := s1.tup sub
    exact call_list_of pins s σ H _ us Q I r ⟨a, vs, by rw [e1], .inr q1, fun l hl => post.lst sub r1 hl⟩
  · cases e
def tupleD : List PyData → Option C
  | [.list ds] => some (.val (.tuple ds))
  | [.tuple ds] => some (.val (.tuple ds))
  | _ => none
theorem c_tuple : CallR X (.type "tuple") (rN X.K mg tupleD) := by
  intro pins s σ H xs us Q I r h
  obtain ⟨F, ds, c, sub, sh, e, post⟩ := h
  unfold tupleD at e
  split at e
  · cases e
    obtain ⟨v, rfl, s1⟩ := sh.one
    obtain ⟨a, vs, e1, q1, r1⟩ := s1.list sub
    exact call_tuple_of pins s σ H _ us Q I r ⟨a, vs, by rw [e1], .inl ⟨q1, fun l hl => post.tup sub r1 hl⟩⟩
  · cases e
    obtain ⟨v, rfl, s1⟩ := sh.one
    obtain ⟨a, vs, e1, q0, q1, r1⟩ := s1.tup sub
    exact call_tuple_of pins s σ H _ us Q I r ⟨a, vs, by rw [e1], .inr ⟨q1, post.val sub (.tup q0 r1)⟩⟩
  · cases e
def allInts : List PyData → Option (List Int)
  | [] => some []
  | .int i :: r => (allInts r).map (i :: ·)
  | _ => none
def allBools : List PyData → Option (List Bool)
  | [] => some []
  | .bool i :: r => (allBools r).map (i :: ·)
  | _ => none
def allStrs : List PyData → Option (List Str)
  | [] => some []
  | .str i :: r => (allStrs r).map (i :: ·)
  | _ => none
theorem allInts_eq : ∀ {ds : List PyData} {ns : List Int}, allInts ds = some ns → ds = ns.map .int
  | [], ns, h => by simp [allInts] at h; subst h; rfl
  | .int i :: r, ns, h => by
    simp only [allInts] at h
    cases q : allInts r with
    | none => rw [q] at h; cases h
    | some m => rw [q] at h; cases h; rw [allInts_eq q]; rfl
  | .none :: _, ns, h => by simp [allInts] at h
  | .bool _ :: _, ns, h => by simp [allInts] at h
  | .str _ :: _, ns, h => by simp [allInts] at h
  | .list _ :: _, ns, h => by simp [allInts] at h
  | .tuple _ :: _, ns, h => by simp [allInts] at h
  | .dict _ :: _, ns, h => by simp [allInts] at h
theorem allBools_eq : ∀ {ds : List PyData} {ns : List Bool}, allBools ds = some ns → ds = ns.map .bool
  | [], ns, h => by simp [allBools] at h; subst h; rfl
  | .bool i :: r, ns, h => by
    simp only [allBools] at h
    cases q : allBools r with
    | none => rw [q] at h; cases h
    | some m => rw [q] at h; cases h; rw [allBools_eq q]; rfl
  | .none :: _, ns, h => by simp [allBools] at h
  | .int _ :: _, ns, h => by simp [allBools] at h
  | .str _ :: _, ns, h => by simp [allBools] at h
  | .list _ :: _, ns, h => by simp [allBools] at h
  | .tuple _ :: _, ns, h => by simp [allBools] at h
  | .dict _ :: _, ns, h => by simp [allBools] at h
theorem allStrs_eq : ∀ {ds : List PyData} {ns : List Str}, allStrs ds = some ns → ds = ns.map .str
  | [], ns, h => by simp [allStrs] at h; subst h; rfl
  | .str i :: r, ns, h => by
    simp only [allStrs] at h
    cases q : allStrs r with
    | none => rw [q] at h; cases h
    | some m => rw [q] at h; cases h; rw [allStrs_eq q]; rfl
  | .none :: _, ns, h => by simp [allStrs] at h
  | .int _ :: _, ns, h => by simp [allStrs] at h
  | .bool _ :: _, ns, h => by simp [allStrs] at h
  | .list _ :: _, ns, h => by simp [allStrs] at h
  | .tuple _ :: _, ns, h => by simp [allStrs] at h
  | .dict _ :: _, ns, h => by simp [allStrs] at h
theorem allInts_map (ns : List Int) : allInts (ns.map .int) = some ns := by
  induction ns with
  | nil => rfl
  | cons n r ih => simp [allInts, ih]
theorem allBools_map (ns : List Bool) : allBools (ns.map .bool) = some ns := by
  induction ns with
  | nil => rfl
  | cons n r ih => simp [allBools, ih]
theorem allStrs_map (ns : List Str) : allStrs (ns.map .str) = some ns := by
  induction ns with
  | nil => rfl
  | cons n r ih => simp [allStrs, ih]
theorem DqAll.ints : ∀ {ns : List Int} {vs : List V}, DqAll K F vs (ns.map .int) → vs = ns.map V.int
  | [], vs, h => by cases h.1; rfl
  | n :: ns, vs, ⟨h, l⟩ => by
    cases h with
    | cons a b =>
      cases a
      rw [DqAll.ints ⟨b, (lay_cons.mp l).2⟩]
      rfl
theorem DqAll.bls : ∀ {ns : List Bool} {vs : List V}, DqAll K F vs (ns.map .bool) → vs = ns.map V.bl
  | [], vs, h => by cases h.1; rfl
  | n :: ns, vs, ⟨h, l⟩ => by
    cases h with
    | cons a b =>
      cases a
      rw [DqAll.bls ⟨b, (lay_cons.mp l).2⟩]
      rfl
theorem DqAll.strs : ∀ {ns : List Str} {vs : List V}, DqAll K F vs (ns.map .str) → vs = ns.map V.str
  | [], vs, h => by cases h.1; rfl
  | n :: ns, vs, ⟨h, l⟩ => by
    cases h with
    | cons a b =>
      cases a
      rw [DqAll.strs ⟨b, (lay_cons.mp l).2⟩]
      rfl
theorem DqAll.of_strs : ∀ {ns : List Str}, PyData.canLayAll0 (ns.map .str) = true → DqAll K F (ns.map V.str) (ns.map .str)
  | [], _ => .nil
  | n :: ns, l => .cons (.str (lay_cons.mp l).1) (DqAll.of_strs (lay_cons.mp l).2)
def sumD : List PyData → Option C
  | [.list ds] => (allInts ds).map fun ns => .val (.int ns.sum)
  | _ => none
theorem c_sum (hc : X.calm = true) : CallR X (.builtin "sum") (rN X.K mg sumD) := by
  intro pins s σ H xs us Q I r h
  obtain ⟨F, ds, c, sub, sh, e, post⟩ := h
  unfold sumD at e
  split at e
  · rename_i ds
    cases q : allInts ds with
    | none => rw [q] at e; cases e
    | some ns =>
      rw [q] at e
      cases e
      obtain ⟨v, rfl, s1⟩ := sh.one
      obtain ⟨a, vs, e1, q1, r1⟩ := s1.list sub
      rw [allInts_eq q] at r1
      rw [r1.ints] at q1
      exact cr_sum hc pins s σ H _ us Q I r ⟨a, ns, by rw [e1], q1, post.val sub (.int _)⟩
  · cases e
def allD : List PyData → Option C
  | [.list ds] => (allBools ds).map fun ns => .val (.bool (ns.all id))
  | _ => none
theorem c_all (hc : X.calm = true) : CallR X (.builtin "all") (rN X.K mg allD) := by
  intro pins s σ H xs us Q I r h
  obtain ⟨F, ds, c, sub, sh, e, post⟩ := h
  unfold allD at e
  split at e
  · rename_i ds
    cases q : allBools ds with
    | none => rw [q] at e; cases e
    | some ns =>
      rw [q] at e
      cases e
      obtain ⟨v, rfl, s1⟩ := sh.one
      obtain ⟨a, vs, e1, q1, r1⟩ := s1.list sub
      rw [allBools_eq q] at r1
      rw [r1.bls] at q1
      exact cr_all hc pins s σ H _ us Q I r ⟨a, ns, by rw [e1], q1, post.val sub (.bl _)⟩
  · cases e
def anyD : List PyData → Option C
  | [.list ds] => (allBools ds).map fun ns => .val (.bool (ns.any id))
  | _ => none
theorem c_any (hc : X.calm = true) : CallR X (.builtin "any") (rN X.K mg anyD) := by
  intro pins s σ H xs us Q I r h
  obtain ⟨F, ds, c, sub, sh, e, post⟩ := h
  unfold anyD at e
  split at e
  · rename_i ds
    cases q : allBools ds with
    | none => rw [q] at e; cases e
    | some ns =>
      rw [q] at e
      cases e
      obtain ⟨v, rfl, s1⟩ := sh.one
      obtain ⟨a, vs, e1, q1, r1⟩ := s1.list sub
      rw [allBools_eq q] at r1
      rw [r1.bls] at q1
      exact cr_any hc pins s σ H _ us Q I r ⟨a, ns, by rw [e1], q1, post.val sub (.bl _)⟩
  · cases e

/-! ### items, slices -/
def ixD : PyData → PyData → Option C
  | .list ds, .int i => (atI ds i).map .val
  | .tuple ds, .int i => (atI ds i).map .val
  | .str z, .int i => if lenOk z.length = true then (atI z.cps.toList i).map fun c => .val (.str ⟨#[c]⟩) else none
  | _, _ => none
theorem atI_dq {ds : List PyData} {vs : List V} {i : Int} {d : PyData} (r : DqAll K F vs ds) (e : atI ds i = some d) : ∃ v, atI vs i = some v ∧ Dq K F v d := by
  unfold atI at e ⊢
  rw [r.length]
  cases q : ixN ds.length i with
  | none => rw [q] at e; cases e
  | some j =>
    rw [q] at e
    exact r.get e
theorem x_ix : IxR X (r2 X.K mg ixD) := by
  intro value slice pins s σ H x y v u Q I rx ry h hs
  obtain ⟨F, dx, dy, c, sub, hx, hy, e, post⟩ := h
  unfold ixD at e
  split at e
  · rename_i ds i
    cases q : atI ds i with
    | none => rw [q] at e; cases e
    | some d =>
      rw [q] at e
      cases e
      obtain ⟨a, vs, e1, q1, r1⟩ := hx.list sub
      obtain ⟨v', e2, d2⟩ := atI_dq r1 q
      exact ix_list value slice pins s σ H x y v u Q I rx ry ⟨a, vs, i, v', e1, hy.int, q1, e2, post.val sub d2⟩ hs
  · rename_i ds i
    cases q : atI ds i with
    | none => rw [q] at e; cases e
    | some d =>
      rw [q] at e
      cases e
      obtain ⟨a, vs, e1, q0, q1, r1⟩ := hx.tup sub
      obtain ⟨v', e2, d2⟩ := atI_dq r1 q
      exact ix_tup value slice pins s σ H x y v u Q I rx ry ⟨a, vs, i, v', e1, hy.int, q1, e2, post.val sub d2⟩ hs
  · rename_i z i
    split at e
    · rename_i hl
      cases q : atI z.cps.toList i with
      | none => rw [q] at e; cases e
      | some c =>
        rw [q] at e
        cases e
        have m : c ∈ z.cps.toList := by
          unfold atI at q
          cases q2 : ixN z.cps.toList.length i with
          | none => rw [q2] at q; cases q
          | some j => rw [q2] at q; exact List.mem_of_getElem? q
        exact ix_str value slice pins s σ H x y v u Q I rx ry ⟨z, i, c, hx.str.1, hy.int, of_decide_eq_true hl, q, post.val sub (.str (strOk_mem hx.str.2 m))⟩ hs
    · cases e
  · cases e
theorem e_ix {a b : Expr} {ga gb : G Op} (ha : PE X a (tO X.K mg W ga)) (hb : PE X b (tO X.K mg W gb)) (hs : PlainIx b) : PE X (.Subscript a b pos) (tE X.K mg W (gOp2 ixD ga gb)) := (pe_ix x_ix ha hb hs).imp fun _ _ _ => bin_ok
theorem o_ix {a b : Expr} {ga gb : G Op} (ha : PE X a (tO X.K mg W ga)) (hb : PE X b (tO X.K mg W gb)) (hs : PlainIx b) : PE X (.Subscript a b pos) (tO X.K mg W (gFz (gOp2 ixD ga gb))) := o_of (e_ix ha hb hs)
def cutD {α : Type} (xs : List α) (lo hi : Option Int) : List α := (xs.drop (HT.sIx xs.length 0 lo)).take (HT.sIx xs.length xs.length hi - HT.sIx xs.length 0 lo)
def slD (d : PyData) (lo hi : Option Int) : Option C := match d with
  | .list ds => some (mkL (cutD ds lo hi))
  | .tuple ds => some (.val (.tuple (cutD ds lo hi)))
  | .str z => if lenOk z.length = true then some (.val (.str (cutS z lo hi))) else none
  | _ => none
theorem DqAll.cut {ds : List PyData} {vs : List V} (lo hi : Option Int) (r : DqAll K F vs ds) : DqAll K F (cutV vs lo hi) (cutD ds lo hi) := by
  unfold cutV cutD
  rw [r.length]
  exact (r.drop _).take _
def rSl (K : Frag) (mg : Str → Option Value) (f : PyData → Option Int → Option Int → Option C) : V → Option Int → Option Int → Hp → VK → Prop := fun x lo hi H Q => ∃ F d c, Same F H ∧ Sh K F H x d ∧ f d lo hi = some c ∧ Post K mg F H c Q
theorem lay_cutS {z : Str} {lo hi : Option Int} (h : PyData.canLay0 (.str z) = true) : PyData.canLay0 (.str (cutS z lo hi)) = true := by
  simp only [PyData.canLay0, PyData.strOk, cutS, Array.all_eq_true', decide_eq_true_eq] at h ⊢
  intro x hx
  have hx' : x ∈ (z.cps.toList.drop (HT.sIx z.length 0 lo)).take (HT.sIx z.length z.length hi - HT.sIx z.length 0 lo) := by simpa using hx
  exact h x (by simpa using List.mem_of_mem_drop (List.mem_of_mem_take hx'))
theorem x_sl : SlR X (rSl X.K mg slD) := by
  intro pins s σ H x v vl vu lo hi sl Q I rx hs pl pu h
  obtain ⟨F, d, c, sub, sh, e, post⟩ := h
  unfold slD at e
  split at e
  · cases e
    obtain ⟨a, vs, e1, q1, r1⟩ := sh.list sub
    exact sl_list pins s σ H x v vl vu lo hi sl Q I rx hs pl pu ⟨a, vs, e1, q1, fun p hp => post.lst sub (r1.cut lo hi) hp⟩
  · rename_i ds
    cases e
    obtain ⟨a, vs, e1, q0, q1, r1⟩ := sh.tup sub
    refine sl_tupA pins s σ H x v vl vu lo hi sl Q I rx hs pl pu ⟨a, vs, e1, q1, fun hw => ?_, fun _ p hp => post.tup sub (r1.cut lo hi) hp⟩
    have e2 : cutD ds lo hi = ds := by
      unfold cutD
      rw [← r1.length, hw.1, hw.2]
      simp [r1.length]
    rw [e2] at post
    exact post.val sub (.tup q0 r1)
  · rename_i z
    split at e
    · rename_i hl
      cases e
      exact sl_str pins s σ H x v vl vu lo hi sl Q I rx hs pl pu ⟨z, sh.str.1, of_decide_eq_true hl, post.val sub (.str (lay_cutS sh.str.2))⟩
    · cases e
  · cases e
/-- a part of a slice -/
def tPO (K : Frag) (mg : Str → Option Value) (W : WX) (g : G (Option Int)) : L2.TO := fun σ H Q => ∃ ρ fp F, Wd K mg F H ρ fp σ ∧
  match g ρ with
  | .ok o ρ' => ∀ F' H' fp', Wd K mg F' H' ρ' fp' σ → Chg fp F H fp' F' H' → Q o H'
  | .ex x ρ' => exPost K mg W F H fp σ x ρ'
  | .bad => False
theorem _root_.L2.PO.imp {X : Cx} {e : Option Expr} {t t' : L2.TO} (h : PO X e t) (k : ∀ σ H Q, t' σ H Q → t σ H Q) : PO X e t' := ⟨fun pins s σ H Q I hw => h.run pins s σ H Q I (k σ H Q hw)⟩
theorem p_none : PO X none (tPO K mg W (G.ret none)) := po_none.imp fun σ H Q h => by
  obtain ⟨ρ, fp, F, w, h⟩ := h
  exact h F H fp w Chg.refl
def gPart (g : G Op) : G (Option Int) := G.bind g fun o ρ => match deref ρ o with
  | some (.int i) => .ok (some i) ρ
  | _ => .bad
theorem p_some {g : G Op} (h : PE X e (tO K mg W g)) : PO X (some e) (tPO K mg W (gPart g)) := (po_some h).imp fun σ H Q h => by
  obtain ⟨ρ, fp, F, w, h⟩ := h
  unfold gPart G.bind at h
  refine oRun w Chg.refl ?_
  cases q : g ρ with
  | bad => rw [q] at h; exact h.elim
  | ex x ρ' => rw [q] at h; exact h
  | ok o ρ1 =>
    rw [q] at h
    simp only [R.bind_ok] at h
    intro v F1 H1 fp1 w1 r1 s1 c1
    cases z : deref ρ1 o with
    | none => rw [z] at h; exact h.elim
    | some d =>
      rw [z] at h
      cases d with
      | int i => exact ⟨i, (deref_sh w1 r1 z).int, h F1 H1 fp1 w1 c1⟩
      | none => exact h.elim
      | bool b => exact h.elim
      | str b => exact h.elim
      | list b => exact h.elim
      | tuple b => exact h.elim
      | dict b => exact h.elim
def gSl (g : G Op) (gl gh : G (Option Int)) : G C := G.bind g fun o => G.bind gl fun lo => G.bind gh fun hi => fun ρ => match deref ρ o with
  | some d => gFin (slD d lo hi) ρ
  | none => .bad
theorem gSl_ok {g : G Op} {gl gh : G (Option Int)} {Q : VK} (h : tE K mg W (gSl g gl gh) σ H Q) : tSl (rSl K mg slD) (tO K mg W g) (tPO K mg W gl) (tPO K mg W gh) σ H Q := by
  obtain ⟨ρ, fp, F, w, h⟩ := h
  unfold gSl G.bind at h
  refine oRun w Chg.refl ?_
  cases q : g ρ with
  | bad => rw [q] at h; exact h.elim
  | ex x ρ' => rw [q] at h; exact h
  | ok o ρ1 =>
    rw [q] at h
    simp only [R.bind_ok] at h
    intro v F1 H1 fp1 w1 r1 s1 c1
    refine ⟨ρ1, fp1, F1, w1, ?_⟩
    cases q2 : gl ρ1 with
    | bad => rw [q2] at h; exact h.elim
    | ex x ρ' => rw [q2] at h; exact exPost.of c1 h
    | ok lo ρ2 =>
      rw [q2] at h
      simp only [R.bind_ok] at h
      intro F2 H2 fp2 w2 c2
      refine ⟨ρ2, fp2, F2, w2, ?_⟩
      have c12 := c1.trans c2
      cases q3 : gh ρ2 with
      | bad => rw [q3] at h; exact h.elim
      | ex x ρ' => rw [q3] at h; exact exPost.of c12 h
      | ok hi ρ3 =>
        rw [q3] at h
        simp only [R.bind_ok] at h
        intro F3 H3 fp3 w3 c3
        cases z : deref ρ3 o with
        | none => rw [z] at h; exact h.elim
        | some d =>
          rw [z] at h
          simp only [gFin] at h
          cases fe : slD d lo hi with
          | none => rw [fe] at h; exact h.elim
          | some c =>
            rw [fe] at h
            exact ⟨F3, d, c, w3.sub, deref_sh w3 ((r1.mono c2.fz).mono c3.fz) z, fe, fin_post w3 (c12.trans c3) h⟩
theorem e_sl {lo hi : Option Expr} {g : G Op} {gl gh : G (Option Int)} {p2 : Pos} (he : PE X e (tO X.K mg W g)) (hl : PO X lo (tPO X.K mg W gl)) (hu : PO X hi (tPO X.K mg W gh)) : PE X (.Subscript e (.Slice lo hi none p2) pos) (tE X.K mg W (gSl g gl gh)) := (pe_slice x_sl he hl hu).imp fun _ _ _ => gSl_ok
end
end Nd

/-! Nd10: blocks, growing and storing, sorted texts, zip, enumerate, parallel assignment. -/
namespace Nd
open PySem L2
section
variable [TF] {X : Cx} {mg : Str → Option Value} {W : WX} {F H F0 H0 : Hp} {ρ : Env} {fp fp0 : AS} {σ σ0 : St} {P : List Nat} {pos : Pos}

/-! ### [e for t in xs if c] -/
theorem e_comp {elt tg iter : Expr} {ifs : List Expr} {scope : Scope} {own : List (Str × Nat)} {gi : G Itm} {p : Pat} {gt : G Bool} {ge : G Op} (hc : X.calm = true) (hN : X.N.Nodup) (hi : PI X tg iter (tI X.K mg W gi)) (ok : BlkOk X.N X.env.scope scope own)
    (hg : ∀ (s : Shared) (H : Hp) (C : Addr) (cl : List (Str × Addr)) (fp : List Addr), PG (X.blk s H scope (compEnvC scope cl C X.env) fp) tg (tGd X.K mg p)) (ht : ∀ (s : Shared) (H : Hp) (C : Addr) (cl : List (Str × Addr)) (fp : List Addr), PTs (X.blk s H scope (compEnvC scope cl C X.env) fp) ifs (tT X.K mg W0 gt))
    (he : ∀ (s : Shared) (H : Hp) (C : Addr) (cl : List (Str × Addr)) (fp : List Addr), PE (X.blk s H scope (compEnvC scope cl C X.env) fp) elt (tO X.K mg W0 ge)) (hvs : ∀ j, j ∈ p.slots → j ∈ own.map (·.2)) (hsrc : ∀ ρ it ρ', gi ρ = .ok it ρ' → srcOut it.src (own.map (·.2)))
    (hs : ∀ x, foldedSetIterable iter X.env x = pure x := by intro _; rfl) :
    PE X (.ListComp elt [⟨tg, iter, ifs, 0⟩] scope pos) (tE X.K mg W (gComp gi p (own.map (·.2)) gt ge)) := (pe_lc hc hN hi ok hg ht he hs).imp fun _ _ _ => gComp_ok hvs hsrc
theorem s_setComp {i : Nat} {y : Str} {py spos : Pos} {elt tg iter : Expr} {ifs : List Expr} {scope : Scope} {own : List (Str × Nat)} {gi : G Itm} {p : Pat} {gt : G Bool} {ge : G Op} (hiP : i ∉ P) (hc : X.calm = true) (hN : X.N.Nodup) (hy : X.N[i]? = some y) (hyl : X.env.scope.names.lookup y = some .local)
    (hsw : swapsWith (.ListComp elt [⟨tg, iter, ifs, 0⟩] scope pos) (some (.Name y py)) spos.line X.env = pure true) (hi : PI X tg iter (tI X.K mg W gi)) (ok : BlkOk X.N X.env.scope scope own)
    (hg : ∀ (s : Shared) (H : Hp) (C : Addr) (cl : List (Str × Addr)) (fp : List Addr), PG (X.blk s H scope (compEnvC scope cl C X.env) fp) tg (tGd X.K mg p)) (ht : ∀ (s : Shared) (H : Hp) (C : Addr) (cl : List (Str × Addr)) (fp : List Addr), PTs (X.blk s H scope (compEnvC scope cl C X.env) fp) ifs (tT X.K mg W0 gt))
    (he : ∀ (s : Shared) (H : Hp) (C : Addr) (cl : List (Str × Addr)) (fp : List Addr), PE (X.blk s H scope (compEnvC scope cl C X.env) fp) elt (tO X.K mg W0 ge)) (hvs : ∀ j, j ∈ p.slots → j ∈ own.map (·.2)) (hsrc : ∀ ρ it ρ', gi ρ = .ok it ρ' → srcOut it.src (own.map (·.2)))
    (hs : ∀ x, foldedSetIterable iter X.env x = pure x := by intro _; rfl) :
    PS X (.Assign [.Name y py] (.ListComp elt [⟨tg, iter, ifs, 0⟩] scope pos) spos) (tS X.K mg W P (gSet i (gComp gi p (own.map (·.2)) gt ge))) :=
  (ps_setLc hc hN hy hyl hsw hi ok hg ht he hs).imp fun D σ H h => gComp_ok hvs hsrc (gSet_ok hiP h)
theorem ts_nil {K : Frag} : PTs X [] (tT K mg W (G.ret true)) := ⟨fun pins s σ H Q I h => pts_nil.run pins s σ H Q I (by
  obtain ⟨ρ, fp, F, w, h⟩ := h
  exact h F H fp w Chg.refl)⟩
theorem ts_one {K : Frag} {c : Expr} {g : G Bool} (h : PT X c (tT K mg W g)) : PTs X [c] (tT K mg W g) := pts_one h

/-! ### what isn't reached -/
def gOff {α : Type} : G α := fun _ => .bad
theorem s_bad {K : Frag} {st : Stmt} : PS X st (tS K mg W P gOff) := ⟨fun pins s σ H D I h => by obtain ⟨_, _, _, _, h⟩ := h; exact h.elim⟩
theorem ss_bad {K : Frag} {st : List Stmt} : PSs X st (tS K mg W P gOff) := ⟨fun pins s σ H D I h => by obtain ⟨_, _, _, _, h⟩ := h; exact h.elim⟩
theorem e_bad {K : Frag} {e : Expr} : PE X e (tE K mg W gOff) := ⟨fun pins s σ H Q I h => by obtain ⟨_, _, _, _, h⟩ := h; exact h.elim⟩
theorem o_bad {K : Frag} {e : Expr} : PE X e (tO K mg W gOff) := ⟨fun pins s σ H Q I h => by obtain ⟨_, _, _, _, h⟩ := h; exact h.elim⟩
theorem t_bad {K : Frag} {e : Expr} : PT X e (tT K mg W gOff) := ⟨fun pins s σ H Q I h => by obtain ⟨_, _, _, _, h⟩ := h; exact h.elim⟩

/-! ### xs.append(e) -/
def grow (i : Nat) (c : C) : G C := fun ρ => match ρ[i]? with
  | some (some (.lst cs)) => if decide (cs.length < sizeLine) = true then .ok (.val .none) (ρ.set i (some (.lst (cs ++ [c])))) else .bad
  | _ => .bad
def gHas (i : Nat) : G Unit := fun ρ => match ρ[i]? with
  | some (some (.lst _)) => .ok () ρ
  | _ => .bad
def gApp (i : Nat) (g : G C) : G C := G.bind (gHas i) fun _ => G.bind g fun c => grow i c
theorem Rcs_snoc {K : Frag} : ∀ {cs : List C} {vs : List V} {f : AS} {c : C} {v : V} {fv : AS}, Rcs K mg F H cs vs f → Rc K mg F H c v fv → (∀ a, f a → ¬ fv a) → Rcs K mg F H (cs ++ [c]) (vs ++ [v]) (fun a => f a ∨ fv a)
  | [], vs, f, c, v, fv, h, r, d => by
    simp only [Rcs] at h
    simp only [List.nil_append, Rcs]
    exact ⟨v, [], fv, fun _ => False, by rw [h.1]; rfl, r, ⟨rfl, fun _ z => z⟩, fun _ _ z => z, fun a => ⟨fun z => z.elim (fun y => (h.2 a y).elim) .inl, fun z => z.elim .inr False.elim⟩⟩
  | c0 :: cs, vs, f, c, v, fv, h, r, d => by
    simp only [Rcs] at h
    obtain ⟨v0, vr, f1, f2, e1, r1, r2, dj, cv⟩ := h
    simp only [List.cons_append, Rcs]
    refine ⟨v0, vr ++ [v], f1, fun a => f2 a ∨ fv a, by rw [e1]; rfl, r1, Rcs_snoc r2 r (fun a z => d a ((cv a).mpr (.inr z))), fun a z y => y.elim (dj a z) (d a ((cv a).mpr (.inl z))), fun a => ?_⟩
    rw [cv a, or_assoc]
theorem gApp_ok {K : Frag} {i : Nat} {g : G C} {Q : VK} (h : tE K mg W (gApp i g) σ H Q) : tBM K "list" rAppend (tVar i) (tCons (tE K mg W g) tNil) σ H Q := by
  obtain ⟨ρ, fp, F, w, h⟩ := h
  unfold gApp G.bind at h
  simp only [gHas] at h
  cases q0 : ρ[i]? with
  | none => rw [q0] at h; exact h.elim
  | some oc =>
    cases oc with
    | none => rw [q0] at h; exact h.elim
    | some c0 =>
      cases c0 with
      | val d => rw [q0] at h; exact h.elim
      | tup cs => rw [q0] at h; exact h.elim
      | dic ks cs => rw [q0] at h; exact h.elim
      | obj cl ks cs => rw [q0] at h; exact h.elim
      | lst cs0 =>
        rw [q0] at h
        simp only [R.bind_ok] at h
        obtain ⟨ov, f1, f2, q1, ⟨v, q2, q3⟩, dj, cv, put⟩ := w.re.focus q0
        subst q2
        refine ⟨v, q1, ?_⟩
        simp only [Rc] at q3
        obtain ⟨a, vs, f', rfl, h2, h3, h4, h5, h6⟩ := q3
        refine ⟨.inl ⟨rfl, vs, .of h2⟩, ?_⟩
        show tE K mg W g σ H _
        refine eRun w Chg.refl ?_
        cases q : g ρ with
        | bad => rw [q] at h; exact h
        | ex x ρ' => rw [q] at h; exact h
        | ok c ρ1 =>
          rw [q] at h
          simp only [R.bind_ok, grow] at h
          intro u F1 H1 fp1 fv1 w1 r1 d1 c1 c1'
          cases q5 : ρ1[i]? with
          | none => rw [q5] at h; exact h.elim
          | some oc =>
            cases oc with
            | none => rw [q5] at h; exact h.elim
            | some c2 =>
              cases c2 with
              | val d => rw [q5] at h; exact h.elim
              | tup cs => rw [q5] at h; exact h.elim
              | dic ks cs => rw [q5] at h; exact h.elim
              | obj cl ks cs => rw [q5] at h; exact h.elim
              | lst cs =>
                rw [q5] at h
                by_cases hl : cs.length < sizeLine
                · simp only [hl, decide_true, if_true] at h
                  obtain ⟨ov, g1, g2, p1, ⟨v', p2, p3⟩, dj', cv', put'⟩ := w1.re.focus q5
                  rw [q1] at p1
                  subst p2
                  cases p1
                  simp only [Rc] at p3
                  obtain ⟨a', vs', f2', e1, k2, k3, k4, k5, k6⟩ := p3
                  cases e1
                  have hlen := Rcs.length k4
                  refine ⟨a, vs', u, rfl, rfl, k2, by rw [hlen]; exact hl, ?_⟩
                  -- the new heap
                  have na : ¬ fv1 a := fun z => d1 a z ((cv' a).mpr (.inl ((k6 a).mpr (.inl rfl))))
                  have same : ∀ {S : AS}, (∀ b, S b → b ≠ a) → ∀ b, S b → (upd H1 a (.lst (vs' ++ [u]))) b = H1 b ∧ F1 b = F1 b := fun hS b z => ⟨upd_ne (hS b z), rfl⟩
                  have sF : Same F1 (upd H1 a (.lst (vs' ++ [u]))) := fun b o e => by
                    by_cases hb : b = a
                    · subst hb; rw [k3] at e; cases e
                    · rw [upd_ne hb]; exact w1.sub b o e
                  have rr : Rc K mg F1 (upd H1 a (.lst (vs' ++ [u]))) (.lst (cs ++ [c])) (.ref a) (fun b => g1 b ∨ fv1 b) := by
                    simp only [Rc]
                    refine ⟨a, vs' ++ [u], fun b => f2' b ∨ fv1 b, rfl, upd_same, k3, Rcs_snoc (k4.frame (Same.refl _) (same fun b z e => by subst e; exact k5 z)) (r1.frame (Same.refl _) (same fun b z e => by subst e; exact na z)) (fun b z y => d1 b y ((cv' b).mpr (.inl ((k6 b).mpr (.inr z))))), fun z => z.elim k5 na, fun b => ?_⟩
                    rw [k6 b, or_assoc]
                  have keep2 : ∀ b, g2 b → (upd H1 a (.lst (vs' ++ [u]))) b = H1 b ∧ F1 b = F1 b := same fun b z e => by subst e; exact dj' _ ((k6 _).mpr (.inl rfl)) z
                  have re2 := put' (some (.lst (cs ++ [c]))) (some (.ref a)) F1 (upd H1 a (.lst (vs' ++ [u]))) (fun b => g1 b ∨ fv1 b) (Same.refl _) keep2 ⟨_, rfl, rr⟩ (fun b z y => z.elim (fun x => dj' b x y) fun x => d1 b x ((cv' b).mpr (.inr y)))
                  have e0 : σ.set i (some (.ref a)) = σ := by
                    apply List.ext_getElem?
                    intro j
                    by_cases hj : i = j
                    · subst hj; rw [q1]; exact List.getElem?_set_self (List.getElem?_eq_some_iff.mp q1).1
                    · exact List.getElem?_set_ne hj
                  rw [e0] at re2
                  have fpa : fp1 a := (cv' a).mpr (.inl ((k6 a).mpr (.inl rfl)))
                  refine h .non F1 _ (fun b => (g1 b ∨ fv1 b) ∨ g2 b) (fun _ => False) ⟨sF, re2⟩ (Rc.of_dp .non) (fun _ z => z.elim) ?_
                  refine Chg.or_false (c1'.trans ⟨Same.refl _, fun b o n e => ?_, fun b n e => rfl, fun b z => ?_⟩)
                  · have hb : b ≠ a := fun e => by subst e; exact n (.inl fpa)
                    rw [upd_ne hb]; exact e
                  · left
                    rcases z with (z | z) | z
                    · exact .inl ((cv' b).mpr (.inl z))
                    · exact .inr z
                    · exact .inl ((cv' b).mpr (.inr z))
                · simp only [hl, decide_false, Bool.false_eq_true, if_false] at h
theorem s_app {e : Expr} {x : Str} {px apos cpos : Pos} (i : Nat) {g : G C} (he : PE X e (tE X.K mg W g)) (hN : X.N[i]? = some x := by rfl) (hv : Vis X.env.scope x := by first | exact Or.inl rfl | exact Or.inr (Or.inl rfl) | exact Or.inr (Or.inr rfl))
    (hd : (x == ("__debug__" : Str)) = false := by decide) (hcd : (x == ("__classdict__" : Str)) = false := by decide)
    (hbase : attributeBase (.Name x px) "append" X.env (eval (.Name x px) X.env) = eval (.Name x px) X.env := by rfl)
    (hfew : ((backTo cpos (starEach [e] X.env)).all (fun x => !x.1) && (backToKw cpos (keywordEach [] X.env)).all (fun x => x.1.isSome) && decide (([e] : List Expr).length + ([] : List Keyword).length + (if ([] : List Keyword).isEmpty then 0 else 1) < 30)) = true := by rfl)
    (hline : (apos.endLine == cpos.line) = true := by rfl) (hs : starEach [e] X.env = (false, eval e X.env) :: starEach [] X.env := by rfl) (hplain : (backTo cpos (starEach [] X.env)).any (·.1) = false := by rfl)
    (hsw : swapsWith (.Call (.Attribute (.Name x px) "append" apos) [e] [] cpos) none pos.line X.env = pure false := by rfl) :
    PS X (.Expr (.Call (.Attribute (.Name x px) "append" apos) [e] [] cpos) pos) (tS X.K mg W P (gDrop (gApp i g))) :=
  s_expr ((pe_bm PySem.F.plainAttrs_list PySem.F.slot_list_append PySem.F.type_list_append mt_append (pe_var hN hv hd hcd) (pa_cons he pa_nil hs) hbase hfew hline hs hplain).imp fun _ _ _ => gApp_ok) hsw
end
end Nd

/-! Nd11: storing, t[::-1], sorted texts, zip, enumerate, parallel assignment. -/
namespace NdT
open PySem PySem.Spec PyProof.Rows HT
section
variable {prog : Program} {w : World} {A : Around} {E : Value → Shared → Prop} {s : Shared}
theorem places_rev (n : Nat) : Builtin.Slice.slicePlaces ((n : Int) - 1) (-1) (-1) = n := by
  unfold Builtin.Slice.slicePlaces
  have h1 : ¬ ((-1 : Int) > 0) := by decide
  simp only [h1, if_false]
  by_cases h : (n : Int) - 1 > -1
  · rw [if_pos h, show (- -1 : Int) = 1 by decide, Int.ediv_one]; omega
  · rw [if_neg h]; omega
theorem adjust_rev (n : Nat) : Builtin.Slice.sliceAdjust none none (-1) (n : Int) = ((n : Int) - 1, -1) := by
  unfold Builtin.Slice.sliceAdjust
  simp
theorem sliceApplied_rev {sl : Addr} {vs : Value} {n : Nat} {Q : Int × Int × Nat → Shared → Prop} (hs : s.heap.IsSliceOf sl .none .none vs) (ps : IsPart vs (some (-1)))
    (h : Q ((n : Int) - 1, -1, n) s) : wpAny (model prog w) A (Builtin.Slice.sliceApplied (.ref sl) (pure (n : Int))) Q E s := by
  obtain ⟨os, hos, hcs, hds⟩ := id hs
  unfold Builtin.Slice.sliceApplied Builtin.Slice.sliceFields
  refine wpAny_bind (wpAny_bind (wpAny_field hos hds (x := .none) rfl (wpAny_bind (wpAny_field hos hds (x := .none) rfl (wpAny_bind (wpAny_field hos hds (x := vs) rfl (wpAny_pure ?_)))))))
  refine wpAny_bind (slicePart_ ps ?_)
  show wpAny _ _ (if ((-1 : Int) == 0) = true then _ else _) _ _ s
  rw [if_neg (by decide)]
  refine wpAny_bind (slicePart_none (wpAny_bind (slicePart_none (wpAny_bind (wpAny_pure ?_)))))
  show wpAny _ _ (match Builtin.Slice.sliceAdjust none none (-1) (n : Int) with | (lo, hi) => pure (lo, (-1 : Int), Builtin.Slice.slicePlaces lo hi (-1))) _ _ s
  rw [adjust_rev n]
  show wpAny _ _ (pure ((n : Int) - 1, (-1 : Int), Builtin.Slice.slicePlaces ((n : Int) - 1) (-1) (-1))) _ _ s
  rw [places_rev]
  exact wpAny_pure h
theorem pick_rev (xs : Array Value) : ((List.range xs.size).filterMap fun (m : Nat) => xs[((xs.size : Int) - 1 + (m : Int) * (-1)).toNat]?).toArray = xs.toList.reverse.toArray := by
  have e : (List.range xs.size).filterMap (fun (m : Nat) => xs[((xs.size : Int) - 1 + (m : Int) * (-1)).toNat]?) = (List.range xs.size).filterMap (fun m => xs[xs.size - 1 - m]?) := by
    have key : ∀ (l : List Nat), (∀ m ∈ l, m < xs.size) → l.filterMap (fun (m : Nat) => xs[((xs.size : Int) - 1 + (m : Int) * (-1)).toNat]?) = l.filterMap (fun m => xs[xs.size - 1 - m]?) := by
      intro l
      induction l with
      | nil => intro _; rfl
      | cons m l ih =>
        intro h
        have hm := h m List.mem_cons_self
        have e2 : ((xs.size : Int) - 1 + (m : Int) * (-1)).toNat = xs.size - 1 - m := by omega
        simp only [List.filterMap_cons, e2, ih fun k hk => h k (List.mem_cons_of_mem _ hk)]
    exact key _ fun m hm => List.mem_range.mp hm
  rw [e, show (fun m => xs[xs.size - 1 - m]?) = (xs[·]?) ∘ (fun k => xs.size - 1 - k) from rfl, ← List.filterMap_map, PySem.W.krv_range, List.filterMap_reverse, PySem.W.krv_all]
theorem getItem_tuple_rev {t sl : Addr} {items : Array Value} {vs : Value} {Q : Value → Shared → Prop} (ht : IsTup s.heap t items) (hs : s.heap.IsSliceOf sl .none .none vs) (ps : IsPart vs (some (-1)))
    (h : Q (.ref s.heap.objs.size) { s with heap := s.heap.push { cls := .type "tuple", data := .seq items.toList.reverse.toArray } })
    (hsz : items.size ≤ sizeLine) : wpAny (model prog w) A (getItem (.ref t) (.ref sl)) Q E s := by
  have htake : sizeOk (.seq items.toList.reverse.toArray) := by
    show items.toList.reverse.toArray.size ≤ sizeLine
    simpa using hsz
  obtain ⟨os, hos, hcs, hds⟩ := id hs
  have hTs : s.TypeIs (.ref sl) "slice" := ⟨os, hos, hcs⟩
  unfold getItem
  try with_reducible refine wpAny_holding ?_
  first | refine wpAny_bind (wpAny_pure ?_) | skip
  refine wpAny_bind (wpAny_sequenceKey ht.typeIs (by decide) ?_)
  refine wpAny_bind (wpAny_callSpecial?_slot (name := Str.ofString "__getitem__") ht.typeIs PyProof.Rows.slot_tuple_getitem
    (wpAny_call_entry PyProof.Rows.slot_tuple_getitem ht.typeIs entry_tuple_getitem ?_ (args_tuple_getitem _ _)))
  show wpAny _ _ (Builtin.Tuple.tupleItemsOf (.ref t) >>= _) _ _ s
  refine wpAny_bind (tupleItemsOf_ ht ?_)
  refine wpAny_bind (wpAny_typeOf hTs ?_)
  rw [if_pos (by decide)]
  refine wpAny_bind (sliceApplied_rev hs ps ?_)
  have hno : ¬ ((((items.size : Int) - 1) == 0 && (-1 : Int) == 1 && items.size == items.size) = true) := by
    intro q
    rw [Bool.and_eq_true, Bool.and_eq_true] at q
    exact absurd q.1.2 (by decide)
  show wpAny _ _ (if ((((items.size : Int) - 1) == 0 && (-1 : Int) == 1 && items.size == items.size) = true) then _ else _) _ _ s
  rw [if_neg hno, pick_rev]
  first
    | exact wpAny_bind (m := Builtin.Tuple.tupleExact _) (wpAny_newObj_type (wpAny_pure ⟨_, rfl, wpAny_pure h⟩) htake)
    | exact wpAny_bind (m := Builtin.Tuple.tupleExact _) (wpAny_newObj_type (wpAny_bind (wpAny_pure (wpAny_pure ⟨_, rfl, wpAny_pure h⟩))) htake)
    | exact wpAny_bind (wpAny_bind (m := Builtin.Tuple.tupleExact _) (wpAny_newObj_type (wpAny_pure (wpAny_pure ⟨_, rfl, wpAny_pure h⟩)) htake))
    | exact wpAny_bind (wpAny_bind (m := Builtin.Tuple.tupleExact _) (wpAny_newObj_type (wpAny_pure ⟨_, rfl, wpAny_pure h⟩) htake))
end
end NdT
namespace L2
open PySem PySem.Spec PyProof.Rows
variable {X : Cx}
def tRevT (K : PySem.W.Frag) (te : TE) : TE := fun σ H Q => te σ H fun x H1 => ∃ a xs, x = .ref a ∧ SqT K H1 a xs ∧ ∀ p, H1 p = none → Q (.ref p) (upd H1 p (.tup xs.reverse))
theorem pe_revT {e : Expr} {te : TE} {k : Nat} {p1 p2 p3 pos : Pos} (he : PE X e te) : PE X (.Subscript e (.Slice none none (some (.UnaryOp .USub (.Constant (.int 1) k p1) p2)) p3) pos) (tRevT X.K te) := by
  refine ⟨fun pins s σ H Q I h => ?_⟩
  refine Subscript_ (thn (he.run pins s σ H _ I h) fun v s1 ⟨x, H1, I1, r1, q1⟩ => ?_)
  obtain ⟨a, xs, ex, hx, q⟩ := q1
  subst ex
  cases r1
  have hst : PO X (some (.UnaryOp .USub (.Constant (.int 1) k p1) p2)) (tPart (tUn (rU fun i => .int (-i)) (tC (.int 1)))) := po_some (pe_un un_neg pe_int)
  refine wpAny_Slice (thn (po_none.run pins s1 σ H1 (fun o H2 => o = none ∧ H2 = H1) I1 ⟨rfl, rfl⟩) fun vl s2 ⟨l, H2, I2, pl, el, e2⟩ => ?_)
  subst el e2
  refine thn (po_none.run pins s2 σ H2 (fun o H3 => o = none ∧ H3 = H2) I2 ⟨rfl, rfl⟩) fun vu s3 ⟨u, H3, I3, pu, eu, e3⟩ => ?_
  subst eu e3
  refine thn (hst.run pins s3 σ H3 (fun o H4 => o = some (-1) ∧ H4 = H3) I3 ⟨1, rfl, -1, rfl, rfl, rfl⟩) fun vs s4 ⟨o, H4, I4, ps, eo, e4⟩ => ?_
  subst eo e4
  cases pl
  cases pu
  have I5 : Inv X pins σ H4 { s4 with heap := s4.heap.push { cls := .type "slice", data := .fields #[.none, .none, vs] } } := I4.kept (t' := s4.toks) fun b ob q => Heap.get?_push_of_some _ q
  obtain ⟨its, r, ht, hz⟩ := I5.tuple hx
  have hlen := r.length
  show wpAny (model X.prog X.w) X.A (subscriptTail e (.Slice none none (some (.UnaryOp .USub (.Constant (.int 1) k p1) p2)) p3) (.ref a) (.ref s4.heap.objs.size)) (EP X pins σ Q) X.xe { s4 with heap := s4.heap.push { cls := .type "slice", data := .fields #[.none, .none, vs] } }
  refine tail_any (ops := [.ref a, .ref s4.heap.objs.size]) ht.typeIs (PyProof.Rows.slot_tuple_getitem.lookup) ?_ (by with_unfolding_all rfl)
  refine NdT.getItem_tuple_rev ht (Heap.IsSliceOf.new _ .none .none vs) ps ?_ (by rw [List.size_toArray]; omega)
  refine ⟨.ref _, _, I5.laid (t' := s4.toks) (o := .tup xs.reverse) (fun b ob q => Heap.get?_push_of_some _ q) (Nat.le_refl _) ?_, rfl, q _ (I5.hok.fresh (Nat.le_refl _))⟩
  exact ⟨by rw [List.length_reverse]; exact hz, its.reverse, r.reverse, IsTup.new _ _⟩
end L2
namespace Nd
open PySem L2
section
variable [TF] {X : Cx} {mg : Str → Option Value} {W : WX} {F H F0 H0 : Hp} {ρ : Env} {fp fp0 : AS} {σ σ0 : St} {P : List Nat} {pos : Pos}

/-! ### t[::-1] -/
def revD : PyData → Option C
  | .tuple ds => some (.val (.tuple ds.reverse))
  | _ => none
def gRev (g : G Op) : G C := G.bind g fun o ρ => match deref ρ o with
  | some d => gFin (revD d) ρ
  | none => .bad
theorem DpAll.rev {K : Frag} : ∀ {ds : List PyData} {vs : List V}, DpAll K F vs ds → DpAll K F vs.reverse ds.reverse
  | [], _, h => by cases h; exact .nil
  | d :: ds, _, h => by
    cases h with
    | cons a b =>
      rw [List.reverse_cons, List.reverse_cons]
      exact DpAll.append (DpAll.rev b) (.cons a .nil)
theorem e_rev {e : Expr} {g : G Op} {k : Nat} {p1 p2 p3 : Pos} (he : PE X e (tO X.K mg W g)) : PE X (.Subscript e (.Slice none none (some (.UnaryOp .USub (.Constant (.int 1) k p1) p2)) p3) pos) (tE X.K mg W (gRev g)) := (pe_revT he).imp fun σ H Q h => by
  obtain ⟨ρ, fp, F, w, h⟩ := h
  unfold gRev G.bind at h
  refine oRun w Chg.refl ?_
  cases q : g ρ with
  | bad => rw [q] at h; exact h
  | ex x ρ' => rw [q] at h; exact h
  | ok o ρ1 =>
    rw [q] at h
    simp only [R.bind_ok] at h
    intro v F1 H1 fp1 w1 r1 s1 c1
    cases z : deref ρ1 o with
    | none => rw [z] at h; exact h.elim
    | some d =>
      rw [z] at h
      simp only [gFin] at h
      cases fe : revD d with
      | none => rw [fe] at h; exact h.elim
      | some c =>
        rw [fe] at h
        have sh := deref_sh w1 r1 z
        unfold revD at fe
        split at fe
        · cases fe
          obtain ⟨a, vs, e1, q0, q1, r⟩ := sh.tup w1.sub
          exact ⟨a, vs, e1, q1, fun p hp => (fin_post w1 c1 h).tup w1.sub ⟨DpAll.rev r.1, lay_mem.mpr fun d hd => lay_mem.mp r.2 d (List.mem_reverse.mp hd)⟩ hp⟩
        · cases fe

/-! ### xs[i] = v -/
theorem Rcs_set {K : Frag} : ∀ {cs : List C} {vs : List V} {f : AS} {j : Nat} {d : PyData} {v : V}, Rcs K mg F H cs vs f → Dq K F v d → j < cs.length → ∃ f', Rcs K mg F H (cs.set j (.val d)) (vs.set j v) f' ∧ ∀ a, f' a → f a
  | [], vs, f, j, d, v, h, q, l => nomatch l
  | c :: cs, vs, f, j, d, v, h, q, l => by
    simp only [Rcs] at h
    obtain ⟨v0, vr, f1, f2, e1, r1, r2, dj, cv⟩ := h
    subst e1
    cases j with
    | zero =>
      refine ⟨f2, ?_, fun a z => (cv a).mpr (.inr z)⟩
      simp only [List.set_cons_zero, Rcs]
      exact ⟨v, vr, fun _ => False, f2, rfl, Rc.of_dp q, r2, fun _ z => z.elim, fun a => by simp⟩
    | succ j =>
      obtain ⟨f', k1, k2⟩ := Rcs_set r2 q (by simpa using l)
      refine ⟨fun a => f1 a ∨ f' a, ?_, fun a z => (cv a).mpr (z.imp id (k2 a))⟩
      simp only [List.set_cons_succ, Rcs]
      exact ⟨v0, _, f1, f', rfl, r1, k1, fun a z y => dj a z (k2 a y), fun _ => Iff.rfl⟩
def storeAt (i : Nat) (d : PyData) (o : Op) : G Fl := fun ρ => match ρ[i]?, deref ρ o with
  | some (some (.lst cs)), some (.int k) => match ixN cs.length k with
    | some j => .ok .next (ρ.set i (some (.lst (cs.set j (.val d)))))
    | none => .bad
  | _, _ => .bad
/-- the value, then the list, then the place -/
def gStore (i : Nat) (gi : G Op) (g : G C) : G Fl := G.bind (gFz g) fun o' => match o' with
  | .d d => G.bind (gHas i) fun _ => G.bind gi fun o => storeAt i d o
  | .s _ => G.bad
theorem ixN_lt {n : Nat} {k : Int} {j : Nat} (h : ixN n k = some j) : j < n := (ixN_seq h).2.1
theorem gStore_ok {i : Nat} {gi : G Op} {g : G C} {D : Ends} (h : tS X.K mg W P (gStore i gi g) D σ H) : tAsg (tO X.K mg W (gFz g)) (gSub (tVar i) (tO X.K mg W gi) rSetL) D σ H := by
  obtain ⟨ρ, fp, F, w, h⟩ := h
  unfold gStore at h
  unfold G.bind at h
  refine oRun w Chg.refl ?_
  cases q : gFz g ρ with
  | bad => rw [q] at h; exact h
  | ex x ρ' => rw [q] at h; exact exPostS.here h
  | ok o' ρ1 =>
    rw [q] at h
    simp only [R.bind_ok] at h
    cases o' with
    | s _ => exact h.elim
    | d d =>
      simp only [gHas] at h
      intro v F1 H1 fp1 w1 r1 s1 c1
      have r1' : Dq X.K F1 v d := r1
      cases q0 : ρ1[i]? with
      | none => rw [q0] at h; exact h.elim
      | some oc =>
        cases oc with
        | none => rw [q0] at h; exact h.elim
        | some c0 =>
          cases c0 with
          | val d => rw [q0] at h; exact h.elim
          | tup cs => rw [q0] at h; exact h.elim
          | dic ks cs => rw [q0] at h; exact h.elim
          | obj cl ks cs => rw [q0] at h; exact h.elim
          | lst cs0 =>
            rw [q0] at h
            simp only [R.bind_ok] at h
            obtain ⟨ov, f1, f2, q1, ⟨u, q2, q3⟩, _⟩ := w1.re.focus q0
            subst q2
            refine ⟨u, q1, ?_⟩
            simp only [Rc] at q3
            obtain ⟨a, vs, f', rfl, h2, h3, h4, h5, h6⟩ := q3
            refine oRun w1 c1 ?_
            cases q4 : gi ρ1 with
            | bad => rw [q4] at h; exact h
            | ex x ρ' => rw [q4] at h; exact exPostS.here h
            | ok o ρ2 =>
              rw [q4] at h
              simp only [R.bind_ok, storeAt] at h
              intro vo F2 H2 fp2 w2 r2 s2 c2
              cases q5 : ρ2[i]? with
              | none => rw [q5] at h; exact h.elim
              | some oc =>
                cases oc with
                | none => rw [q5] at h; exact h.elim
                | some c2' =>
                  cases c2' with
                  | val d => rw [q5] at h; exact h.elim
                  | tup cs => rw [q5] at h; exact h.elim
                  | dic ks cs => rw [q5] at h; exact h.elim
                  | obj cl ks cs => rw [q5] at h; exact h.elim
                  | lst cs =>
                    rw [q5] at h
                    cases q6 : deref ρ2 o with
                    | none => rw [q6] at h; exact h.elim
                    | some dk =>
                      rw [q6] at h
                      cases dk with
                      | int k =>
                        simp only at h
                        have ek := (deref_sh w2 r2 q6).int
                        cases q7 : ixN cs.length k with
                        | none => rw [q7] at h; exact h.elim
                        | some j =>
                          rw [q7] at h
                          obtain ⟨ov, g1, g2, p1, ⟨u', p2, p3⟩, dj, cv, put⟩ := w2.re.focus q5
                          rw [q1] at p1
                          subst p2
                          cases p1
                          simp only [Rc] at p3
                          obtain ⟨a', vs', f2', e1, k2, k3, k4, k5, k6⟩ := p3
                          cases e1
                          have hlen := Rcs.length k4
                          refine ⟨a, vs', k, j, rfl, ek, k2, by rw [hlen]; exact q7, ?_⟩
                          have same : ∀ {S : AS}, (∀ b, S b → b ≠ a) → ∀ b, S b → (upd H2 a (.lst (vs'.set j v))) b = H2 b ∧ F2 b = F2 b := fun hS b z => ⟨upd_ne (hS b z), rfl⟩
                          have sF : Same F2 (upd H2 a (.lst (vs'.set j v))) := fun b o e => by
                            by_cases hb : b = a
                            · subst hb; rw [k3] at e; cases e
                            · rw [upd_ne hb]; exact w2.sub b o e
                          obtain ⟨fn, n1, n2⟩ := Rcs_set (d := d) (v := v) (k4.frame (Same.refl _) (same fun b z e => by subst e; exact k5 z)) (r1'.mono s2) (ixN_lt q7)
                          have rr : Rc X.K mg F2 (upd H2 a (.lst (vs'.set j v))) (.lst (cs.set j (.val d))) (.ref a) (fun b => b = a ∨ fn b) := by
                            simp only [Rc]
                            exact ⟨a, _, fn, rfl, upd_same, k3, n1, fun z => k5 (n2 a z), fun _ => Iff.rfl⟩
                          have keep2 : ∀ b, g2 b → (upd H2 a (.lst (vs'.set j v))) b = H2 b ∧ F2 b = F2 b := same fun b z e => by subst e; exact dj _ ((k6 _).mpr (.inl rfl)) z
                          have sub1 : ∀ b, (b = a ∨ fn b) → g1 b := fun b z => (k6 b).mpr (z.imp id (n2 b))
                          have re2 := put (some (.lst (cs.set j (.val d)))) (some (.ref a)) F2 _ (fun b => b = a ∨ fn b) (Same.refl _) keep2 ⟨_, rfl, rr⟩ (fun b z => dj b (sub1 b z))
                          have e0 : σ.set i (some (.ref a)) = σ := by
                            apply List.ext_getElem?
                            intro j
                            by_cases hj : i = j
                            · subst hj; rw [q1]; exact List.getElem?_set_self (List.getElem?_eq_some_iff.mp q1).1
                            · exact List.getElem?_set_ne hj
                          rw [e0] at re2
                          have fpa : fp2 a := (cv a).mpr (.inl ((k6 a).mpr (.inl rfl)))
                          refine h σ F2 _ (fun b => (b = a ∨ fn b) ∨ g2 b) ⟨sF, re2⟩ (c2.trans ⟨Same.refl _, fun b o n e => ?_, fun b n e => rfl, fun b z => ?_⟩) fun _ _ => rfl
                          · have hb : b ≠ a := fun e => by subst e; exact n fpa
                            rw [upd_ne hb]; exact e
                          · left
                            exact (cv b).mpr (z.imp (sub1 b) id)
                      | none => exact h.elim
                      | bool b => exact h.elim
                      | str b => exact h.elim
                      | list b => exact h.elim
                      | tuple b => exact h.elim
                      | dict b => exact h.elim
theorem s_store {x : Str} {ix e : Expr} {px ps : Pos} (i : Nat) {gi : G Op} {g : G C} (he : PE X e (tE X.K mg W g)) (hi : PE X ix (tO X.K mg W gi)) (hN : X.N[i]? = some x := by rfl) (hv : Vis X.env.scope x := by first | exact Or.inl rfl | exact Or.inr (Or.inl rfl) | exact Or.inr (Or.inr rfl))
    (hd : (x == ("__debug__" : Str)) = false := by decide) (hcd : (x == ("__classdict__" : Str)) = false := by decide)
    (ha : ∀ v, assign (.Subscript (.Name x px) ix ps) X.env v = (do
      let ov ← holding [v] (eval (.Name x px) X.env)
      let iv ← holding [v, ov] (eval ix X.env)
      standAt ps
      holding [v, ov, iv] (setItem ov iv v)
      release [v, ov, iv] []) := by intro _; rfl)
    (hs : swapsWithSole [.Subscript (.Name x px) ix ps] e pos.line X.env = pure false := by rfl) (hw : swappedStores [.Subscript (.Name x px) ix ps] e X.env = pure none := by rfl)
    (h1 : (assignEach [.Subscript (.Name x px) ix ps] X.env).map (·.2) = [assign (.Subscript (.Name x px) ix ps) X.env] := by rfl) :
    PS X (.Assign [.Subscript (.Name x px) ix ps] e pos) (tS X.K mg W P (gStore i gi g)) :=
  (ps_asg (o_of he) (pg_sub (pe_var hN hv hd hcd) hi set_list ha) hs hw h1).imp fun _ _ _ => gStore_ok

/-! ### sorted(texts) -/
def leS (a b : Str) : Bool := !strLt b a
theorem leS_total (a b : Str) : (leS a b || leS b a) = true := by
  unfold leS strLt
  by_cases h : b.cps.toList < a.cps.toList
  · have : ¬ a.cps.toList < b.cps.toList := List.not_lt.mpr (List.le_of_lt h)
    simp [h, this]
  · simp [h]
theorem leS_iff {a b : Str} : leS a b = true ↔ a.cps.toList ≤ b.cps.toList := by
  unfold leS strLt
  simp [List.not_lt]
theorem leS_trans (a b c : Str) (h : leS a b = true) (k : leS b c = true) : leS a c = true := leS_iff.mpr (List.le_trans (leS_iff.mp h) (leS_iff.mp k))
theorem leS_antisymm {a b : Str} (h : leS a b = true) (k : leS b a = true) : a = b := by
  have := List.le_antisymm (leS_iff.mp h) (leS_iff.mp k)
  cases a; cases b
  simp only [Str.mk.injEq]
  exact Array.toList_inj.mp this
def sortS (xs : List Str) : List Str := xs.mergeSort leS
theorem sortedS_pairwise : ∀ {ys : List Str}, PyProof.Rows.sortedS ys = true → ys.Pairwise fun a b => leS a b = true := by
  have hlt : ∀ a b : Str, (!PySem.Spec.ltCps b.cps.toList a.cps.toList) = true → leS a b = true := fun a b h => by
    unfold leS strLt
    rw [PyProof.Rows.lt_meets]; exact h
  have key : ∀ {ys : List Str} {p : Str}, PyProof.Rows.risingS p ys = true → (p :: ys).Pairwise fun a b => leS a b = true := fun {ys} => by
    induction ys with
    | nil => intro p _; simp
    | cons y ys ih =>
      intro p h
      simp only [PyProof.Rows.risingS, Bool.and_eq_true] at h
      have t := ih h.2
      have e := hlt p y (by simpa using h.1)
      refine .cons (fun z hz => ?_) t
      rcases List.mem_cons.mp hz with q | q
      · subst q; exact e
      · exact leS_trans _ _ _ e ((List.pairwise_cons.mp t).1 z q)
  intro ys h
  cases ys with
  | nil => exact .nil
  | cons y ys => exact key h
theorem sortS_unique {xs ys : List Str} (p : ys.Perm xs) (h : PyProof.Rows.sortedS ys = true) : ys = sortS xs := by
  have q : ys.Perm (sortS xs) := p.trans (List.mergeSort_perm xs leS).symm
  exact q.eq_of_pairwise (le := fun a b => leS a b = true) (fun a b _ _ x y => leS_antisymm x y) (sortedS_pairwise h) (List.pairwise_mergeSort leS_trans leS_total xs)
def sortedD : List PyData → Option C
  | [.list ds] => (allStrs ds).bind fun xs => if decide (xs.length < 64) = true then some (mkL ((sortS xs).map .str)) else none
  | _ => none
theorem c_sorted : CallR X (.builtin "sorted") (rN X.K mg sortedD) := by
  intro pins s σ H xs us Q I r h
  obtain ⟨F, ds, c, sub, sh, e, post⟩ := h
  unfold sortedD at e
  split at e
  · rename_i ds
    cases q : allStrs ds with
    | none => rw [q] at e; cases e
    | some ns =>
      rw [q] at e
      simp only [Option.bind_some] at e
      split at e
      · rename_i hl
        cases e
        obtain ⟨v, rfl, s1⟩ := sh.one
        obtain ⟨a, vs, e1, q1, r1⟩ := s1.list sub
        rw [allStrs_eq q] at r1
        rw [r1.strs] at q1
        refine cr_sortedS pins s σ H _ us Q I r ⟨a, ns, by rw [e1], q1, of_decide_eq_true hl, fun ys p hp hs hf => ?_⟩
        rw [sortS_unique hp hs]
        refine post.lst sub (DqAll.of_strs ?_) hf
        refine lay_mem.mpr fun d hd => ?_
        have hd' : d ∈ ns.map PyData.str := by
          obtain ⟨z, hz, rfl⟩ := List.mem_map.mp hd
          exact List.mem_map.mpr ⟨z, (List.mergeSort_perm ns leS).mem_iff.mp hz, rfl⟩
        exact lay_mem.mp r1.2 d hd'
      · cases e
  · cases e
end
end Nd

/-! Nd12: zip, enumerate, parallel assignment. -/
namespace Nd
open PySem L2 RZ
section
variable [TF] {X : Cx} {K : Frag} {mg : Str → Option Value} {W : WX} {F H F0 H0 : Hp} {ρ : Env} {fp fp0 : AS} {σ σ0 : St} {P : List Nat} {pos : Pos}
/-- frozen data read -/
def opD (ρ : Env) : Op → Option PyData
  | .d d => some d
  | .s i => match ρ[i]? with
    | some (some (.val d)) => some d
    | _ => none
theorem opD_dq {o : Op} {v : V} {d : PyData} (w : Wd K mg F H ρ fp σ) (r : Ro K F σ o v) (e : opD ρ o = some d) : Dq K F v d := by
  cases o with
  | d d' =>
    simp only [opD, Option.some.injEq] at e
    subst e
    exact r
  | s i =>
    simp only [opD] at e
    cases q : ρ[i]? with
    | none => rw [q] at e; cases e
    | some oc =>
      cases oc with
      | none => rw [q] at e; cases e
      | some c =>
        rw [q] at e
        cases c with
        | val d' =>
          cases e
          obtain ⟨ov, f1, f2, q1, ⟨v', q2, q3⟩, _⟩ := w.re.focus q
          have r' : σ[i]? = some (some v) := r
          rw [q1, q2] at r'
          cases r'
          simp only [Rc] at q3
          exact q3.1
        | tup cs => cases e
        | lst cs => cases e
        | dic ks cs => cases e
        | obj cl ks cs => cases e
def zipP (xs ys : List PyData) : List PyData := (xs.zip ys).map fun p => .tuple [p.1, p.2]
theorem zipP_get {xs ys : List PyData} {i : Nat} {d : PyData} (h : (zipP xs ys)[i]? = some d) : ∃ x y, xs[i]? = some x ∧ ys[i]? = some y ∧ d = .tuple [x, y] := by
  unfold zipP at h
  rw [List.getElem?_map] at h
  cases q : (xs.zip ys)[i]? with
  | none => rw [q] at h; cases h
  | some p =>
    rw [q] at h
    cases h
    obtain ⟨h1, h2⟩ := List.getElem?_zip_eq_some.mp q
    exact ⟨_, _, h1, h2, rfl⟩
theorem zipP_length (xs ys : List PyData) : (zipP xs ys).length = min xs.length ys.length := by simp [zipP]
theorem itOk_zipL {a b : Addr} {vs us : List V} {xs ys : List PyData} (s1 : SqL K F a vs) (r1 : DqAll K F vs xs) (s2 : SqL K F b us) (r2 : DqAll K F us ys) : ItOk K mg none 0 F (zipP xs ys) (Itz K a b) where
  go := fun ρ fp F' H' σ i w _ _ se hi => by
    rw [zipP_length, ← r1.length, ← r2.length] at hi
    exact ⟨vs, us, vs[i], us[i], w.sub.seq (se.seq s1), w.sub.seq (se.seq s2), List.getElem?_eq_getElem (by omega), List.getElem?_eq_getElem (by omega)⟩
  yld := fun ρ fp F' H' σ i x H2 d w _ _ se hd hy => by
    obtain ⟨x1, y1, h1, h2, rfl⟩ := zipP_get hd
    obtain ⟨T, x2, y2, rfl, hT, rfl, k1, k2⟩ := hy
    obtain ⟨u1, e1, q1⟩ := r1.get h1
    obtain ⟨u2, e2, q2⟩ := r2.get h2
    have z1 := k1 vs (w.sub.seq (se.seq s1))
    have z2 := k2 us (w.sub.seq (se.seq s2))
    rw [e1] at z1; rw [e2] at z2
    have z1' := Option.some.inj z1
    have z2' := Option.some.inj z2
    subst z1' z2'
    have x := Frs.newF (p := T) (o := .tup [u1, u2]) w.sub hT
    exact ⟨_, x, .tup (.of upd_same) (.cons (q1.mono (se.trans x.fz)) (.cons (q2.mono (se.trans x.fz)) .nil))⟩
  stop := fun ρ fp F' H' σ w _ _ se => by
    refine ⟨vs, us, w.sub.seq (se.seq s1), w.sub.seq (se.seq s2), ?_⟩
    rw [zipP_length, r1.length, r2.length]
    omega
theorem itOk_zipT {a b : Addr} {vs us : List V} {xs ys : List PyData} (s1 : SqT K F a vs) (r1 : DqAll K F vs xs) (s2 : SqT K F b us) (r2 : DqAll K F us ys) : ItOk K mg none 0 F (zipP xs ys) (ItzT K a b) where
  go := fun ρ fp F' H' σ i w _ _ se hi => by
    rw [zipP_length, ← r1.length, ← r2.length] at hi
    exact ⟨vs, us, vs[i], us[i], SqT.mono w.sub (SqT.mono se s1), SqT.mono w.sub (SqT.mono se s2), List.getElem?_eq_getElem (by omega), List.getElem?_eq_getElem (by omega)⟩
  yld := fun ρ fp F' H' σ i x H2 d w _ _ se hd hy => by
    obtain ⟨x1, y1, h1, h2, rfl⟩ := zipP_get hd
    obtain ⟨T, x2, y2, rfl, hT, rfl, k1, k2⟩ := hy
    obtain ⟨u1, e1, q1⟩ := r1.get h1
    obtain ⟨u2, e2, q2⟩ := r2.get h2
    have z1 := k1 vs (SqT.mono w.sub (SqT.mono se s1))
    have z2 := k2 us (SqT.mono w.sub (SqT.mono se s2))
    rw [e1] at z1; rw [e2] at z2
    have z1' := Option.some.inj z1
    have z2' := Option.some.inj z2
    subst z1' z2'
    have x := Frs.newF (p := T) (o := .tup [u1, u2]) w.sub hT
    exact ⟨_, x, .tup (.of upd_same) (.cons (q1.mono (se.trans x.fz)) (.cons (q2.mono (se.trans x.fz)) .nil))⟩
  stop := fun ρ fp F' H' σ w _ _ se => by
    refine ⟨vs, us, SqT.mono w.sub (SqT.mono se s1), SqT.mono w.sub (SqT.mono se s2), ?_⟩
    rw [zipP_length, r1.length, r2.length]
    omega
def szOk (ds : List PyData) : Bool := decide (ds.length ≤ sizeLine)
def zipI : Option PyData → Option PyData → Option (List PyData)
  | some (.list xs), some (.list ys) => if szOk (zipP xs ys) = true then some (zipP xs ys) else none
  | some (.tuple xs), some (.tuple ys) => if szOk (zipP xs ys) = true then some (zipP xs ys) else none
  | _, _ => none
def gZip (ga gb : G Op) : G Itm := G.bind ga fun a => G.bind gb fun b => fun ρ => match zipI (opD ρ a) (opD ρ b) with
  | some ds => .ok ⟨ds, none⟩ ρ
  | none => .bad
theorem i_zip {e e2 : Expr} {p pos tpos : Pos} {elts : List Expr} {kk : Nat} {ga gb : G Op} (hg : Gl X "zip") (hm : X.mg "zip" = none) (ha : PE X e (tO X.K mg W ga)) (hb : PE X e2 (tO X.K mg W gb))
    (hs : starEach [e, e2] X.env = (false, eval e X.env) :: starEach [e2] X.env := by rfl) (hs2 : starEach [e2] X.env = (false, eval e2 X.env) :: starEach [] X.env := by rfl) (hpl : (backTo pos (starEach [e2] X.env)).any (·.1) = false := by rfl) :
    PI X (.Tuple elts kk tpos) (.Call (.Name "zip" p) [e, e2] [] pos) (tI X.K mg W (gZip ga gb)) := by
  refine ⟨fun pins s σ H Rr I h => ?_⟩
  refine (pi_zipA hg hm (pa_cons ha (pa_cons hb pa_nil hs2) hs) hs hpl).run pins s σ H Rr I ?_
  obtain ⟨ρ, fp, F, w, h⟩ := h
  unfold gZip G.bind at h
  refine oRun w Chg.refl ?_
  cases q : ga ρ with
  | bad => rw [q] at h; exact h.elim
  | ex x ρ' => rw [q] at h; exact h
  | ok a ρ1 =>
    rw [q] at h
    simp only [R.bind_ok] at h
    intro v F1 H1 fp1 w1 r1 s1 c1
    refine oRun w1 c1 ?_
    cases q2 : gb ρ1 with
    | bad => rw [q2] at h; exact h.elim
    | ex x ρ' => rw [q2] at h; exact h
    | ok b ρ2 =>
      rw [q2] at h
      simp only [R.bind_ok] at h
      intro u F2 H2 fp2 w2 r2 s2 c2
      cases z : zipI (opD ρ2 a) (opD ρ2 b) with
      | none => rw [z] at h; exact h.elim
      | some ds =>
        rw [z] at h
        unfold zipI at z
        split at z
        · rename_i xs ys ex ey
          split at z
          · rename_i hl
            cases z
            obtain ⟨a1, vs, rfl, t1, p1⟩ := (opD_dq w2 (r1.mono s2) ex).list_inv
            obtain ⟨a2, us, rfl, t2, p2⟩ := (opD_dq w2 r2 ey).list_inv
            exact ⟨a1, a2, vs, us, rfl, .inl ⟨w2.sub.seq t1, w2.sub.seq t2, h _ 0 F2 H2 fp2 w2 c2 trivial trivial (itOk_zipL t1 p1 t2 p2) (of_decide_eq_true hl)⟩⟩
          · cases z
        · rename_i xs ys ex ey
          split at z
          · rename_i hl
            cases z
            obtain ⟨a1, vs, rfl, t1, p1⟩ := (opD_dq w2 (r1.mono s2) ex).tup_inv
            obtain ⟨a2, us, rfl, t2, p2⟩ := (opD_dq w2 r2 ey).tup_inv
            exact ⟨a1, a2, vs, us, rfl, .inr ⟨SqT.mono w2.sub t1, SqT.mono w2.sub t2, h _ 0 F2 H2 fp2 w2 c2 trivial trivial (itOk_zipT t1 p1 t2 p2) (of_decide_eq_true hl)⟩⟩
          · cases z
        · cases z
theorem src_zip {ga gb : G Op} {T : Src → Prop} (h0 : T none) : ∀ ρ it ρ', gZip ga gb ρ = .ok it ρ' → T it.src := by
  intro ρ it ρ' e
  unfold gZip G.bind at e
  cases z : ga ρ with
  | bad => rw [z] at e; cases e
  | ex x ρ1 => rw [z] at e; cases e
  | ok c ρ1 =>
    rw [z] at e
    simp only [R.bind_ok] at e
    cases z2 : gb ρ1 with
    | bad => rw [z2] at e; cases e
    | ex x ρ1 => rw [z2] at e; cases e
    | ok c2 ρ2 =>
      rw [z2] at e
      simp only [R.bind_ok] at e
      split at e
      · cases e; exact h0
      · cases e

/-! ### enumerate(list) -/
def enumP (xs : List PyData) : List PyData := xs.zipIdx.map fun p => .tuple [.int p.2, p.1]
theorem itOk_enumL {a : Addr} {vs : List V} {xs : List PyData} (s1 : SqL K F a vs) (r1 : DqAll K F vs xs) : ItOk K mg none 0 F (enumP xs) (Ite K a) where
  go := fun ρ fp F' H' σ i w _ _ se hi => by
    have hi' : i < vs.length := by rw [r1.length]; simpa [enumP] using hi
    exact ⟨vs, vs[i], w.sub.seq (se.seq s1), List.getElem?_eq_getElem hi'⟩
  yld := fun ρ fp F' H' σ i x H2 d w _ _ se hd hy => by
    unfold enumP at hd
    rw [List.getElem?_map, List.getElem?_zipIdx] at hd
    obtain ⟨T, x2, rfl, hT, rfl, k1⟩ := hy
    cases q : xs[i]? with
    | none => rw [q] at hd; cases hd
    | some x1 =>
      rw [q] at hd
      simp only [Option.map_some, Option.some.injEq] at hd
      subst hd
      obtain ⟨u1, e1, q1⟩ := r1.get q
      have z1 := k1 vs (w.sub.seq (se.seq s1))
      rw [e1] at z1
      have z1' := Option.some.inj z1
      subst z1'
      have x := Frs.newF (p := T) (o := .tup [.int (i : Nat), u1]) w.sub hT
      exact ⟨_, x, .tup (.of upd_same) (.cons (by simpa using Dq.int (K := K) (F := upd F' T (.tup [.int (i : Nat), u1])) ((i : Nat) : Int)) (.cons (q1.mono (se.trans x.fz)) .nil))⟩
  stop := fun ρ fp F' H' σ w _ _ se => ⟨vs, w.sub.seq (se.seq s1), by rw [r1.length]; simp [enumP]⟩
def enumI : Option PyData → Option (List PyData)
  | some (.list xs) => if szOk xs = true then some (enumP xs) else none
  | _ => none
def gEnum (ga : G Op) : G Itm := G.bind ga fun a => fun ρ => match enumI (opD ρ a) with
  | some ds => .ok ⟨ds, none⟩ ρ
  | none => .bad
theorem i_enum {e : Expr} {p pos tpos : Pos} {elts : List Expr} {kk : Nat} {ga : G Op} (hg : Gl X "enumerate") (hm : X.mg "enumerate" = none) (ha : PE X e (tO X.K mg W ga))
    (hs : starEach [e] X.env = [(false, eval e X.env)] := by rfl) : PI X (.Tuple elts kk tpos) (.Call (.Name "enumerate" p) [e] [] pos) (tI X.K mg W (gEnum ga)) := by
  refine ⟨fun pins s σ H Rr I h => ?_⟩
  refine (pi_enum hg hm (pa_cons ha pa_nil hs) hs).run pins s σ H Rr I ?_
  obtain ⟨ρ, fp, F, w, h⟩ := h
  unfold gEnum G.bind at h
  refine oRun w Chg.refl ?_
  cases q : ga ρ with
  | bad => rw [q] at h; exact h.elim
  | ex x ρ' => rw [q] at h; exact h
  | ok a ρ1 =>
    rw [q] at h
    simp only [R.bind_ok] at h
    intro v F1 H1 fp1 w1 r1 s1 c1
    cases z : enumI (opD ρ1 a) with
    | none => rw [z] at h; exact h.elim
    | some ds =>
      rw [z] at h
      unfold enumI at z
      split at z
      · rename_i xs ex
        split at z
        · rename_i hl
          cases z
          obtain ⟨a1, vs, rfl, t1, p1⟩ := (opD_dq w1 r1 ex).list_inv
          exact ⟨a1, vs, rfl, w1.sub.seq t1, h _ 0 F1 H1 fp1 w1 c1 trivial trivial (itOk_enumL t1 p1) (by simpa [enumP, szOk] using hl)⟩
        · cases z
      · cases z
theorem src_enum {ga : G Op} {T : Src → Prop} (h0 : T none) : ∀ ρ it ρ', gEnum ga ρ = .ok it ρ' → T it.src := by
  intro ρ it ρ' e
  unfold gEnum G.bind at e
  cases z : ga ρ with
  | bad => rw [z] at e; cases e
  | ex x ρ1 => rw [z] at e; cases e
  | ok c ρ1 =>
    rw [z] at e
    simp only [R.bind_ok] at e
    split at e
    · cases e; exact h0
    · cases e

/-! ### x, y = a, b -/
def gPar (i j : Nat) (ga gb : G C) : G Fl := G.bind (gEs [ga, gb]) fun cs => match cs with
  | [a, b] => fun ρ => if decide (i < ρ.length ∧ j < ρ.length) = true then .ok .next ((ρ.set i (some a)).set j (some b)) else .bad
  | _ => G.bad
theorem gPar_ok {i j : Nat} (hi : i ∉ P) (hj : j ∉ P) {ga gb : G C} {D : Ends} (h : tS K mg W P (gPar i j ga gb) D σ H) : tPar i j (tEs K mg W (gEs [ga, gb])) D σ H := by
  obtain ⟨ρ, fp, F, w, h⟩ := h
  unfold gPar at h
  rw [G.bind_at] at h
  refine esRun w Chg.refl ?_
  cases q : gEs [ga, gb] ρ with
  | bad => rw [q] at h; exact h
  | ex x ρ' => rw [q] at h; exact exPostS.here h
  | ok cs ρ1 =>
    rw [q] at h
    simp only [R.bind_ok] at h
    intro vs F' H' fp' fv w' r d _ c'
    match cs, h, r with
    | [a, b], h, r =>
      simp only [Rcs] at r
      obtain ⟨v, vr, f1, f2, rfl, r1, ⟨u, ur, g1, g2, rfl, r2, ⟨rfl, n2⟩, dj2, cv2⟩, dj, cv⟩ := r
      refine ⟨v, u, rfl, ?_⟩
      simp only at h
      by_cases hl : i < ρ1.length ∧ j < ρ1.length
      · rw [if_pos (decide_eq_true hl)] at h
        obtain ⟨fpa, wa, ka⟩ := w'.put hl.1 r1 (fun a z => d a ((cv a).mpr (.inl z)))
        have f2g : ∀ a, g1 a → f2 a := fun a z => (cv2 a).mpr (.inl z)
        obtain ⟨fpb, wb, kb⟩ := wa.put (i := j) (by rw [List.length_set]; exact hl.2) r2 (fun a z y => (ka a y).elim (d a ((cv a).mpr (.inr (f2g a z)))) fun x => dj a x (f2g a z))
        refine h _ F' H' fpb wb (c'.to fun a z => ?_) fun k hk => ?_
        · rcases kb a z with y | y
          · exact (ka a y).imp id fun x => (cv a).mpr (.inl x)
          · exact .inr ((cv a).mpr (.inr (f2g a y)))
        · rw [keep_set hj k hk, keep_set hi k hk]
      · rw [if_neg (by simpa using hl)] at h
        exact h.elim
    | [], h, r => exact h.elim
    | [_], h, r => exact h.elim
    | _ :: _ :: _ :: _, h, r => exact h.elim
theorem s_par {i j : Nat} {x y : Str} {a b : Expr} {ga gb : G C} {px py pt : Pos} {kt k2 pt2} (hi : i ∉ P) (hj : j ∉ P) (hc : X.calm = true) (hN : X.N.Nodup) (hx : X.N[i]? = some x) (hy : X.N[j]? = some y) (hij : i ≠ j)
    (hxl : X.env.scope.names.lookup x = some .local) (hyl : X.env.scope.names.lookup y = some .local) (ha : PA X [a, b] (tEs X.K mg W (gEs [ga, gb])))
    (hw : swappedStores [.Tuple [.Name x px, .Name y py] kt pt] (.Tuple [a, b] k2 pt2) X.env = pure (some [x, y]))
    (hs : swapsWithSole [.Tuple [.Name x px, .Name y py] kt pt] (.Tuple [a, b] k2 pt2) pos.line X.env = pure false := by rfl) :
    PS X (.Assign [.Tuple [.Name x px, .Name y py] kt pt] (.Tuple [a, b] k2 pt2) pos) (tS X.K mg W P (gPar i j ga gb)) := (ps_par hc hN hx hy hij hxl hyl ha hw hs).imp fun _ _ _ => gPar_ok hi hj
end
end Nd

/-! Nd13: -e; defs among the texts; a def that isn't reached. -/
namespace L2
open PySem
theorem Room.u65 {k : Nat} {A : Around} (r : Room k A) : A.units + 65 < cLine := by have := r.un; omega
end L2
namespace Nd
open PySem L2
section
variable [TF] {X : Cx} {K : Frag} {mg : Str → Option Value} {W : WX} {F H : Hp} {ρ : Env} {fp : AS} {σ : St} {pos : Pos}
def gNeg (g : G Op) : G C := G.bind g fun o ρ => match deref ρ o with
  | some (.int i) => .ok (.val (.int (-i))) ρ
  | _ => .bad
theorem e_neg {e : Expr} {g : G Op} (he : PE X e (tO K mg W g)) : PE X (.UnaryOp .USub e pos) (tE K mg W (gNeg g)) := (pe_un un_neg he).imp fun σ H Q h => by
  obtain ⟨ρ, fp, F, w, h⟩ := h
  unfold gNeg G.bind at h
  refine oRun w Chg.refl ?_
  cases q : g ρ with
  | bad => rw [q] at h; exact h
  | ex x ρ' => rw [q] at h; exact h
  | ok o ρ1 =>
    rw [q] at h
    simp only [R.bind_ok] at h
    intro v F1 H1 fp1 w1 r1 s1 c1
    cases z : deref ρ1 o with
    | none => rw [z] at h; exact h.elim
    | some d =>
      rw [z] at h
      cases d with
      | int i => exact ⟨i, (deref_sh w1 r1 z).int, (fin_post w1 c1 h).val w1.sub (.int _)⟩
      | none => exact h.elim
      | bool b => exact h.elim
      | str b => exact h.elim
      | list b => exact h.elim
      | tuple b => exact h.elim
      | dict b => exact h.elim
end
section
variable [TF] {X : Cx} {K : Frag} {mg : Str → Option Value} {W : WX}
/-- an operand's data as a value -/
def vlk : Op → G C
  | .d d => G.ret (.val d)
  | .s _ => G.bad
def gVal (g : G Op) : G C := G.bind g vlk
theorem e_val {e : Expr} {g : G Op} (he : PE X e (tO K mg W g)) : PE X e (tE K mg W (gVal g)) := he.imp fun σ H Q h => by
  obtain ⟨ρ, fp, F, w, h⟩ := h
  unfold gVal G.bind at h
  refine oRun w Chg.refl ?_
  cases q : g ρ with
  | bad => rw [q] at h; exact h
  | ex x ρ' => rw [q] at h; exact h
  | ok o ρ1 =>
    rw [q] at h
    simp only [R.bind_ok] at h
    intro v F1 H1 fp1 w1 r1 s1 c1
    cases o with
    | d d => exact h v F1 H1 fp1 _ w1 (Rc.of_dp r1) (fun _ z => z.elim) c1.or_false
    | s i => exact h.elim
end
section
variable [TF] {X : Cx} {pos : Pos}
theorem pe_tyN {T : String} {x : Str} (hg : Gl X x) (hm : X.mg x = none) (hv : bootBuiltins x = some (.type T)) (hn : x ≠ "__name__" := by decide) (hd : (x == ("__debug__" : Str)) = false := by decide) : PE X (.Name x pos) (tC (.ty T)) :=
  ⟨fun pins s σ H Q I h => ld_blt I hg hm hv ⟨.ty T, H, I, rfl, h⟩ hn hd⟩
end
section
variable [TF] {Pg : Program} {w : World} {K : Frag} {mg : Str → Option Value} {base : Heap}
theorem hP_of {bs : List Bool} {P : List Nat} (h : ((List.range bs.length).all fun i => !(bs.getD i false) || decide (i ∈ P)) = true) : ∀ i : Nat, bs[i]? = some true → i ∈ P := fun i hi => by
  have hl := (List.getElem?_eq_some_iff.mp hi).1
  have := List.all_eq_true.mp h i (List.mem_range.mpr hl)
  simp only [List.getD_eq_getElem?_getD, hi, Option.getD_some, Bool.not_true, Bool.false_or, decide_eq_true_eq] at this
  exact this
/-- a def among the texts -/
structure DefAt (K : Frag) (mg : Str → Option Value) (x : Str) (st : Stmt) (ps : List Str) : Prop where
  ex : ∃ f fd, Fun K x x st f fd ∧ mg x = some (.ref f) ∧ PySem.W.keepIn K (.ref f) = true ∧ Binds K fd ps []
theorem DefAt.cal {x : Str} {st : Stmt} {N ps : List Str} {k : Nat} (D : DefAt K mg x st ps) (S : FnScope N ps (defScope st)) (P : List Nat) (bs : List Bool) {g : G Fl} (hN : ps.length ≤ N.length) (hb : bs.length = ps.length) (hP : ∀ i : Nat, bs[i]? = some true → i ∈ P)
    (hbody : ∀ (f : Addr) (cdv : Value) (hc : CodeAt K f cdv) (hf : mg x = some (.ref f)) (A : Around) (outer : List PySem.Env) (s : Shared) (H : Hp) (E : XK), Room k (A.deeper (PyProof.Rows.envOfC x (defScope st) s.heap.objs.size f cdv)) → PSs (cxOf (L2.CX Pg w) Pg w K mg base N x (defScope st) f cdv A outer s H E) (defBody st) (tS K mg (WDef E) P g)) :
    Cal Pg w K mg base x ps.length (k + 1) (fnOf N.length bs g) := by
  obtain ⟨f, fd, F, hm, hk, hbi⟩ := D.ex
  exact ⟨⟨f, fd, ps, fn_ok F S P bs hN hb hP (fun cdv hc => hbody f cdv hc hm), hm, hk, hbi⟩⟩
theorem DefAt.none {x : Str} {st : Stmt} {ps : List Str} {k : Nat} (D : DefAt K mg x st ps) : Cal Pg w K mg base x ps.length k (fun _ => .bad) := by
  obtain ⟨f, fd, F, hm, hk, hbi⟩ := D.ex
  exact ⟨⟨f, fd, ps, ⟨fun vs H Q E h => by obtain ⟨_, _, _, e, _⟩ := h; exact e, fun A outer s H args us vs Q E hr he hb hv hs => by obtain ⟨_, _, _, _, _, _, z⟩ := hs; exact z.elim⟩, hm, hk, hbi⟩⟩
end
end Nd

/-! Nd14: the law's promise. -/
namespace Nd
open PySem PySem.Spec PyProof.Rows L2
/-- it answers True to every script -/
def spLaw [TF] (K : Frag) : Sp := fun vs H Q _ => ∃ (a : Addr) (ns : List Int), vs = [.ref a] ∧ SqL K H a (ns.map V.int) ∧ ns.length ≤ 63 ∧ (∀ p ∈ tabs K, H p.1 = some (.tbl #[])) ∧ ∀ H', Q (.bl true) H'
theorem ints_dq {K : Frag} {F : Hp} : ∀ ns : List Int, DqAll K F (ns.map V.int) (ns.map .int)
  | [] => .nil
  | n :: ns => .cons (.int n) (ints_dq ns)
open Classical in
/-- all but the tables -/
noncomputable def noTab [TF] (K : Frag) (H : Hp) : Hp := fun b => if (∃ q, (b, q) ∈ tabs K) then none else H b
theorem law_imp [TF] {Pg : Program} {w : World} {K : Frag} {mg : Str → Option Value} {base : Heap} {k : Nat} {f : Addr} {fd : FuncData} {x : Str} {fn : Fn} (F : FnOk Pg w K mg base (L2.CX Pg w) k f fd [x] (SpOf K mg 1 fn))
    (hl : ∀ ns : List Int, ns.length ≤ 63 → ∃ cs, fn [.val (.list (ns.map .int))] = .ok (.val (.bool true)) cs) : FnOk Pg w K mg base (L2.CX Pg w) k f fd [x] (spLaw K) :=
  F.imp fun vs H Q E ⟨a, ns, e, s, hn, ht, q⟩ => by
    obtain ⟨cs, ec⟩ := hl ns hn
    subst e
    have keep : ∀ b o, H b = some o → (∀ ps, o ≠ .tbl ps) → noTab K H b = some o := fun b o h1 h2 => by
      unfold noTab
      by_cases c : ∃ q, (b, q) ∈ tabs K
      · obtain ⟨q, m⟩ := c
        have := ht _ m
        rw [this] at h1
        exact absurd (Option.some.inj h1).symm (h2 _)
      · rw [if_neg c]; exact h1
    have s' : SqL K (noTab K H) a (ns.map V.int) := by
      rcases s with (s | ⟨o, s⟩) | s
      · exact .inl (.inl (keep _ _ s (fun _ z => by cases z)))
      · exact .inl (.inr ⟨o, keep _ _ s (fun _ z => by cases z)⟩)
      · exact .inr s
    have sub : Same (noTab K H) H := fun b o h => by
      unfold noTab at h
      split at h
      · cases h
      · exact h
    have tb : Tb K (noTab K H) H (fun b => ∃ q, (b, q) ∈ tabs K) := by
      refine ⟨fun b => Iff.rfl, fun p m => ⟨?_, #[], ht p m, trivial, fun pos cv hc => ?_⟩⟩
      · unfold noTab
        exact if_pos ⟨p.2, m⟩
      · have z : codeAmong pos [] = some cv := hc
        simp [codeAmong] at z
    refine ⟨noTab K H, [.val (.list (ns.map .int))], fun b => False ∨ ∃ q, (b, q) ∈ tabs K, rfl, sub, ⟨fun _ => False, _, ?_, tb, fun _ z => z.elim, fun _ => Iff.rfl⟩, ?_⟩
    · simp only [Rcs]
      exact ⟨_, [], fun _ => False, fun _ => False, rfl, Rc.of_dp (.lst s' (ints_dq ns)), ⟨rfl, fun _ z => z⟩, fun _ z => z.elim, fun _ => by simp⟩
    · rw [ec]
      intro v F' H' fp' fv _ _ r _ _
      simp only [Rc] at r
      rw [r.1.bl_inv]
      exact q H'
theorem noCX {Pg : Program} {w : World} (H : Hp) (s : Shared) (e : Value) (s' : Shared) (z : L2.CX Pg w [] H s (fun _ _ _ => False) e s') : False := by
  obtain ⟨_, _, _, _, _, _, _, _, _, _, _, _, z⟩ := z
  exact z
/-- a def's datum -/
def dd (x : Str) (st : Stmt) : He.DefD := ⟨(x, none), x, x, defArgs st, defBody st, defScope st, [], []⟩
theorem fun_of {K : Frag} {x qual : Str} {st : Stmt} {f : Addr} {fd : FuncData} (F : FunD K x qual (defArgs st) (defBody st) (defScope st) [] [] f fd) : Fun K x qual st f fd := by
  obtain ⟨oc, od, dV, kV, doc, pm, an, cdv, ct, osl, rfl, lk, hcd, hD, hK⟩ := F.ex
  rcases hD with ⟨_, rfl⟩ | ⟨e, _⟩
  · exact ⟨⟨oc, od, kV, doc, pm, an, cdv, ct, osl, rfl, lk, hcd⟩, F.kp⟩
  · exact absurd rfl e
section
variable [TF] {K : Frag} {h : Heap} {mg : Str → Option Value} {fas : List He.Fa} {fns : List He.DefD}
theorem defAt (X : K.In h) (G : h.Ns mainGlobals mg) (c : He.SaysD fas fns K) {x : Str} {st : Stmt} {ps : List Str} (i j : Nat)
    (hi : fns[i]? = some (dd x st)) (hj : fas[j]? = some (.glo x))
    (hb : ∀ (kV doc pm : Value) (an : Option Addr) (cdv ct : Value) (us : List Value), us.length = ps.length → bindArgs (PySem.W.fnOf x x (defArgs st) (defBody st) (defScope st) .none kV doc pm an cdv ct) ⟨us, []⟩ = pure (ps.zip us)) :
    DefAt K mg x st ps := by
  obtain ⟨fd, F⟩ := c.def_ i hi
  have e := He.glo_ok X G (c.fact j hj)
  exact ⟨⟨_, fd, fun_of F, e, F.kp, FunD.bindsN F hb⟩⟩
end
end Nd
namespace Nd
open PySem PySem.Spec PyProof.Rows L2
/-- the law's run, from what the top wrote -/
theorem walkW [TF] {l : PySem.W.OpenLaw} {k : Nat} {q : Program} {loose : List Str} {XP : (Str → Option Value) → Heap → Prop} {YP : World → Heap → Prop} {d : DefRec} {x : Str} (h63 : l.most = some 63) (nodef : d.params.defaults = []) (room : Room k callerA)
    (F : ∀ (w : World) (mg : Str → Option Value) (fa : Addr) (h : Heap), YP w h → h.Ns mainGlobals mg → mg d.name = some (.ref fa) → ∃ (K : Frag) (fd : FuncData), K.In h ∧ (∀ p ∈ TF.tf, h.get? (He.cT K p.1).2 = some { cls := .none, data := .fields #[] } ∧ K.lookup (He.cT K p.1).2 = none ∧ PySem.W.CodeHd h (He.cT K p.1).1 (He.cT K p.1).2) ∧ (∀ (s : Shared) (u : Value), BindsTo s fd ⟨[u], []⟩ [(x, u)]) ∧
      ∀ base : Heap, K.In base → base.Ns mainGlobals mg → (∀ p ∈ TF.tf, LamX.TabB base mg (He.cT K p.1).1 (He.cT K p.1).2) → FnOk l.prog w K mg base (L2.CX l.prog w) k fa fd [x] (spLaw K)) : PySem.W.WalkO q loose XP YP l.row.toRowW d [] (fun f vs => PySem.call f vs) :=
  Att.attach_call h63 nodef fun w s0 s1 mg mb fa o pm cd doc a vs ns G Y ho hd hcd hmg hobj hints hlen hg => by
    obtain ⟨K, fd, KX, hT, hb, hF⟩ := F w mg fa _ Y G.T.g hmg
    have mem : ∀ p ∈ TF.tf.map (fun p => He.cT K p.1), ∃ q ∈ TF.tf, p = He.cT K q.1 := fun p hp => by
      obtain ⟨q, h1, h2⟩ := List.mem_map.mp hp
      exact ⟨q, h1, h2.symm⟩
    refine LamX.law_callTs (cs := TF.tf.map fun p => He.cT K p.1) KX G.T.g G.T.b G.T.builtins G.T.nolimit hg (fun p hp => ?_) (fun p hp => ?_) (fun p hp => ?_) G.T.bmain hobj hints (Nat.le_trans hlen (by decide)) room (fun base b1 b2 b3 => hF base b1 b2 fun p hp => b3 _ (List.mem_map.mpr ⟨p, hp, rfl⟩)) hb (fun H hH hS => ⟨a, ns, rfl, hS, hlen, fun p hp => ?_, fun _ => rfl⟩) fun H e s' z => noCX H s1 e s' z
    · obtain ⟨q, h1, rfl⟩ := mem p hp
      exact (hT q h1).1
    · obtain ⟨q, h1, rfl⟩ := mem p hp
      exact (hT q h1).2.1
    · obtain ⟨q, h1, rfl⟩ := mem p hp
      exact (hT q h1).2.2
    · obtain ⟨q, h1, h2⟩ := List.mem_map.mp hp
      subst h2
      exact hH _ (List.mem_map.mpr ⟨q, h1, rfl⟩)
/-- a def that makes lambdas: its code object, its table -/
structure LamAt [TF] (K : Frag) (mg : Str → Option Value) (base : Heap) (cdv : Value) (q : Str) : Prop where
  ex : ∃ c P, cdv = .ref c ∧ LamX.TabB base mg c P ∧ (P, q) ∈ tabs K ∧ ∀ p ∈ tabs K, p.1 = P → p.2 = q
/-- what the walk of such a def leans on -/
def Lm [TF] (K : Frag) (mg : Str → Option Value) (base : Heap) (x q : Str) : Prop := ∀ f cdv, mg x = some (.ref f) → CodeAt K f cdv → LamAt K mg base cdv q
theorem lm_of [TF] {K : Frag} {mg : Str → Option Value} {base : Heap} {x q : Str} (hx : mg x = some (.ref (He.ga K x))) (hc : ∃ oc od osl fd c, K.lookup (He.ga K x) = some ⟨oc, od, .func fd, osl⟩ ∧ fd.code = .ref c) (hm : ((x, none), q) ∈ TF.tf) (nd : (TF.tf.map fun p => (He.cT K p.1).2).Nodup)
    (TB : ∀ p ∈ TF.tf, LamX.TabB base mg (He.cT K p.1).1 (He.cT K p.1).2) : Lm K mg base x q := fun f cdv hf ⟨oc, od, osl, fd, lk, e⟩ => by
  rw [hx] at hf
  have ef : He.ga K x = f := by
    have := Option.some.inj hf
    injection this
  subst ef
  obtain ⟨oc', od', osl', fd', c, lk', e'⟩ := hc
  rw [lk] at lk'
  have e2 := Option.some.inj lk'
  injection e2 with _ _ e3 _
  injection e3 with e3
  subst e3
  have ec : He.codeOf K (x, none) = c := He.codeOf_eq (p := (x, none)) lk e'
  refine ⟨c, _, e.symm.trans e', ?_, List.mem_map.mpr ⟨_, hm, rfl⟩, fun p hp hq => ?_⟩
  · have := TB _ hm
    show LamX.TabB base mg c (He.cT K (x, none)).2
    have e5 : (He.cT K (x, none)).1 = c := ec
    rw [← e5]
    exact this
  · obtain ⟨p0, h1, h2⟩ := List.mem_map.mp hp
    subst h2
    have q1 : (He.cT K p0.1).2 = (He.cT K (x, none)).2 := hq
    show p0.2 = q
    obtain ⟨i, hi, ei⟩ := List.mem_iff_getElem.mp h1
    obtain ⟨j, hj, ej⟩ := List.mem_iff_getElem.mp hm
    have hij : i = j := by
      refine (List.getElem_inj (h₀ := by simpa using hi) (h₁ := by simpa using hj) nd).mp ?_
      simp only [List.getElem_map, ei, ej]
      exact q1
    subst hij
    rw [ei] at ej
    rw [ej]
theorem codeFd {K : Frag} {fas : List He.Fa} {fns : List He.DefD} (c : He.SaysD fas fns K) {x : Str} {st : Stmt} (i : Nat) (hi : fns[i]? = some (dd x st)) : ∃ oc od osl fd c, K.lookup (He.ga K x) = some ⟨oc, od, .func fd, osl⟩ ∧ fd.code = .ref c := by
  obtain ⟨fd, F⟩ := c.def_ i hi
  obtain ⟨oc, od, dV, kV, doc, pm, an, cdv, ct, osl, e, lk, hcd, _, _⟩ := F.ex
  obtain ⟨c, ec⟩ := He.codeIn_ref hcd
  exact ⟨oc, od, osl, fd, c, lk, by rw [e]; exact ec⟩
end Nd

/-! Nd15: the meanings computed at a given frame. -/
namespace Nd
open PySem L2
section
variable [TF] {α β : Type} {ρ : Env}
/-! the steps' ends -/
def sq (r : R Fl) (g : G Fl) : R Fl := r.bind fun f => match f with
  | .next => g
  | .brk => G.ret .brk
  | .cont => G.ret .cont
  | .ret c => G.ret (.ret c)
@[simp] theorem sq_next {g} : sq (.ok .next ρ) g = g ρ := rfl
@[simp] theorem sq_brk {g} : sq (.ok .brk ρ) g = .ok .brk ρ := rfl
@[simp] theorem sq_cont {g} : sq (.ok .cont ρ) g = .ok .cont ρ := rfl
@[simp] theorem sq_ret {g c} : sq (.ok (.ret c) ρ) g = .ok (.ret c) ρ := rfl
@[simp] theorem sq_ex {g x} : sq (.ex x ρ) g = .ex x ρ := rfl
@[simp] theorem sq_bad {g} : sq .bad g = .bad := rfl
def tst (r : R Bool) (a b : G α) : R α := r.bind fun t => if t = true then a else b
@[simp] theorem tst_o {t : Bool} {a b : G α} : tst (.ok t ρ) a b = if t = true then a ρ else b ρ := by unfold tst; cases t <;> rfl
@[simp] theorem tst_ex {x} {a b : G α} : tst (.ex x ρ) a b = .ex x ρ := rfl
@[simp] theorem tst_bad {a b : G α} : tst .bad a b = .bad := rfl
def fin (o : Option α) (ρ : Env) : R α := gFin o ρ
@[simp] theorem fin_some {c : α} : fin (some c) ρ = .ok c ρ := rfl
@[simp] theorem fin_none : fin (none : Option α) ρ = .bad := rfl
theorem fin_if {p : Prop} [Decidable p] {c : α} : fin (if p then some c else none) ρ = if p then .ok c ρ else .bad := by split <;> rfl
def dsl : Option (Option C) → Option PyData
  | some (some c) => shal c
  | _ => none
@[simp] theorem dsl_some {c : C} : dsl (some (some c)) = shal c := rfl
@[simp] theorem shal_val {d} : shal (.val d) = some d := rfl
@[simp] theorem shal_lst {cs} : shal (.lst cs) = (vals cs).map .list := rfl
@[simp] theorem vals_nil : vals [] = some [] := rfl
@[simp] theorem vals_cons {d r} : vals (.val d :: r) = (vals r).map (d :: ·) := rfl
@[simp] theorem vals_map (ds : List PyData) : vals (ds.map .val) = some ds := by induction ds with
  | nil => rfl
  | cons d r ih => simp [ih]
theorem vals_app {cs es : List C} {ds fs : List PyData} (h : vals cs = some ds) (k : vals es = some fs) : vals (cs ++ es) = some (ds ++ fs) := by
  induction cs generalizing ds with
  | nil => simp at h; subst h; exact k
  | cons c r ih =>
    cases c with
    | val d =>
      simp only [vals_cons, Option.map_eq_some_iff] at h
      obtain ⟨r', h1, h2⟩ := h
      subst h2
      simp [ih h1]
    | tup _ => simp [vals] at h
    | lst _ => simp [vals] at h
    | dic _ _ => simp [vals] at h
    | obj _ _ _ => simp [vals] at h
@[simp] theorem fz_val {d} : fz (.val d) = some d := rfl
@[simp] theorem fz_lst {cs} : fz (.lst cs) = (fzs cs).map .list := rfl
@[simp] theorem fz_tup {cs} : fz (.tup cs) = (fzs cs).map .tuple := rfl
@[simp] theorem fzs_nil : fzs [] = some [] := rfl
theorem fzs_cons {c cs} : fzs (c :: cs) = (fz c).bind fun d => (fzs cs).map (d :: ·) := by
  simp only [fzs]
  cases fz c <;> cases fzs cs <;> rfl
@[simp] theorem fzs_cv {d cs} : fzs (.val d :: cs) = (fzs cs).map (d :: ·) := by rw [fzs_cons]; rfl
@[simp] theorem fzs_cl {c cs} : fzs (.lst c :: cs) = (fz (.lst c)).bind fun d => (fzs cs).map (d :: ·) := fzs_cons
@[simp] theorem fzs_ct {c cs} : fzs (.tup c :: cs) = (fz (.tup c)).bind fun d => (fzs cs).map (d :: ·) := fzs_cons
@[simp] theorem fzs_map (ds : List PyData) : fzs (ds.map .val) = some ds := by induction ds with
  | nil => rfl
  | cons d r ih => simp [ih]
@[simp] theorem deref_d {d} : deref ρ (.d d) = some d := rfl
@[simp] theorem deref_s {i} : deref ρ (.s i) = dsl ρ[i]? := rfl
def dcons : Option PyData → Option (List PyData) → Option (List PyData)
  | some d, some ds => some (d :: ds)
  | _, _ => none
@[simp] theorem dcons_some {d ds} : dcons (some d) (some ds) = some (d :: ds) := rfl
@[simp] theorem derefs_nil : derefs ρ [] = some [] := rfl
@[simp] theorem derefs_cons {o os} : derefs ρ (o :: os) = dcons (deref ρ o) (derefs ρ os) := rfl
/-! ### expressions -/
@[simp] theorem ret_at {a : α} : G.ret a ρ = .ok a ρ := rfl
@[simp] theorem bad_at : (G.bad : G α) ρ = .bad := rfl
@[simp] theorem off_at : (gOff : G α) ρ = .bad := rfl
@[simp] theorem bind_at {g : G α} {f : α → G β} : G.bind g f ρ = (g ρ).bind f := rfl
def o2m (f : PyData → PyData → Option α) : Option PyData → Option PyData → Env → R α
  | some x, some y, ρ => fin (f x y) ρ
  | _, _, _ => .bad
@[simp] theorem o2m_some {f : PyData → PyData → Option α} {x y} : o2m f (some x) (some y) ρ = fin (f x y) ρ := rfl
def o2 (f : PyData → PyData → Option α) (a b : Op) : G α := fun ρ => o2m f (deref ρ a) (deref ρ b) ρ
@[simp] theorem o2_at {f : PyData → PyData → Option α} {a b} : o2 f a b ρ = o2m f (deref ρ a) (deref ρ b) ρ := rfl
theorem o2_eq {f : PyData → PyData → Option α} {a b : Op} : (fun ρ => match deref ρ a, deref ρ b with | some x, some y => gFin (f x y) ρ | _, _ => .bad : G α) = o2 f a b := by
  funext ρ
  simp only [o2_at]
  cases deref ρ a <;> cases deref ρ b <;> rfl
@[simp] theorem gOp2_at {f ga gb} : gOp2 f ga gb ρ = (ga ρ).bind fun a => G.bind gb (o2 f a) := by
  show (ga ρ).bind _ = _
  congr 1
  funext a
  unfold G.bind
  funext ρ
  congr 1
  funext b ρ
  simp only [o2_at]
  cases deref ρ a <;> cases deref ρ b <;> rfl
@[simp] theorem gT2_at {f ga gb} : gT2 f ga gb ρ = (ga ρ).bind fun a => G.bind gb (o2 f a) := by
  show (ga ρ).bind _ = _
  congr 1
  funext a
  unfold G.bind
  funext ρ
  congr 1
  funext b ρ
  simp only [o2_at]
  cases deref ρ a <;> cases deref ρ b <;> rfl
@[simp] theorem gOs_nil : gOs [] ρ = .ok [] ρ := rfl
@[simp] theorem gOs_cons {g gs} : gOs (g :: gs) ρ = (g ρ).bind fun o => G.bind (gOs gs) fun os => G.ret (o :: os) := rfl
@[simp] theorem gEs_nil : gEs [] ρ = .ok [] ρ := rfl
@[simp] theorem gEs_cons {g gs} : gEs (g :: gs) ρ = (g ρ).bind fun o => G.bind (gEs gs) fun os => G.ret (o :: os) := rfl
@[simp] theorem gAs_nil : gAs [] ρ = .ok [] ρ := rfl
@[simp] theorem gAs_cons {g gs} : gAs (g :: gs) ρ = (g ρ).bind fun o => G.bind (gAs gs) fun os => G.ret (o :: os) := rfl
def onm (f : List PyData → Option C) : Option (List PyData) → Env → R C
  | some ds, ρ => fin (f ds) ρ
  | none, _ => .bad
@[simp] theorem onm_some {f ds} : onm f (some ds) ρ = fin (f ds) ρ := rfl
def onk (f : List PyData → Option C) (os : List Op) : G C := fun ρ => onm f (derefs ρ os) ρ
@[simp] theorem onk_at {f os} : onk f os ρ = onm f (derefs ρ os) ρ := rfl
@[simp] theorem gOpN_at {f g} : gOpN f g ρ = (g ρ).bind (onk f) := by
  show (g ρ).bind _ = _
  congr 1
  funext os ρ
  simp only [onk_at]
  cases derefs ρ os <;> rfl
def trk (c : C) : G Bool := fun ρ => fin (tru c) ρ
@[simp] theorem trk_at {c} : trk c ρ = fin (tru c) ρ := rfl
@[simp] theorem gTru_at {g} : gTru g ρ = (g ρ).bind trk := rfl
@[simp] theorem tru_bool {b} : tru (.val (.bool b)) = some b := rfl
@[simp] theorem gB_at {g} : gB g ρ = (g ρ).bind fun b => G.ret (.val (.bool b)) := rfl
@[simp] theorem gAnd_at {g g'} : gAnd g g' ρ = tst (g ρ) g' (G.ret false) := rfl
@[simp] theorem gOr_at {g g'} : gOr g g' ρ = tst (g ρ) (G.ret true) g' := rfl
@[simp] theorem gNot_at {g} : Nd.gNot g ρ = (g ρ).bind fun b => G.ret (!b) := rfl
@[simp] theorem gIf_at {t} {a b : G α} : gIf t a b ρ = tst (t ρ) a b := rfl
@[simp] theorem gIfS_at {t a b} : gIfS t a b ρ = tst (t ρ) a b := rfl
def avk (g : G C) (c : C) : G C := fun ρ => tst (trk c ρ) g (G.ret (.val (.bool false)))
def ovk (g : G C) (c : C) : G C := fun ρ => tst (trk c ρ) (G.ret (.val (.bool true))) g
def nvk (c : C) : G C := fun ρ => (trk c ρ).bind fun b => G.ret (.val (.bool (!b)))
@[simp] theorem avk_at {g c} : avk g c ρ = tst (trk c ρ) g (G.ret (.val (.bool false))) := rfl
@[simp] theorem ovk_at {g c} : ovk g c ρ = tst (trk c ρ) (G.ret (.val (.bool true))) g := rfl
@[simp] theorem nvk_at {c} : nvk c ρ = (trk c ρ).bind fun b => G.ret (.val (.bool (!b))) := rfl
@[simp] theorem gAndV_at {g g'} : gAndV g g' ρ = (g ρ).bind (avk g') := by
  show (g ρ).bind _ = _
  congr 1
  funext c ρ
  simp only [avk_at, trk_at]
  cases tru c with
  | none => rfl
  | some b => cases b <;> rfl
@[simp] theorem gOrV_at {g g'} : gOrV g g' ρ = (g ρ).bind (ovk g') := by
  show (g ρ).bind _ = _
  congr 1
  funext c ρ
  simp only [ovk_at, trk_at]
  cases tru c with
  | none => rfl
  | some b => cases b <;> rfl
@[simp] theorem gNotV_at {g} : gNotV g ρ = (g ρ).bind nvk := by
  show (g ρ).bind _ = _
  congr 1
  funext c ρ
  simp only [nvk_at, trk_at]
  cases tru c <;> rfl
def mkt : Option (List PyData) → List C → C
  | some ds, _ => .val (.tuple ds)
  | none, cs => .tup cs
@[simp] theorem mkt_some {ds cs} : mkt (some ds) cs = .val (.tuple ds) := rfl
@[simp] theorem mkTup_eq {cs} : mkTup cs = mkt (vals cs) cs := by unfold mkTup; cases vals cs <;> rfl
def tuk (cs : List C) : G C := G.ret (mkTup cs)
@[simp] theorem tuk_at {cs} : tuk cs ρ = .ok (mkTup cs) ρ := rfl
@[simp] theorem gTup_at {gs} : gTup gs ρ = (gEs gs ρ).bind tuk := rfl
theorem vals_eq : ∀ {cs : List C} {ds : List PyData}, vals cs = some ds → cs = ds.map .val
  | [], ds, h => by simp at h; subst h; rfl
  | .val d :: r, ds, h => by
    simp only [vals_cons, Option.map_eq_some_iff] at h
    obtain ⟨r', h1, h2⟩ := h
    subst h2
    simp [vals_eq h1]
  | .tup _ :: _, ds, h => by simp [vals] at h
  | .lst _ :: _, ds, h => by simp [vals] at h
  | .dic _ _ :: _, ds, h => by simp [vals] at h
  | .obj _ _ _ :: _, ds, h => by simp [vals] at h
def lsm : Option (List PyData) → List C → C
  | some ds, _ => mkL ds
  | none, cs => .lst cs
@[simp] theorem lsm_some {ds cs} : lsm (some ds) cs = mkL ds := rfl
def luk (cs : List C) : G C := G.ret (.lst cs)
@[simp] theorem luk_at {cs} : luk cs ρ = .ok (lsm (vals cs) cs) ρ := by
  show R.ok (C.lst cs) ρ = _
  cases h : vals cs with
  | none => rfl
  | some ds => rw [lsm_some, mkL, ← vals_eq h]
@[simp] theorem gLst_at {gs} : gLst gs ρ = (gEs gs ρ).bind luk := rfl
def slt (i : Nat) : Option (Option C) → Env → R Op
  | some (some _), ρ => .ok (.s i) ρ
  | _, _ => .bad
@[simp] theorem slt_some {i c} : slt i (some (some c)) ρ = .ok (.s i) ρ := rfl
@[simp] theorem gSlot_at {i} : gSlot i ρ = slt i ρ[i]? ρ := by
  unfold gSlot
  cases ρ[i]? with
  | none => rfl
  | some o => cases o <;> rfl
def nmk (i : Nat) : Option (Option C) → Env → R C
  | some (some (.val d)), ρ => .ok (.val d) ρ
  | some (some c), ρ => .ok c (ρ.set i none)
  | _, _ => .bad
@[simp] theorem nmk_val {i d} : nmk i (some (some (.val d))) ρ = .ok (.val d) ρ := rfl
@[simp] theorem nmk_lst {i d} : nmk i (some (some (.lst d))) ρ = .ok (.lst d) (ρ.set i none) := rfl
@[simp] theorem nmk_mkL {i d} : nmk i (some (some (mkL d))) ρ = .ok (mkL d) (ρ.set i none) := rfl
@[simp] theorem gName_at {i} : Nd.gName i ρ = nmk i ρ[i]? ρ := by
  unfold Nd.gName
  cases ρ[i]? with
  | none => rfl
  | some o =>
    cases o with
    | none => rfl
    | some c => cases c <;> rfl
@[simp] theorem gC_at {d} : gC d ρ = .ok (.val d) ρ := rfl
@[simp] theorem oC_at {d} : oC d ρ = .ok (.d d) ρ := rfl
def fzm : Option PyData → Env → R Op
  | some d, ρ => .ok (.d d) ρ
  | none, _ => .bad
@[simp] theorem fzm_some {d} : fzm (some d) ρ = .ok (.d d) ρ := rfl
def fzk (c : C) : G Op := fun ρ => fzm (fz c) ρ
@[simp] theorem fzk_at {c} : fzk c ρ = fzm (fz c) ρ := rfl
@[simp] theorem gFz_at {g} : gFz g ρ = (g ρ).bind fzk := by
  show (g ρ).bind _ = _
  congr 1
  funext c ρ
  simp only [fzk_at]
  cases fz c <;> rfl
@[simp] theorem vlk_d {d} : vlk (.d d) ρ = .ok (.val d) ρ := rfl
@[simp] theorem gVal_at {g} : gVal g ρ = (g ρ).bind vlk := rfl
def ask (p : PyData → Bool) : Option PyData → Env → R C
  | some d, ρ => .ok (.val (.bool (p d))) ρ
  | none, _ => .bad
@[simp] theorem ask_some {p d} : ask p (some d) ρ = .ok (.val (.bool (p d))) ρ := rfl
def askk (p : PyData → Bool) (o : Op) : G C := fun ρ => ask p (deref ρ o) ρ
@[simp] theorem askk_at {p o} : askk p o ρ = ask p (deref ρ o) ρ := rfl
@[simp] theorem gAsk_at {p g} : gAsk p g ρ = (g ρ).bind (askk p) := by
  show (g ρ).bind _ = _
  congr 1
  funext o ρ
  simp only [askk_at]
  cases deref ρ o <;> rfl
def neg : Option PyData → Env → R C
  | some (.int i), ρ => .ok (.val (.int (-i))) ρ
  | _, _ => .bad
@[simp] theorem neg_some {i} : neg (some (.int i)) ρ = .ok (.val (.int (-i))) ρ := rfl
def negk (o : Op) : G C := fun ρ => neg (deref ρ o) ρ
@[simp] theorem negk_at {o} : negk o ρ = neg (deref ρ o) ρ := rfl
@[simp] theorem gNeg_at {g} : gNeg g ρ = (g ρ).bind negk := by
  show (g ρ).bind _ = _
  congr 1
  funext o ρ
  simp only [negk_at]
  cases deref ρ o with
  | none => rfl
  | some d => cases d <;> rfl
def rvm : Option PyData → Env → R C
  | some d, ρ => fin (revD d) ρ
  | none, _ => .bad
@[simp] theorem rvm_some {d} : rvm (some d) ρ = fin (revD d) ρ := rfl
@[simp] theorem revD_t {ds} : revD (.tuple ds) = some (.val (.tuple ds.reverse)) := rfl
def rvk (o : Op) : G C := fun ρ => rvm (deref ρ o) ρ
@[simp] theorem rvk_at {o} : rvk o ρ = rvm (deref ρ o) ρ := rfl
@[simp] theorem gRev_at {g} : gRev g ρ = (g ρ).bind rvk := by
  show (g ρ).bind _ = _
  congr 1
  funext o ρ
  simp only [rvk_at]
  cases deref ρ o <;> rfl
def prm : Option PyData → Env → R (Option Int)
  | some (.int i), ρ => .ok (some i) ρ
  | _, _ => .bad
@[simp] theorem prm_some {i} : prm (some (.int i)) ρ = .ok (some i) ρ := rfl
def prk (o : Op) : G (Option Int) := fun ρ => prm (deref ρ o) ρ
@[simp] theorem prk_at {o} : prk o ρ = prm (deref ρ o) ρ := rfl
@[simp] theorem gPart_at {g} : gPart g ρ = (g ρ).bind prk := by
  show (g ρ).bind _ = _
  congr 1
  funext o ρ
  simp only [prk_at]
  cases deref ρ o with
  | none => rfl
  | some d => cases d <;> rfl
def slm (lo hi : Option Int) : Option PyData → Env → R C
  | some d, ρ => fin (slD d lo hi) ρ
  | none, _ => .bad
@[simp] theorem slm_some {lo hi d} : slm lo hi (some d) ρ = fin (slD d lo hi) ρ := rfl
@[simp] theorem slD_l {ds lo hi} : slD (.list ds) lo hi = some (mkL (cutD ds lo hi)) := rfl
@[simp] theorem slD_t {ds lo hi} : slD (.tuple ds) lo hi = some (.val (.tuple (cutD ds lo hi))) := rfl
def slk (o : Op) (lo hi : Option Int) : G C := fun ρ => slm lo hi (deref ρ o) ρ
@[simp] theorem slk_at {o lo hi} : slk o lo hi ρ = slm lo hi (deref ρ o) ρ := rfl
@[simp] theorem gSl_at {g gl gh} : gSl g gl gh ρ = (g ρ).bind fun o => G.bind gl fun lo => G.bind gh (slk o lo) := by
  show (g ρ).bind _ = _
  congr 1
  funext o
  unfold G.bind
  funext ρ
  congr 1
  funext lo ρ
  congr 1
  funext hi ρ
  simp only [slk_at]
  cases deref ρ o <;> rfl
def chn (f' : PyData → PyData → Option Bool) (gc : G Op) (b : Op) : Option Bool → Env → R Bool
  | some t, ρ => tst (.ok t ρ) (G.bind gc (o2 f' b)) (G.ret false)
  | none, _ => .bad
@[simp] theorem chn_some {f' gc b t} : chn f' gc b (some t) ρ = tst (.ok t ρ) (G.bind gc (o2 f' b)) (G.ret false) := rfl
def chm (f f' : PyData → PyData → Option Bool) (gc : G Op) (b : Op) : Option PyData → Option PyData → Env → R Bool
  | some x, some y, ρ => chn f' gc b (f x y) ρ
  | _, _, _ => .bad
@[simp] theorem chm_some {f f' gc b x y} : chm f f' gc b (some x) (some y) ρ = chn f' gc b (f x y) ρ := rfl
def chk2 (f f' : PyData → PyData → Option Bool) (gc : G Op) (a b : Op) : G Bool := fun ρ => chm f f' gc b (deref ρ a) (deref ρ b) ρ
@[simp] theorem chk2_at {f f' gc a b} : chk2 f f' gc a b ρ = chm f f' gc b (deref ρ a) (deref ρ b) ρ := rfl
@[simp] theorem gCh_at {f f' ga gb gc} : gCh f f' ga gb gc ρ = (ga ρ).bind fun a => G.bind gb (chk2 f f' gc a) := by
  show (ga ρ).bind _ = _
  congr 1
  funext a
  unfold G.bind
  funext ρ
  congr 1
  funext b ρ
  simp only [chk2_at]
  cases deref ρ a with
  | none => rfl
  | some x =>
    cases deref ρ b with
    | none => rfl
    | some y =>
      simp only [chm_some]
      cases f x y with
      | none => rfl
      | some t =>
        cases t with
        | false => rfl
        | true =>
          simp only [chn_some, tst_o, if_true, bind_at]
          congr 1
          funext c ρ2
          simp only [o2_at]
          cases deref ρ2 b <;> cases deref ρ2 c <;> rfl
/-! ### statements -/
@[simp] theorem gNext_at : gNext ρ = .ok .next ρ := rfl
@[simp] theorem gBrk_at : gBrk ρ = .ok .brk ρ := rfl
@[simp] theorem gCont_at : gCont ρ = .ok .cont ρ := rfl
@[simp] theorem gRetN_at : gRetN ρ = .ok (.ret (.val .none)) ρ := rfl
@[simp] theorem gSeq_at {g g'} : gSeq g g' ρ = sq (g ρ) g' := rfl
@[simp] theorem gRet_at {g} : gRet g ρ = (g ρ).bind fun c => G.ret (.ret c) := rfl
@[simp] theorem gDrop_at {g} : gDrop g ρ = (g ρ).bind fun _ => G.ret .next := rfl
@[simp] theorem put_at {i c} : Nd.put i c ρ = if i < ρ.length then .ok .next (ρ.set i (some c)) else .bad := by
  unfold Nd.put
  by_cases h : i < ρ.length <;> simp [h]
@[simp] theorem gSet_at {i g} : gSet i g ρ = (g ρ).bind (Nd.put i) := rfl
def asm : Option Env → R Fl
  | some ρ => .ok .next ρ
  | none => .bad
@[simp] theorem asm_some : asm (some ρ) = .ok .next ρ := rfl
def ask1 (p : Pat) : Op → G Fl
  | .d d => fun ρ => asm (asg p d ρ)
  | .s _ => fun _ => .bad
@[simp] theorem ask1_at {p d} : ask1 p (.d d) ρ = asm (asg p d ρ) := rfl
@[simp] theorem gAsg_at {p g} : gAsg p g ρ = (g ρ).bind (ask1 p) := by
  show (g ρ).bind _ = _
  congr 1
  funext o ρ
  cases o with
  | s i => rfl
  | d d =>
    simp only [ask1_at]
    cases asg p d ρ <;> rfl
@[simp] theorem asg_nm {i d} : asg (.nm i) d ρ = if i < ρ.length then some (ρ.set i (some (.val d))) else none := by
  simp only [asg]
  by_cases h : i < ρ.length <;> simp [h]
@[simp] theorem asg_tu {ps ds} : asg (.tu ps) (.tuple ds) ρ = asgs ps ds ρ := rfl
@[simp] theorem asgs_nil : asgs [] [] ρ = some ρ := rfl
@[simp] theorem asgs_cons {p ps d ds} : asgs (p :: ps) (d :: ds) ρ = (asg p d ρ).bind fun ρ' => asgs ps ds ρ' := rfl
def park (i j : Nat) : List C → G Fl
  | [a, b] => fun ρ => if i < ρ.length ∧ j < ρ.length then .ok .next ((ρ.set i (some a)).set j (some b)) else .bad
  | _ => G.bad
@[simp] theorem park_at {i j a b} : park i j [a, b] ρ = if i < ρ.length ∧ j < ρ.length then .ok .next ((ρ.set i (some a)).set j (some b)) else .bad := rfl
@[simp] theorem gPar_at {i j ga gb} : gPar i j ga gb ρ = (gEs [ga, gb] ρ).bind (park i j) := by
  show (gEs [ga, gb] ρ).bind _ = _
  congr 1
  funext cs ρ
  match cs with
  | [a, b] =>
    simp only [park_at]
    by_cases h : i < ρ.length ∧ j < ρ.length <;> simp [h]
  | [] => rfl
  | [_] => rfl
  | _ :: _ :: _ :: _ => rfl
def hsm : Option (Option C) → Env → R Unit
  | some (some (.lst _)), ρ => .ok () ρ
  | _, _ => .bad
@[simp] theorem hsm_lst {cs} : hsm (some (some (.lst cs))) ρ = .ok () ρ := rfl
@[simp] theorem hsm_mkL {cs} : hsm (some (some (mkL cs))) ρ = .ok () ρ := rfl
@[simp] theorem gHas_at {i} : gHas i ρ = hsm ρ[i]? ρ := by
  unfold gHas
  cases ρ[i]? with
  | none => rfl
  | some o =>
    cases o with
    | none => rfl
    | some c => cases c <;> rfl
def sto (i : Nat) (d : PyData) (cs : List C) : Option Nat → Env → R Fl
  | some j, ρ => .ok .next (ρ.set i (some (.lst (cs.set j (.val d)))))
  | none, _ => .bad
@[simp] theorem sto_some {i d cs j} : sto i d cs (some j) ρ = .ok .next (ρ.set i (some (.lst (cs.set j (.val d))))) := rfl
def stm (i : Nat) (d : PyData) : Option (Option C) → Option PyData → Env → R Fl
  | some (some (.lst cs)), some (.int k), ρ => sto i d cs (ixN cs.length k) ρ
  | _, _, _ => .bad
@[simp] theorem stm_some {i d cs k} : stm i d (some (some (.lst cs))) (some (.int k)) ρ = sto i d cs (ixN cs.length k) ρ := rfl
def stoL (i : Nat) (d : PyData) (ds : List PyData) : Option Nat → Env → R Fl
  | some j, ρ => .ok .next (ρ.set i (some (mkL (ds.set j d))))
  | none, _ => .bad
@[simp] theorem stoL_some {i d cs j} : stoL i d cs (some j) ρ = .ok .next (ρ.set i (some (mkL (cs.set j d)))) := rfl
@[simp] theorem stm_mkL {i d ds k} : stm i d (some (some (mkL ds))) (some (.int k)) ρ = stoL i d ds (ixN ds.length k) ρ := by
  show sto i d (ds.map C.val) (ixN (ds.map C.val).length k) ρ = _
  rw [List.length_map]
  cases ixN ds.length k with
  | none => rfl
  | some j => simp only [sto_some, stoL_some, mkL, List.map_set]
@[simp] theorem storeAt_at {i d o} : storeAt i d o ρ = stm i d ρ[i]? (deref ρ o) ρ := by
  unfold storeAt
  cases ρ[i]? with
  | none => rfl
  | some oc =>
    cases oc with
    | none => rfl
    | some c =>
      cases c with
      | lst cs =>
        cases deref ρ o with
        | none => rfl
        | some d =>
          cases d with
          | int k =>
            simp only [stm_some]
            cases ixN cs.length k <;> rfl
          | _ => rfl
      | _ => rfl
def stk (i : Nat) (gi : G Op) : Op → G Fl
  | .d d => G.bind (gHas i) fun _ => G.bind gi (storeAt i d)
  | .s _ => G.bad
@[simp] theorem stk_at {i gi d} : stk i gi (.d d) ρ = (gHas i ρ).bind fun _ => G.bind gi (storeAt i d) := rfl
@[simp] theorem gStore_at {i gi g} : gStore i gi g ρ = (gFz g ρ).bind (stk i gi) := by
  show (gFz g ρ).bind _ = _
  refine congrArg (R.bind (gFz g ρ)) ?_
  funext o
  cases o <;> rfl
def grm (i : Nat) (c : C) : Option (Option C) → Env → R C
  | some (some (.lst cs)), ρ => if cs.length < sizeLine then .ok (.val .none) (ρ.set i (some (.lst (cs ++ [c])))) else .bad
  | _, _ => .bad
@[simp] theorem grm_lst {i c cs} : grm i c (some (some (.lst cs))) ρ = if cs.length < sizeLine then .ok (.val .none) (ρ.set i (some (.lst (cs ++ [c])))) else .bad := rfl
@[simp] theorem grm_mkL {i d ds} : grm i (.val d) (some (some (mkL ds))) ρ = if ds.length < sizeLine then .ok (.val .none) (ρ.set i (some (mkL (ds ++ [d])))) else .bad := by
  show (if (ds.map C.val).length < sizeLine then _ else _) = _
  rw [List.length_map]
  simp [mkL]
@[simp] theorem grow_at {i c} : grow i c ρ = grm i c ρ[i]? ρ := by
  unfold grow
  cases ρ[i]? with
  | none => rfl
  | some oc =>
    cases oc with
    | none => rfl
    | some c' =>
      cases c' with
      | lst cs =>
        simp only [grm_lst]
        by_cases h : cs.length < sizeLine <;> simp [h]
      | _ => rfl
@[simp] theorem gApp_at {i g} : gApp i g ρ = (gHas i ρ).bind fun _ => G.bind g (grow i) := rfl
/-! ### calls -/
@[simp] theorem gArg_at {g} : gArg g ρ = (g ρ).bind fun c => G.ret (.c c) := rfl
def lnm (i : Nat) : Option (Option C) → Env → R Arg
  | some (some _), ρ => .ok (.s i) ρ
  | _, _ => .bad
@[simp] theorem lnm_some {i c} : lnm i (some (some c)) ρ = .ok (.s i) ρ := rfl
@[simp] theorem gLent_at {i} : gLent i ρ = lnm i ρ[i]? ρ := by
  unfold gLent
  cases ρ[i]? with
  | none => rfl
  | some o => cases o <;> rfl
@[simp] theorem lent_nil : lent [] = [] := rfl
@[simp] theorem lent_c {c r} : lent (.c c :: r) = lent r := rfl
@[simp] theorem lent_s {i r} : lent (.s i :: r) = i :: lent r := rfl
@[simp] theorem conts_nil : conts ρ [] = some [] := rfl
@[simp] theorem conts_c {c r} : conts ρ (.c c :: r) = (conts ρ r).map (c :: ·) := rfl
def cnm : Option (Option C) → Option (List C) → Option (List C)
  | some (some c), some cs => some (c :: cs)
  | _, _ => none
@[simp] theorem cnm_some {c cs} : cnm (some (some c)) (some cs) = some (c :: cs) := rfl
@[simp] theorem conts_s {i r} : conts ρ (.s i :: r) = cnm ρ[i]? (conts ρ r) := by
  simp only [conts]
  cases ρ[i]? with
  | none => cases conts ρ r <;> rfl
  | some o => cases o <;> cases conts ρ r <;> rfl
@[simp] theorem lendE_nil : lendE ρ [] = ρ := rfl
@[simp] theorem lendE_c {c r} : lendE ρ (.c c :: r) = lendE ρ r := rfl
@[simp] theorem lendE_s {i r} : lendE ρ (.s i :: r) = (lendE ρ r).set i none := rfl
@[simp] theorem backE_nil {cs} : backE [] cs ρ = ρ := by cases cs <;> rfl
@[simp] theorem backE_c {c c' r cs} : backE (.c c :: r) (c' :: cs) ρ = backE r cs ρ := rfl
@[simp] theorem backE_s {i c' r cs} : backE (.s i :: r) (c' :: cs) ρ = (backE r cs ρ).set i (some c') := rfl
def clr (as : List Arg) (ρ : Env) : RF → R C
  | .ok r cs' => .ok r (backE as cs' (lendE ρ as))
  | .ex x cs' => .ex x (backE as cs' (lendE ρ as))
  | .bad => .bad
@[simp] theorem clr_ok {as r cs} : clr as ρ (.ok r cs) = .ok r (backE as cs (lendE ρ as)) := rfl
@[simp] theorem clr_ex {as x cs} : clr as ρ (.ex x cs) = .ex x (backE as cs (lendE ρ as)) := rfl
def clm (f : Fn) (as : List Arg) : Option (List C) → Env → R C
  | some cs, ρ => clr as ρ (f cs)
  | none, _ => .bad
@[simp] theorem clm_some {f as cs} : clm f as (some cs) ρ = clr as ρ (f cs) := rfl
def clk (f : Fn) (as : List Arg) : G C := fun ρ => if (lent as).Nodup then clm f as (conts ρ as) ρ else .bad
@[simp] theorem clk_at {f as} : clk f as ρ = if (lent as).Nodup then clm f as (conts ρ as) ρ else .bad := rfl
@[simp] theorem gCallF_at {f g} : gCallF f g ρ = (g ρ).bind (clk f) := by
  show (g ρ).bind _ = _
  congr 1
  funext as ρ
  simp only [clk_at]
  by_cases h : (lent as).Nodup
  · simp only [h, decide_true, if_true]
    cases conts ρ as with
    | none => rfl
    | some cs =>
      simp only [clm_some]
      cases f cs <;> rfl
  · simp [h]
def ends (bs : List Bool) (cs : List C) : R Fl → RF
  | .ok .next ρ => match backs bs cs ρ with
    | some cs' => .ok (.val .none) cs'
    | none => .bad
  | .ok (.ret c) ρ => match backs bs cs ρ with
    | some cs' => .ok c cs'
    | none => .bad
  | .ex x ρ => match backs bs cs ρ with
    | some cs' => .ex x cs'
    | none => .bad
  | _ => .bad
def bko (c : C) : Option (List C) → RF
  | some cs => .ok c cs
  | none => .bad
@[simp] theorem bko_some {c cs} : bko c (some cs) = .ok c cs := rfl
@[simp] theorem ends_next {bs cs} : ends bs cs (.ok .next ρ) = bko (.val .none) (backs bs cs ρ) := by
  simp only [ends]; cases backs bs cs ρ <;> rfl
@[simp] theorem ends_ret {bs cs c} : ends bs cs (.ok (.ret c) ρ) = bko c (backs bs cs ρ) := by
  simp only [ends]; cases backs bs cs ρ <;> rfl
theorem ends_ex {bs cs x} : ends bs cs (.ex x ρ) = match backs bs cs ρ with | some cs' => .ex x cs' | none => .bad := rfl
theorem fnOf_eq {N bs g cs} : fnOf N bs g cs = ends bs cs (g (startE N cs)) := by
  unfold fnOf ends
  rfl
@[simp] theorem backs_nil : backs [] [] ρ = some [] := by cases ρ <;> rfl
@[simp] theorem backs_t {bs c cs c'} : backs (true :: bs) (c :: cs) (some c' :: ρ) = (backs bs cs ρ).map (c' :: ·) := rfl
@[simp] theorem backs_f {bs d cs o} : backs (false :: bs) (.val d :: cs) (o :: ρ) = (backs bs cs ρ).map (.val d :: ·) := by simp [backs]
/-! ### walks -/
def itm : Option (List PyData) → Env → R Itm
  | some ds, ρ => .ok ⟨ds, none⟩ ρ
  | none, _ => .bad
@[simp] theorem itm_some {ds} : itm (some ds) ρ = .ok ⟨ds, none⟩ ρ := rfl
def itv (i : Nat) (cs : List C) : Option (List PyData) → Env → R Itm
  | some ds, ρ => .ok ⟨ds, some (i, .lst cs)⟩ ρ
  | none, _ => .bad
@[simp] theorem itv_some {i cs ds} : itv i cs (some ds) ρ = .ok ⟨ds, some (i, .lst cs)⟩ ρ := rfl
def its (i : Nat) : Option (Option C) → Env → R Itm
  | some (some (.val d)), ρ => itm (items d) ρ
  | some (some (.lst cs)), ρ => itv i cs (vals cs) ρ
  | _, _ => .bad
@[simp] theorem its_val {i d} : its i (some (some (.val d))) ρ = itm (items d) ρ := rfl
@[simp] theorem its_lst {i cs} : its i (some (some (.lst cs))) ρ = itv i cs (vals cs) ρ := rfl
@[simp] theorem its_mkL {i ds} : its i (some (some (mkL ds))) ρ = .ok ⟨ds, some (i, mkL ds)⟩ ρ := by
  show itv i (ds.map C.val) (vals (ds.map C.val)) ρ = _
  rw [vals_map]; rfl
def itk : Op → G Itm
  | .d d => fun ρ => itm (items d) ρ
  | .s i => fun ρ => its i ρ[i]? ρ
@[simp] theorem itk_d {d} : itk (.d d) ρ = itm (items d) ρ := rfl
@[simp] theorem itk_s {i} : itk (.s i) ρ = its i ρ[i]? ρ := rfl
@[simp] theorem items_l {ds} : items (.list ds) = some ds := rfl
@[simp] theorem items_t {ds} : items (.tuple ds) = some ds := rfl
@[simp] theorem gItems_at {g} : gItems g ρ = (g ρ).bind itk := by
  show (g ρ).bind _ = _
  congr 1
  funext o ρ
  cases o with
  | d d =>
    simp only [itk_d]
    cases items d <;> rfl
  | s i =>
    simp only [itk_s]
    cases ρ[i]? with
    | none => rfl
    | some oc =>
      cases oc with
      | none => rfl
      | some c =>
        cases c with
        | val d =>
          simp only [its_val]
          cases items d <;> rfl
        | lst cs =>
          simp only [its_lst]
          cases vals cs <;> rfl
        | _ => rfl
@[simp] theorem opD_d {d} : opD ρ (.d d) = some d := rfl
def odm : Option (Option C) → Option PyData
  | some (some (.val d)) => some d
  | _ => none
@[simp] theorem odm_val {d} : odm (some (some (.val d))) = some d := rfl
@[simp] theorem opD_s {i} : opD ρ (.s i) = odm ρ[i]? := by
  simp only [opD]
  cases ρ[i]? with
  | none => rfl
  | some o =>
    cases o with
    | none => rfl
    | some c => cases c <;> rfl
def zpk (a b : Op) : G Itm := fun ρ => itm (zipI (opD ρ a) (opD ρ b)) ρ
@[simp] theorem zpk_at {a b} : zpk a b ρ = itm (zipI (opD ρ a) (opD ρ b)) ρ := rfl
@[simp] theorem gZip_at {ga gb} : gZip ga gb ρ = (ga ρ).bind fun a => G.bind gb (zpk a) := by
  show (ga ρ).bind _ = _
  congr 1
  funext a
  unfold G.bind
  funext ρ
  congr 1
  funext b ρ
  simp only [zpk_at]
  cases zipI (opD ρ a) (opD ρ b) <;> rfl
def enk (a : Op) : G Itm := fun ρ => itm (enumI (opD ρ a)) ρ
@[simp] theorem enk_at {a} : enk a ρ = itm (enumI (opD ρ a)) ρ := rfl
@[simp] theorem gEnum_at {ga} : gEnum ga ρ = (ga ρ).bind enk := by
  show (ga ρ).bind _ = _
  congr 1
  funext a ρ
  simp only [enk_at]
  cases enumI (opD ρ a) <;> rfl
def rgk (os : List Op) : G Itm := fun ρ => itm (((derefs ρ os).bind rng1).map fun j => rng j.toNat 0) ρ
@[simp] theorem rgk_at {os} : rgk os ρ = itm (((derefs ρ os).bind rng1).map fun j => rng j.toNat 0) ρ := rfl
@[simp] theorem gRng1_at {g} : gRng1 g ρ = (g ρ).bind rgk := by
  show (g ρ).bind _ = _
  congr 1
  funext os ρ
  simp only [rgk_at]
  cases (derefs ρ os).bind rng1 <;> rfl
@[simp] theorem gFor_at {gi p gb} : gFor gi p gb ρ = (gi ρ).bind fun it => forL it.src p gb it.ds := rfl
def lp (r : R Fl) (k : G Fl) : R Fl := r.bind fun f => match f with
  | .next => k
  | .cont => k
  | .brk => G.ret .next
  | .ret c => G.ret (.ret c)
@[simp] theorem lp_next {k} : lp (.ok .next ρ) k = k ρ := rfl
@[simp] theorem lp_cont {k} : lp (.ok .cont ρ) k = k ρ := rfl
@[simp] theorem lp_brk {k} : lp (.ok .brk ρ) k = .ok .next ρ := rfl
@[simp] theorem lp_ret {k c} : lp (.ok (.ret c) ρ) k = .ok (.ret c) ρ := rfl
@[simp] theorem lp_ex {k x} : lp (.ex x ρ) k = .ex x ρ := rfl
@[simp] theorem lp_bad {k} : lp .bad k = .bad := rfl
def lps (gb : G Fl) (k : G Fl) : Option Env → R Fl
  | some ρ => lp (gb ρ) k
  | none => .bad
@[simp] theorem lps_some {gb k} : lps gb k (some ρ) = lp (gb ρ) k := rfl
theorem forL_nil {p gb} : forL none p gb [] ρ = .ok .next ρ := by simp only [forL, gChk_none]; rfl
theorem forL_cons {p gb d ds} : forL none p gb (d :: ds) ρ = lps gb (forL none p gb ds) (asg p d ρ) := by
  simp only [forL, gChk_none]
  cases asg p d ρ <;> rfl
theorem forS_nil {i c p gb} (h : ρ[i]? = some (some c)) : forL (some (i, c)) p gb [] ρ = .ok .next ρ := by
  simp only [forL]
  rw [gChk_some h]; rfl
theorem forS_cons {i c p gb d ds} (h : ρ[i]? = some (some c)) : forL (some (i, c)) p gb (d :: ds) ρ = lps gb (forL (some (i, c)) p gb ds) (asg p d ρ) := by
  simp only [forL]
  rw [gChk_some h]
  cases asg p d ρ <;> rfl
/-! ### blocks -/
def elk (p : Pat) (vs : List Nat) (k : G (List PyData)) : Op → G (List PyData)
  | .d y => fun ρ => (k (wipeE ρ vs)).bind fun ys => G.ret (y :: ys)
  | .s _ => fun _ => .bad
@[simp] theorem elk_at {p vs k y} : elk p vs k (.d y) ρ = (k (wipeE ρ vs)).bind fun ys => G.ret (y :: ys) := rfl
def cps (p : Pat) (vs : List Nat) (gt : G Bool) (ge : G Op) (k : G (List PyData)) : Option Env → R (List PyData)
  | some ρ => tst (gt ρ) (G.bind ge (elk p vs k)) fun ρ => k (wipeE ρ vs)
  | none => .bad
@[simp] theorem cps_some {p vs gt ge k} : cps p vs gt ge k (some ρ) = tst (gt ρ) (G.bind ge (elk p vs k)) fun ρ => k (wipeE ρ vs) := rfl
theorem compL_nil {p vs gt ge} : compL none p vs gt ge [] ρ = .ok [] ρ := by simp only [compL, gChk_none]; rfl
theorem compL_cons {p vs gt ge d ds} : compL none p vs gt ge (d :: ds) ρ = cps p vs gt ge (compL none p vs gt ge ds) (asg p d ρ) := by
  simp only [compL, gChk_none]
  cases asg p d ρ with
  | none => rfl
  | some ρ1 =>
    simp only [cps_some, tst]
    congr 1
    funext b ρ2
    cases b with
    | false => rfl
    | true =>
      simp only [if_true, bind_at]
      congr 1
      funext o ρ3
      cases o <;> rfl
def cpe (ρ : Env) (vs : List Nat) : R (List PyData) → R C
  | .ok ys ρ2 => .ok (mkL ys) (restore ρ vs ρ2)
  | _ => .bad
@[simp] theorem cpe_ok {ys vs ρ2} : cpe ρ vs (.ok ys ρ2) = .ok (mkL ys) (restore ρ vs ρ2) := rfl
noncomputable def cpk (p : Pat) (vs : List Nat) (gt : G Bool) (ge : G Op) (it : Itm) : G C := fun ρ => if plainAt ρ vs = true then cpe ρ vs (compL it.src p vs gt ge it.ds (wipeE ρ vs)) else .bad
@[simp] theorem cpk_at {p vs gt ge it} : cpk p vs gt ge it ρ = if plainAt ρ vs = true then cpe ρ vs (compL it.src p vs gt ge it.ds (wipeE ρ vs)) else .bad := rfl
@[simp] theorem gComp_at {gi p vs gt ge} : gComp gi p vs gt ge ρ = (gi ρ).bind (cpk p vs gt ge) := by
  show (gi ρ).bind _ = _
  refine congrArg (R.bind (gi ρ)) ?_
  funext it ρ
  simp only [cpk_at]
  by_cases h : plainAt ρ vs = true
  · rw [if_pos h, if_pos h]
    cases compL it.src p vs gt ge it.ds (wipeE ρ vs) <;> rfl
  · rw [if_neg h, if_neg h]
/-! ### operations -/
@[simp] theorem addD_int {i j} : addD (.int i) (.int j) = some (.val (.int (i + j))) := rfl
@[simp] theorem addD_lst {a b} : addD (.list a) (.list b) = if a.length + b.length ≤ sizeLine then some (mkL (a ++ b)) else none := by
  simp only [addD, lenOk, decide_eq_true_eq]
@[simp] theorem addD_tup {a b} : addD (.tuple a) (.tuple b) = if a.length + b.length ≤ sizeLine then some (.val (.tuple (a ++ b))) else none := by
  simp only [addD, lenOk, decide_eq_true_eq]
@[simp] theorem subD_int {i j} : subD (.int i) (.int j) = some (.val (.int (i - j))) := rfl
@[simp] theorem mulD_int {i j} : mulD (.int i) (.int j) = if i.natAbs < 18446744073709551616 ∨ j.natAbs < 18446744073709551616 then some (.val (.int (i * j))) else none := by
  simp only [mulD, decide_eq_true_eq]
@[simp] theorem modD_int {i j} : modD (.int i) (.int j) = if 0 < j then some (.val (.int (i % j))) else none := by
  simp only [modD, decide_eq_true_eq]
@[simp] theorem fdivD_int {i j} : fdivD (.int i) (.int j) = if 0 < j ∧ j < 1073741824 then some (.val (.int (i / j))) else none := by
  simp only [fdivD, decide_eq_true_eq]
@[simp] theorem powD_int {i j} : powD (.int i) (.int j) = if 0 ≤ j ∧ j ≤ 1000000 ∧ i.natAbs < 18446744073709551616 then some (.val (.int (i ^ j.toNat))) else none := by
  simp only [powD, decide_eq_true_eq]
@[simp] theorem ltA_int {i j} : ltA (.int i) (.int j) = some (decide (i < j)) := rfl
@[simp] theorem leA_int {i j} : leA (.int i) (.int j) = some (decide (i ≤ j)) := rfl
@[simp] theorem gtA_int {i j} : gtA (.int i) (.int j) = some (decide (j < i)) := rfl
@[simp] theorem geA_int {i j} : geA (.int i) (.int j) = some (decide (j ≤ i)) := rfl
@[simp] theorem isND_none {x} : isND x .none = some (isNone x) := rfl
@[simp] theorem notND_none {x} : notND x .none = some (!isNone x) := rfl
@[simp] theorem isNone_n : isNone .none = true := rfl
@[simp] theorem isNone_b {b} : isNone (.bool b) = false := rfl
@[simp] theorem isNone_i {b} : isNone (.int b) = false := rfl
@[simp] theorem isNone_s {b} : isNone (.str b) = false := rfl
@[simp] theorem isNone_l {b} : isNone (.list b) = false := rfl
@[simp] theorem isNone_t {b} : isNone (.tuple b) = false := rfl
@[simp] theorem ixD_l {ds i} : ixD (.list ds) (.int i) = (atI ds i).map .val := rfl
@[simp] theorem ixD_t {ds i} : ixD (.tuple ds) (.int i) = (atI ds i).map .val := rfl
@[simp] theorem lenD_l {ds} : lenD [.list ds] = some (.val (.int ds.length)) := rfl
@[simp] theorem lenD_t {ds} : lenD [.tuple ds] = some (.val (.int ds.length)) := rfl
@[simp] theorem listD_l {ds} : listD [.list ds] = some (mkL ds) := rfl
@[simp] theorem listD_t {ds} : listD [.tuple ds] = some (mkL ds) := rfl
@[simp] theorem tupleD_l {ds} : tupleD [.list ds] = some (.val (.tuple ds)) := rfl
@[simp] theorem tupleD_t {ds} : tupleD [.tuple ds] = some (.val (.tuple ds)) := rfl
@[simp] theorem cmpC_at {f x y} : cmpC f x y = (f x y).map fun b => .val (.bool b) := rfl
@[simp] theorem startE_at {n cs} : startE n cs = cs.map some ++ List.replicate (n - cs.length) none := rfl
@[simp] theorem mkL_vals {ds} : vals (ds.map C.val) = some ds := vals_map ds
@[simp] theorem shal_mkL {ds} : shal (mkL ds) = some (.list ds) := by simp [mkL]
@[simp] theorem fz_mkL {ds} : fz (mkL ds) = some (.list ds) := by simp [mkL]
end
end Nd

/-! Nd16: enumerate over a tuple. -/
namespace NdE
open PySem PySem.Spec PyProof.Rows
abbrev tupIt (t : Addr) : Obj := { cls := .type "tuple_iterator", data := .fields #[.ref t, .int 0 0] }
abbrev enOn (n : Addr) : Obj := { cls := .type "enumerate", data := .fields #[.none, .bool false, .ref n, rawInt 0, .none, .none] }
theorem newT (t : Addr) (items : Array Value) :
    Meets (Builtin.«enumerate.__new__» ⟨[.type "enumerate", .ref t], []⟩) (fun _ R s => s.heap.IsTuple t items ∧
      R (.ok (.ret (.ref (s.heap.push (tupIt t)).objs.size))) { s with heap := (s.heap.push (tupIt t)).push (enOn s.heap.objs.size) }) :=
  .of_wp fun prog w A R s ⟨ht, h⟩ => by
    obtain ⟨hp, g, d, tk, os⟩ := s
    have hsub := sub_enumerate
    wp_walk
    refine wpAny_stack_any fun st => wpAny_pure ?_
    split
    · rename_i c _ _ _ _ _
      cases (c == Value.type "enumerate")
      · wp_walk using wpAny_pyIter_tuple ht
        exact ⟨_, rfl, h⟩
      · wp_walk using wpAny_pyIter_tuple ht
        exact ⟨_, rfl, h⟩
    · wp_walk using wpAny_pyIter_tuple ht
      exact ⟨_, rfl, h⟩
section
variable {prog : Program} {w : World} {A : Around} {E : Value → Shared → Prop} {s : Shared}
theorem callT {t : Addr} {items : Array Value} {Q : Value → Shared → Prop} (ht : s.heap.IsTuple t items)
    (k : ∀ h' : Heap, IsEnum h' (s.heap.objs.size + 1) s.heap.objs.size 0 .none → h'.IsTupleIter s.heap.objs.size t 0 → (∀ b o, s.heap.get? b = some o → h'.get? b = some o) → Q (.ref (s.heap.objs.size + 1)) { s with heap := h' }) :
    wpAny (model prog w) A (call (.type "enumerate") [.ref t]) Q E s := by
  refine callType_new (F.called_enumerate) (by decide) (F.typeCall_enumerate_1 _) (F.newCall_enumerate_1 _) (fun o => F.args_object_init_2 o _) (F.entry_enumerate_new) (newT t items) ⟨ht, ?_⟩
  have z1 : (s.heap.push (tupIt t)).objs.size = s.heap.objs.size + 1 := by rw [Heap.size_push]
  have e1 : IsEnum ((s.heap.push (tupIt t)).push (enOn s.heap.objs.size)) (s.heap.objs.size + 1) s.heap.objs.size 0 .none := by
    have q := Heap.get?_push_size (s.heap.push (tupIt t)) (o := enOn s.heap.objs.size) rfl
    rw [z1] at q
    exact q
  show _ ∧ _
  rw [z1]
  exact ⟨⟨_, e1, rfl⟩, k _ e1 ⟨_, Heap.get?_push_of_some _ (Heap.get?_push_size _ rfl), rfl, rfl⟩ fun b o q => Heap.get?_push_of_some _ (Heap.get?_push_of_some _ q)⟩
theorem endT {e it t : Addr} {i : Nat} {items : Array Value} {c : Int} {old : Value} {Q : Option Value → Shared → Prop} (hh : A.handled = none) (he : IsEnum s.heap e it c old) (hit : s.heap.IsTupleIter it t i) (ht : s.heap.IsTuple t items) (hx : items[i]? = none)
    (k : ∀ h' : Heap, Heap.ExtBut it s.heap h' → Q none { s with heap := h' }) : wpAny (model prog w) A (pyNext (.ref e)) Q E s := by
  have ty : s.TypeIs (.ref e) "enumerate" := ⟨_, he, rfl⟩
  unfold pyNext
  refine wpAny_bind (wpAny_attempt (wpAny_callSpecial?_slot (name := Str.ofString "__next__") ty (F.slot_enumerate_next) (wpAny_call_entry (F.slot_enumerate_next) ty (F.entry_enumerate_next) ?_ (F.args_enumerate_next_1 _))))
  show wpAny _ _ (field (.ref e) 2 >>= _) _ _ s
  refine wpAny_bind (wpAny_field he rfl (x := .ref it) rfl ?_)
  refine wpAny_bind (wpAny_nextOf_tuple_end (A := A.in1) hh hit ht hx fun h' x b ⟨o, ho, hc⟩ => ?_)
  exact wpAny_bind (wpAny_isInstance (T := "StopIteration") (b := true) ⟨o, ho, hc⟩ isSubtype_stop (wpAny_pure (k _ b)))
end
end NdE
namespace L2
open PySem PySem.Spec PyProof.Rows
/-- a tuple's items in new pairs -/
def IteT (K : PySem.W.Frag) (a : Addr) : It :=
  ⟨fun i H => ∃ (xs : List V) (x : V), SqT K H a xs ∧ xs[i]? = some x, fun i H v H' => ∃ T x, v = .ref T ∧ H T = none ∧ H' = upd H T (.tup [.int (i : Nat), x]) ∧ ∀ xs, SqT K H a xs → xs[i]? = some x, fun i H => ∃ xs : List V, SqT K H a xs ∧ xs.length ≤ i⟩
theorem turn_enumT {P : Program} {w : World} {K : PySem.W.Frag} {elts : List Expr} {kk : Nat} {tpos : Pos} (a e it : Addr) (hae : a ≠ it) :
    Turn P w K (.Tuple elts kk tpos) (IteT K a) [e, it] e (fun i h => (∃ old, IsEnum h e it ((i : Nat) : Int) old) ∧ h.IsTupleIter it a i ∧ e ≠ it ∧ e ≠ a) where
  mem := by simp
  obj := fun i h st b hb => by
    obtain ⟨⟨old, he⟩, ⟨o, ho, hc, hd⟩, _⟩ := st
    rcases (by simpa using hb : b = e ∨ b = it) with z | z
    · rw [z]
      exact ⟨_, he, fun v q => nomatch q⟩
    · rw [z]
      exact ⟨o, ho, fun v q => by rw [hd] at q; cases q⟩
  keep := fun i h h' st k => by
    obtain ⟨⟨old, he⟩, hi, hne⟩ := st
    exact ⟨⟨old, k e (by simp) _ he⟩, hi.at fun o q => k it (by simp) o q, hne⟩
  item := by
    intro X hP hw hK hc i pins s σ H E I hf st hg
    subst hP hw hK
    obtain ⟨⟨old, he⟩, hit, hne, hea⟩ := st
    obtain ⟨xs, x, hq, hx⟩ := hg
    obtain ⟨its, rv, p, hz⟩ := I.tuple hq
    obtain ⟨u, hu, ru⟩ := rv.get hx
    have hel : e < s.heap.objs.size := Heap.lt_size he
    have hil : it < s.heap.objs.size := by obtain ⟨_, q, _⟩ := hit; exact Heap.lt_size q
    have hlt : i < its.toArray.size := by
      have := (List.getElem?_eq_some_iff.mp hu).1
      simpa using this
    refine wpAny_pyNext_enum_itemD (Draws.tuple (A := X.A.in1) (I.ok.hd hc) it a hae its.toArray) he ⟨hit, p⟩ hlt hne (by simp [hne, hea]) fun y h' tk hy ho hit' hT hsz hk => ?_
    have hyu : y = u := by
      have hy' : its.toArray[i]? = some y := hy
      rw [List.getElem?_toArray, hu] at hy'
      exact (Option.some.inj hy').symm
    subst hyu
    refine ⟨_, rfl, wpAny_letOwnedTupleGo_enum (s := { s with heap := h', toks := tk + 1 }) ho fun h'' he' sb => ?_⟩
    have hT2 : h''.get? s.heap.objs.size = some { cls := .type "tuple", data := .seq #[.int i tk, y] } := (sb.2 _ (Nat.ne_of_gt hel)).trans hT
    have new : ObjOk X.prog X.w (upd H s.heap.objs.size (.tup [.int (i : Nat), x])) h'' s.heap.objs.size (.tup [.int (i : Nat), x]) :=
      ⟨(by decide : 2 ≤ sizeLine), [.int i tk, y], .cons ⟨_, rfl⟩ (.cons ru .nil), ⟨_, hT2, rfl, _, rfl⟩⟩
    have kp : ∀ b o, b ∉ [e, it] → s.heap.get? b = some o → h''.get? b = some o := fun b o hb q => by
      simp only [List.mem_cons, List.not_mem_nil, or_false, not_or] at hb
      exact (sb.2 b hb.1).trans (hk b o hb.1 hb.2 q)
    have I1 : Inv X pins σ (upd H s.heap.objs.size (.tup [.int (i : Nat), x])) { s with heap := h'', toks := tk + 1 } := I.turnedNew (ch := [e, it]) (fun b o hb q => kp b o hb q) hf (Nat.le_refl _) new
    refine ⟨.ref s.heap.objs.size, _, I1, rfl, ⟨_, x, rfl, I.hok.fresh (Nat.le_refl _), rfl, fun ys hy => by rw [I.tuple_inj hy hq]; exact hx⟩, ⟨⟨y, ?_⟩, hit'.1.at fun o q => (sb.2 it (Ne.symm hne)).trans q, hne, hea⟩, fun b hb => ?_⟩
    · have e1 : ((i + 1 : Nat) : Int) = (i : Int) + 1 := by omega
      rw [e1]
      exact he'
    · have hb' : b < s.heap.objs.size := by
        rcases (by simpa using hb : b = e ∨ b = it) with z | z
        · exact z ▸ hel
        · exact z ▸ hil
      rw [upd_ne (Nat.ne_of_lt hb')]
      exact (hf b hb).1
  done := by
    intro X hP hw hK hc i pins s σ H E I hf st hg
    subst hP hw hK
    obtain ⟨⟨old, he⟩, hit, hne, hea⟩ := st
    obtain ⟨xs, hq, hx⟩ := hg
    obtain ⟨its, rv, p, hz⟩ := I.tuple hq
    have hl := rv.length
    obtain ⟨f0, f1, f2, f3, f4, f5⟩ := hf it (by simp)
    exact NdE.endT (I.ok.hd hc) he hit p (by simp; omega) fun h' eb => ⟨rfl, I.turned (t' := s.toks) (fun b o hb q => eb b o hb q) f0 f1 f3 f4 f5⟩
  self := fun A i s Q E st h => by
    obtain ⟨⟨_, he⟩, _⟩ := st
    exact wpAny_pyIter_enum he h
def iEnumA (K : PySem.W.Frag) (ta : TA) : TI := fun σ H R => ta σ H fun vs H1 => ∃ a, vs = [.ref a] ∧ ((∃ xs, SqL K H1 a xs ∧ R (Ite K a) H1) ∨ (∃ xs, SqT K H1 a xs ∧ R (IteT K a) H1))
theorem pi_enumA {X : Cx} {e : Expr} {ta : TA} {p pos tpos : Pos} {elts : List Expr} {kk : Nat} (hg : Gl X "enumerate") (hm : X.mg "enumerate" = none) (ha : PA X [e] ta) (hs2 : starEach [e] X.env = [(false, eval e X.env)] := by rfl) :
    PI X (.Tuple elts kk tpos) (.Call (.Name "enumerate" p) [e] [] pos) (iEnumA X.K ta) := by
  refine ⟨fun pins s σ H R I h => ?_⟩
  refine Call_ (ld_blt I hg hm boot_enumerate (PyProof.Rows.callWith_type1 (thn (ha.run pos pins s σ H _ I h) fun us s1 q => ?_) hs2 rfl))
  obtain ⟨vs, H1, I1, r1, q1⟩ := q
  obtain ⟨a, ex, q⟩ := q1
  subst ex
  obtain rfl := Vals.ref1 r1
  have fpo : ∀ b ∈ [s1.heap.objs.size + 1, s1.heap.objs.size], s1.heap.objs.size ≤ b := fun b hb => by
    rcases (by simpa using hb : b = s1.heap.objs.size + 1 ∨ b = s1.heap.objs.size) with z | z <;> omega
  rcases q with ⟨xs, hq, q⟩ | ⟨xs, hq, q⟩
  · obtain ⟨its, rv, p', hz⟩ := I1.list hq
    refine call_enumerate_list p'.isList fun h' he hit hsz hk => wpAny_pyIter_enum he ?_
    exact ⟨s1.heap.objs.size + 1, [s1.heap.objs.size + 1, s1.heap.objs.size], _, _, H1, rfl, I1.kept (t' := s1.toks) hk, turn_enum a (s1.heap.objs.size + 1) s1.heap.objs.size, ⟨⟨.none, he⟩, hit, Nat.succ_ne_self _⟩, fun b hb => I1.fpOk (fpo b hb) (I1.hok.fresh (fpo b hb)), q⟩
  · obtain ⟨its, rv, p', hz⟩ := I1.tuple hq
    have hlt : a < s1.heap.objs.size := by obtain ⟨o, ho, _⟩ := p'; exact Heap.lt_size ho
    refine NdE.callT (items := its.toArray) p' fun h' he hit hk => wpAny_pyIter_enum he ?_
    exact ⟨s1.heap.objs.size + 1, [s1.heap.objs.size + 1, s1.heap.objs.size], _, _, H1, rfl, I1.kept (t' := s1.toks) hk, turn_enumT a (s1.heap.objs.size + 1) s1.heap.objs.size (Nat.ne_of_lt hlt), ⟨⟨.none, he⟩, hit, Nat.succ_ne_self _, Nat.ne_of_gt (Nat.lt_succ_of_lt hlt)⟩, fun b hb => I1.fpOk (fpo b hb) (I1.hok.fresh (fpo b hb)), q⟩
end L2
namespace Nd
open PySem L2
section
variable [TF] {X : Cx} {K : Frag} {mg : Str → Option Value} {W : WX} {F H : Hp} {ρ : Env} {σ : St}
theorem itOk_enumT {a : Addr} {vs : List V} {xs : List PyData} (s1 : SqT K F a vs) (r1 : DqAll K F vs xs) : ItOk K mg none 0 F (enumP xs) (IteT K a) where
  go := fun ρ fp F' H' σ i w _ _ se hi => by
    have hi' : i < vs.length := by rw [r1.length]; simpa [enumP] using hi
    exact ⟨vs, vs[i], SqT.mono w.sub (SqT.mono se s1), List.getElem?_eq_getElem hi'⟩
  yld := fun ρ fp F' H' σ i x H2 d w _ _ se hd hy => by
    unfold enumP at hd
    rw [List.getElem?_map, List.getElem?_zipIdx] at hd
    obtain ⟨T, x2, rfl, hT, rfl, k1⟩ := hy
    cases q : xs[i]? with
    | none => rw [q] at hd; cases hd
    | some x1 =>
      rw [q] at hd
      simp only [Option.map_some, Option.some.injEq] at hd
      subst hd
      obtain ⟨u1, e1, q1⟩ := r1.get q
      have z1 := k1 vs (SqT.mono w.sub (SqT.mono se s1))
      rw [e1] at z1
      have z1' := Option.some.inj z1
      subst z1'
      have x := Frs.newF (p := T) (o := .tup [.int (i : Nat), u1]) w.sub hT
      exact ⟨_, x, .tup (.of upd_same) (.cons (by simpa using Dq.int (K := K) (F := upd F' T (.tup [.int (i : Nat), u1])) ((i : Nat) : Int)) (.cons (q1.mono (se.trans x.fz)) .nil))⟩
  stop := fun ρ fp F' H' σ w _ _ se => ⟨vs, SqT.mono w.sub (SqT.mono se s1), by rw [r1.length]; simp [enumP]⟩
/-- of a list or a tuple -/
def enumJ : Option PyData → Option (List PyData)
  | some (.list xs) => if szOk xs = true then some (enumP xs) else none
  | some (.tuple xs) => if szOk xs = true then some (enumP xs) else none
  | _ => none
def gEnumA (ga : G Op) : G Itm := G.bind ga fun a => fun ρ => match enumJ (opD ρ a) with
  | some ds => .ok ⟨ds, none⟩ ρ
  | none => .bad
theorem i_enumA {e : Expr} {p pos tpos : Pos} {elts : List Expr} {kk : Nat} {ga : G Op} (hg : Gl X "enumerate") (hm : X.mg "enumerate" = none) (ha : PE X e (tO X.K mg W ga))
    (hs : starEach [e] X.env = [(false, eval e X.env)] := by rfl) : PI X (.Tuple elts kk tpos) (.Call (.Name "enumerate" p) [e] [] pos) (tI X.K mg W (gEnumA ga)) := by
  refine ⟨fun pins s σ H Rr I h => ?_⟩
  refine (pi_enumA hg hm (pa_cons ha pa_nil hs) hs).run pins s σ H Rr I ?_
  obtain ⟨ρ, fp, F, w, h⟩ := h
  unfold gEnumA G.bind at h
  refine oRun w Chg.refl ?_
  cases q : ga ρ with
  | bad => rw [q] at h; exact h.elim
  | ex x ρ' => rw [q] at h; exact h
  | ok a ρ1 =>
    rw [q] at h
    simp only [R.bind_ok] at h
    intro v F1 H1 fp1 w1 r1 s1 c1
    cases z : enumJ (opD ρ1 a) with
    | none => rw [z] at h; exact h.elim
    | some ds =>
      rw [z] at h
      unfold enumJ at z
      split at z
      · rename_i xs ex
        split at z
        · rename_i hl
          cases z
          obtain ⟨a1, vs, rfl, t1, p1⟩ := (opD_dq w1 r1 ex).list_inv
          exact ⟨a1, rfl, .inl ⟨vs, w1.sub.seq t1, h _ 0 F1 H1 fp1 w1 c1 trivial trivial (itOk_enumL t1 p1) (by simpa [enumP, szOk] using hl)⟩⟩
        · cases z
      · rename_i xs ex
        split at z
        · rename_i hl
          cases z
          obtain ⟨a1, vs, rfl, t1, p1⟩ := (opD_dq w1 r1 ex).tup_inv
          exact ⟨a1, rfl, .inr ⟨vs, SqT.mono w1.sub t1, h _ 0 F1 H1 fp1 w1 c1 trivial trivial (itOk_enumT t1 p1) (by simpa [enumP, szOk] using hl)⟩⟩
        · cases z
      · cases z
theorem src_enumA {ga : G Op} {T : Src → Prop} (h0 : T none) : ∀ ρ it ρ', gEnumA ga ρ = .ok it ρ' → T it.src := by
  intro ρ it ρ' e
  unfold gEnumA G.bind at e
  cases z : ga ρ with
  | bad => rw [z] at e; cases e
  | ex x ρ1 => rw [z] at e; cases e
  | ok c ρ1 =>
    rw [z] at e
    simp only [R.bind_ok] at e
    split at e
    · cases e; exact h0
    · cases e
def enjk (a : Op) : G Itm := fun ρ => itm (enumJ (opD ρ a)) ρ
@[simp] theorem enjk_at {a} : enjk a ρ = itm (enumJ (opD ρ a)) ρ := rfl
@[simp] theorem gEnumA_at {ga} : gEnumA ga ρ = (ga ρ).bind enjk := by
  show (ga ρ).bind _ = _
  congr 1
  funext a ρ
  simp only [enjk_at]
  cases enumJ (opD ρ a) <;> rfl
end
end Nd

/-! Nd17: texts: methods, str(), int(), f'..', a or b. -/
namespace Nd
open PySem L2
section
variable [TF] {X : Cx} {K : Frag} {mg : Str → Option Value} {W : WX} {F H F0 H0 : Hp} {ρ : Env} {fp fp0 : AS} {σ : St} {pos : Pos}
/-! ### a method of a text -/
def rM (K : Frag) (mg : Str → Option Value) (f : PyData → List PyData → Option C) : V → List V → Hp → VK → Prop := fun x xs H Q => ∃ F d ds c, Same F H ∧ Sh K F H x d ∧ Shs K F H xs ds ∧ f d ds = some c ∧ Post K mg F H c Q
def mts (f : PyData → List PyData → Option C) : Option PyData → Option (List PyData) → Env → R C
  | some d, some ds, ρ => gFin (f d ds) ρ
  | _, _, _ => .bad
def isS : Option PyData → Env → R Unit
  | some (.str _), ρ => .ok () ρ
  | _, _ => .bad
def gMtS (f : PyData → List PyData → Option C) (go : G Op) (g : G (List Op)) : G C := G.bind go fun o => G.bind (fun ρ => isS (deref ρ o) ρ) fun _ => G.bind g fun os => fun ρ => mts f (deref ρ o) (derefs ρ os) ρ
theorem gMtS_ok {f : PyData → List PyData → Option C} {go : G Op} {g : G (List Op)} {Q : VK} (h : tE K mg W (gMtS f go g) σ H Q) : tBM K "str" (rM K mg f) (tO K mg W go) (tOs K mg W g) σ H Q := by
  obtain ⟨ρ, fp, F, w, h⟩ := h
  unfold gMtS G.bind at h
  refine oRun w Chg.refl ?_
  cases q : go ρ with
  | bad => rw [q] at h; exact h
  | ex x ρ' => rw [q] at h; exact h
  | ok o ρ1 =>
    rw [q] at h
    simp only [R.bind_ok] at h
    intro v F1 H1 fp1 w1 r1 s1 c1
    cases z : deref ρ1 o with
    | none => rw [z] at h; exact h.elim
    | some d0 =>
      rw [z] at h
      cases d0 with
      | str x =>
        have ev := (deref_sh w1 r1 z).str.1
        refine ⟨by rw [ev]; rfl, ?_⟩
        simp only [isS, R.bind_ok] at h
        refine osRun w1 c1 ?_
        cases q2 : g ρ1 with
        | bad => rw [q2] at h; exact h
        | ex x ρ' => rw [q2] at h; exact h
        | ok os ρ2 =>
          rw [q2] at h
          simp only [R.bind_ok] at h
          intro vs F2 H2 fp2 w2 r2 s2 c2
          cases z2 : deref ρ2 o with
          | none => rw [z2] at h; exact h.elim
          | some d =>
            cases z3 : derefs ρ2 os with
            | none => rw [z2, z3] at h; exact h.elim
            | some ds =>
              rw [z2, z3] at h
              simp only [mts, gFin] at h
              cases fe : f d ds with
              | none => rw [fe] at h; exact h.elim
              | some c =>
                rw [fe] at h
                exact ⟨F2, d, ds, c, w2.sub, deref_sh w2 (r1.mono s2) z2, derefs_sh w2 r2 z3, fe, fin_post w2 c2 h⟩
      | none => exact h.elim
      | bool b => exact h.elim
      | int b => exact h.elim
      | list b => exact h.elim
      | tuple b => exact h.elim
      | dict b => exact h.elim
theorem e_mtS {o e : Expr} {es : List Expr} {name : Str} {id : String} {apos cpos : Pos} {f : PyData → List PyData → Option C} {go : G Op} {gs : List (G Op)} (slot : PySem.Slot "str" name id) (hty : typeOf (.builtin id) = pure (.type "method_descriptor")) (hm : MtR X id (rM X.K mg f))
    (ho : PE X o (tO X.K mg W go)) (ha : PA X (e :: es) (tOs X.K mg W (gOs gs))) (hbase : attributeBase o name X.env (eval o X.env) = eval o X.env := by rfl)
    (hfew : ((backTo cpos (starEach (e :: es) X.env)).all (fun x => !x.1) && (backToKw cpos (keywordEach [] X.env)).all (fun x => x.1.isSome) && decide ((e :: es).length + ([] : List Keyword).length + (if ([] : List Keyword).isEmpty then 0 else 1) < 30)) = true := by rfl)
    (hline : (apos.endLine == cpos.line) = true := by rfl) (hs : starEach (e :: es) X.env = (false, eval e X.env) :: starEach es X.env := by rfl) (hplain : (backTo cpos (starEach es X.env)).any (·.1) = false := by rfl) :
    PE X (.Call (.Attribute o name apos) (e :: es) [] cpos) (tE X.K mg W (gMtS f go (gOs gs))) :=
  (pe_bm PySem.F.plainAttrs_str slot hty hm ho ha hbase hfew hline hs hplain).imp fun _ _ _ => gMtS_ok
def layS (x : Str) : Bool := PyData.canLay0 (.str x)
def joinD : PyData → List PyData → Option C
  | .str a, [.list ds] => (allStrs ds).bind fun ys => if decide ((ys.map (·.length)).sum + ys.length * a.length ≤ 16777216) && layS (Txt.join a ys) = true then some (.val (.str (Txt.join a ys))) else none
  | .str a, [.tuple ds] => (allStrs ds).bind fun ys => if decide ((ys.map (·.length)).sum + ys.length * a.length ≤ 16777216) && layS (Txt.join a ys) = true then some (.val (.str (Txt.join a ys))) else none
  | _, _ => none
theorem m_join : MtR X "str.join" (rM X.K mg joinD) := by
  intro pins s σ H x xs v us Q I rx rs h
  obtain ⟨F, d, ds, c, sub, hx, hxs, e, post⟩ := h
  unfold joinD at e
  split at e
  · rename_i a ds
    cases q : allStrs ds with
    | none => rw [q] at e; cases e
    | some ys =>
      rw [q] at e
      simp only [Option.bind_some] at e
      split at e
      · rename_i hl
        cases e
        simp only [Bool.and_eq_true, decide_eq_true_eq] at hl
        obtain ⟨v, rfl, s1⟩ := hxs.one
        obtain ⟨p, vs, e1, q1, r1⟩ := s1.list sub
        rw [allStrs_eq q] at r1
        rw [r1.strs] at q1
        exact mt_join pins s σ H x _ _ us Q I rx rs ⟨a, p, ys, hx.str.1, by rw [e1], .inl q1, hl.1, post.val sub (.str hl.2)⟩
      · cases e
  · rename_i a ds
    cases q : allStrs ds with
    | none => rw [q] at e; cases e
    | some ys =>
      rw [q] at e
      simp only [Option.bind_some] at e
      split at e
      · rename_i hl
        cases e
        simp only [Bool.and_eq_true, decide_eq_true_eq] at hl
        obtain ⟨v, rfl, s1⟩ := hxs.one
        obtain ⟨p, vs, e1, q0, q1, r1⟩ := s1.tup sub
        rw [allStrs_eq q] at r1
        rw [r1.strs] at q1
        exact mt_join pins s σ H x _ _ us Q I rx rs ⟨a, p, ys, hx.str.1, by rw [e1], .inr q1, hl.1, post.val sub (.str hl.2)⟩
      · cases e
  · cases e
theorem Shs.str1 {vs : List V} {b : Str} (h : Shs K F H vs [.str b]) : vs = [.str b] ∧ PyData.canLay0 (.str b) = true := by
  obtain ⟨v, rfl, s1⟩ := h.one
  rw [s1.str.1]
  exact ⟨rfl, s1.str.2⟩
def splitD : PyData → List PyData → Option C
  | .str a, [.str b] => if decide ((b.length == 0) = false ∧ a.length + 2 ≤ sizeLine) && PyData.canLayAll0 ((Txt.split a b).map .str) = true then some (mkL ((Txt.split a b).map .str)) else none
  | _, _ => none
theorem m_split : MtR X "str.split" (rM X.K mg splitD) := by
  intro pins s σ H x xs v us Q I rx rs h
  obtain ⟨F, d, ds, c, sub, hx, hxs, e, post⟩ := h
  unfold splitD at e
  split at e
  · rename_i a b
    split at e
    · rename_i hl
      cases e
      simp only [Bool.and_eq_true, decide_eq_true_eq] at hl
      exact mt_split pins s σ H x _ _ us Q I rx rs ⟨a, b, hx.str.1, hxs.str1.1, hl.1.1, hl.1.2, fun p hp => post.lst sub (DqAll.of_strs hl.2) hp⟩
    · cases e
  · cases e
def partD : PyData → List PyData → Option C
  | .str a, [.str b] => if decide ((b.length == 0) = false ∧ a.length ≤ sizeLine) && PyData.canLayAll0 [.str (Txt.partition a b).1, .str (Txt.partition a b).2.1, .str (Txt.partition a b).2.2] = true then some (.val (.tuple [.str (Txt.partition a b).1, .str (Txt.partition a b).2.1, .str (Txt.partition a b).2.2])) else none
  | _, _ => none
theorem m_part : MtR X "str.partition" (rM X.K mg partD) := by
  intro pins s σ H x xs v us Q I rx rs h
  obtain ⟨F, d, ds, c, sub, hx, hxs, e, post⟩ := h
  unfold partD at e
  split at e
  · rename_i a b
    split at e
    · rename_i hl
      cases e
      simp only [Bool.and_eq_true, decide_eq_true_eq] at hl
      refine mt_partition pins s σ H x _ _ us Q I rx rs ⟨a, b, hx.str.1, hxs.str1.1, hl.1.1, hl.1.2, fun p hp => ?_⟩
      exact post.tup sub (vs := [_, _, _]) (DqAll.of_strs (ns := [_, _, _]) hl.2) hp
    · cases e
  · cases e
/-! ### str(i), int(text) -/
def strD : List PyData → Option C
  | [.int i] => if decide (i.natAbs.log2 < 1920) && layS (toString i) = true then some (.val (.str (toString i))) else none
  | _ => none
theorem c_str : CallR X (.type "str") (rN X.K mg strD) := by
  intro pins s σ H xs us Q I r h
  obtain ⟨F, ds, c, sub, sh, e, post⟩ := h
  unfold strD at e
  split at e
  · rename_i i
    split at e
    · rename_i hl
      cases e
      simp only [Bool.and_eq_true, decide_eq_true_eq] at hl
      obtain ⟨v, rfl, s1⟩ := sh.one
      exact call_str_int pins s σ H _ us Q I r ⟨i, by rw [s1.int], hl.1, post.val sub (.str hl.2)⟩
    · cases e
  · cases e
def intD : List PyData → Option C
  | [.str a] => (PySem.intText? a).bind fun n => if decide (a.length ≤ 640) = true then some (.val (.int n)) else none
  | _ => none
theorem c_int : CallR X (.type "int") (rN X.K mg intD) := by
  intro pins s σ H xs us Q I r h
  obtain ⟨F, ds, c, sub, sh, e, post⟩ := h
  unfold intD at e
  split at e
  · rename_i a
    cases q : PySem.intText? a with
    | none => rw [q] at e; cases e
    | some n =>
      rw [q] at e
      simp only [Option.bind_some] at e
      split at e
      · rename_i hl
        cases e
        exact call_int_str pins s σ H _ us Q I r ⟨a, n, sh.str1.1, q, of_decide_eq_true hl, post.val sub (.int _)⟩
      · cases e
  · cases e
end
end Nd

/-! Nd18: f'..', a or b, and what these compute. -/
namespace Nd
open PySem L2
section
variable [TF] {X : Cx} {K : Frag} {mg : Str → Option Value} {W : WX} {F H F0 H0 : Hp} {ρ : Env} {fp fp0 : AS} {σ : St} {pos : Pos}
/-- a part: a text -/
def tSt (K : Frag) (mg : Str → Option Value) (W : WX) (g : G Str) : TE := fun σ H Q => ∃ ρ fp F, Wd K mg F H ρ fp σ ∧
  match g ρ with
  | .ok y ρ' => ∀ F' H' fp', Wd K mg F' H' ρ' fp' σ → Chg fp F H fp' F' H' → Q (.str y) H'
  | .ex x ρ' => exPost K mg W F H fp σ x ρ'
  | .bad => False
def txt1 : Option PyData → Env → R Str
  | some (.str y), ρ => if y.length ≤ sizeLine then .ok y ρ else .bad
  | some (.int i), ρ => if i.natAbs.log2 < 1920 then .ok (toString i) ρ else .bad
  | _, _ => .bad
def txk (o : Op) : G Str := fun ρ => txt1 (deref ρ o) ρ
def gTx (g : G Op) : G Str := G.bind g txk
def gTc (x : Str) : G Str := G.ret x
theorem j_fmt {e : Expr} {g : G Op} (he : PE X e (tO K mg W g)) : PE X (.FormattedValue e (-1) none pos) (tSt K mg W (gTx g)) := (pe_fmt he).imp fun σ H Q h => by
  obtain ⟨ρ, fp, F, w, h⟩ := h
  unfold gTx G.bind at h
  refine oRun w Chg.refl ?_
  cases q : g ρ with
  | bad => rw [q] at h; exact h
  | ex x ρ' => rw [q] at h; exact h
  | ok o ρ1 =>
    rw [q] at h
    simp only [R.bind_ok, txk] at h
    intro v F1 H1 fp1 w1 r1 s1 c1
    cases z : deref ρ1 o with
    | none => rw [z] at h; exact h.elim
    | some d =>
      rw [z] at h
      cases d with
      | str y =>
        simp only [txt1] at h
        by_cases hl : y.length ≤ sizeLine
        · rw [if_pos hl] at h
          exact .inl ⟨y, (deref_sh w1 r1 z).str.1, hl, h F1 H1 fp1 w1 c1⟩
        · rw [if_neg hl] at h; exact h.elim
      | int i =>
        simp only [txt1] at h
        by_cases hl : i.natAbs.log2 < 1920
        · rw [if_pos hl] at h
          exact .inr ⟨i, (deref_sh w1 r1 z).int, hl, h F1 H1 fp1 w1 c1⟩
        · rw [if_neg hl] at h; exact h.elim
      | none => exact h.elim
      | bool b => exact h.elim
      | list b => exact h.elim
      | tuple b => exact h.elim
      | dict b => exact h.elim
theorem j_str {x : Str} {j} : PE X (.Constant (.str x) j pos) (tSt K mg W (gTc x)) := pe_str.imp fun σ H Q h => by
  obtain ⟨ρ, fp, F, w, h⟩ := h
  exact h F H fp w Chg.refl
def gJ : List (G Str) → Str → G Str
  | [], acc => G.ret acc
  | g :: gs, acc => G.bind g fun y => fun ρ => if (acc ++ y).length ≤ sizeLine then gJ gs (acc ++ y) ρ else .bad
theorem js_run : ∀ {gs : List (G Str)} {acc : Str} {ρ : Env} {fp : AS} {F H : Hp} {Q : Str → Hp → Prop}, Wd K mg F H ρ fp σ → Chg fp0 F0 H0 fp F H →
    (match gJ gs acc ρ with
      | .ok y ρ' => ∀ F' H' fp', Wd K mg F' H' ρ' fp' σ → Chg fp0 F0 H0 fp' F' H' → Q y H'
      | .ex x ρ' => exPost K mg W F0 H0 fp0 σ x ρ'
      | .bad => False) → tJs (gs.map (tSt K mg W)) acc σ H Q
  | [], acc, ρ, fp, F, H, Q, w, ch, h => h F H fp w ch
  | g :: gs, acc, ρ, fp, F, H, Q, w, ch, h => by
    simp only [gJ, G.bind] at h
    refine ⟨ρ, fp, F, w, ?_⟩
    cases q : g ρ with
    | bad => rw [q] at h; exact h.elim
    | ex x ρ' => rw [q] at h; exact exPost.of ch h
    | ok y ρ1 =>
      rw [q] at h
      simp only [R.bind_ok] at h
      intro F1 H1 fp1 w1 c1
      by_cases hl : (acc ++ y).length ≤ sizeLine
      · rw [if_pos hl] at h
        exact ⟨y, rfl, hl, js_run w1 (ch.trans c1) h⟩
      · rw [if_neg hl] at h; exact h.elim
def lyk (y : Str) : G C := fun ρ => if layS y = true then .ok (.val (.str y)) ρ else .bad
def gJs (gs : List (G Str)) : G C := G.bind (gJ gs Str.empty) lyk
theorem j_nil : PJ X [] (([] : List (G Str)).map (tSt K mg W)) := .nil
theorem j_cons {e : Expr} {es : List Expr} {g : G Str} {gs : List (G Str)} (h : PE X e (tSt K mg W g)) (r : PJ X es (gs.map (tSt K mg W))) : PJ X (e :: es) ((g :: gs).map (tSt K mg W)) := .cons h r
theorem e_js {v1 v2 : Expr} {rest : List Expr} {gs : List (G Str)} (h : PJ X (v1 :: v2 :: rest) (gs.map (tSt K mg W))) : PE X (.JoinedStr (v1 :: v2 :: rest) pos) (tE K mg W (gJs gs)) := (pe_joined h).imp fun σ H Q h => by
  obtain ⟨ρ, fp, F, w, h⟩ := h
  unfold gJs G.bind at h
  refine js_run w Chg.refl ?_
  cases q : gJ gs Str.empty ρ with
  | bad => rw [q] at h; exact h
  | ex x ρ' => rw [q] at h; exact h
  | ok y ρ1 =>
    rw [q] at h
    simp only [R.bind_ok, lyk] at h
    intro F1 H1 fp1 w1 c1
    by_cases hl : layS y = true
    · rw [if_pos hl] at h
      exact h (.str y) F1 H1 fp1 _ w1 (Rc.of_dp (.str hl)) (fun _ z => z.elim) c1.or_false
    · rw [if_neg hl] at h; exact h.elim
/-! ### a or b, as a value -/
def truD : PyData → Option Bool
  | .none => some false
  | .bool b => some b
  | .int i => some (i != 0)
  | .str y => if decide (y.length ≤ sizeLine) = true then some ((y.length : Int) != 0) else none
  | .list ds => some (!ds.isEmpty)
  | .tuple ds => some (!ds.isEmpty)
  | _ => none
theorem truD_ok {d : PyData} {v : V} {k : Bool} (s : Same F H) (h : Dq K F v d) (e : truD d = some k) : TruV K v H k := by
  cases d with
  | none => rw [h.non_inv]; cases e; rfl
  | bool b => rw [h.bl_inv]; cases e; rfl
  | int i => rw [h.int_inv]; cases e; rfl
  | str y =>
    rw [h.str_inv.1]
    simp only [truD] at e
    split at e
    · rename_i hl
      cases e
      exact ⟨of_decide_eq_true hl, rfl⟩
    · cases e
  | list ds =>
    obtain ⟨a, vs, e1, s1, r1⟩ := h.list_inv
    rw [e1]
    cases e
    refine .inl ⟨vs, s.seq s1, ?_⟩
    have := r1.length
    cases vs <;> cases ds <;> first | rfl | simp at this
  | tuple ds =>
    obtain ⟨a, vs, e1, s1, r1⟩ := h.tup_inv
    rw [e1]
    cases e
    refine .inr (.inl ⟨vs, SqT.mono s s1, ?_⟩)
    have := r1.length
    cases vs <;> cases ds <;> first | rfl | simp at this
  | dict _ => cases e
def orm (g : G C) : Option PyData → Env → R C
  | some d, ρ => match truD d with
    | some b => if b = true then .ok (.val d) ρ else g ρ
    | none => .bad
  | none, _ => .bad
def ork (g : G C) (o : Op) : G C := fun ρ => orm g (opD ρ o) ρ
def gOrX (ga : G Op) (g : G C) : G C := G.bind ga (ork g)
theorem e_orX {a b : Expr} {rest : List Expr} {ga : G Op} {g : G C} (ha : PE X a (tO X.K mg W ga)) (hb : PE X (.BoolOp .Or (b :: rest) pos) (tE X.K mg W g)) : PE X (.BoolOp .Or (a :: b :: rest) pos) (tE X.K mg W (gOrX ga g)) := (pe_orT ha hb).imp fun σ H Q h => by
  obtain ⟨ρ, fp, F, w, h⟩ := h
  unfold gOrX G.bind at h
  refine oRun w Chg.refl ?_
  cases q : ga ρ with
  | bad => rw [q] at h; exact h
  | ex x ρ' => rw [q] at h; exact h
  | ok o ρ1 =>
    rw [q] at h
    simp only [R.bind_ok, ork] at h
    intro v F1 H1 fp1 w1 r1 s1 c1
    cases z : opD ρ1 o with
    | none => rw [z] at h; exact h.elim
    | some d =>
      rw [z] at h
      simp only [orm] at h
      cases zt : truD d with
      | none => rw [zt] at h; exact h.elim
      | some k =>
        rw [zt] at h
        have dq := opD_dq w1 r1 z
        refine ⟨k, truD_ok w1.sub dq zt, ?_⟩
        cases k with
        | true => exact iteT (h v F1 H1 fp1 _ w1 (Rc.of_dp dq) (fun _ z => z.elim) c1.or_false)
        | false =>
          simp only [Bool.false_eq_true, if_false] at h ⊢
          refine eRun w1 c1 ?_
          cases q2 : g ρ1 with
          | bad => rw [q2] at h; exact h
          | ex x ρ' => rw [q2] at h; exact h
          | ok c ρ2 =>
            rw [q2] at h
            exact fun v F' H' fp' fv w' r d _ c' => h v F' H' fp' fv w' r d c'
/-! ### a module's constants -/
theorem e_globI {x : Str} {i : Int} (hg : Gl X x) (h : ∃ t, X.mg x = some (.int i t)) (hd : (x == ("__debug__" : Str)) = false := by decide) : PE X (.Name x pos) (tE K mg W (gC (.int i))) := by
  obtain ⟨t, hm⟩ := h
  exact e_glob (v := .int i) hg hm ⟨t, rfl⟩ (fun _ => .int _) hd
theorem o_globI {x : Str} {i : Int} (hg : Gl X x) (h : ∃ t, X.mg x = some (.int i t)) (hd : (x == ("__debug__" : Str)) = false := by decide) : PE X (.Name x pos) (tO K mg W (oC (.int i))) := by
  obtain ⟨t, hm⟩ := h
  exact o_glob (v := .int i) hg hm ⟨t, rfl⟩ (fun _ => .int _) hd
theorem e_globS {x y : Str} (hy : PyData.canLay0 (.str y) = true) (hg : Gl X x) (h : ∃ t, X.mg x = some (.str y t)) (hd : (x == ("__debug__" : Str)) = false := by decide) : PE X (.Name x pos) (tE K mg W (gC (.str y))) := by
  obtain ⟨t, hm⟩ := h
  exact e_glob (v := .str y) hg hm ⟨t, rfl⟩ (fun _ => .str hy) hd
theorem o_globS {x y : Str} (hy : PyData.canLay0 (.str y) = true) (hg : Gl X x) (h : ∃ t, X.mg x = some (.str y t)) (hd : (x == ("__debug__" : Str)) = false := by decide) : PE X (.Name x pos) (tO K mg W (oC (.str y))) := by
  obtain ⟨t, hm⟩ := h
  exact o_glob (v := .str y) hg hm ⟨t, rfl⟩ (fun _ => .str hy) hd
end
section
variable {ρ : Env}
@[simp] theorem txt1_str {y} : txt1 (some (.str y)) ρ = if y.length ≤ sizeLine then .ok y ρ else .bad := rfl
@[simp] theorem txt1_int {i} : txt1 (some (.int i)) ρ = if i.natAbs.log2 < 1920 then .ok (toString i) ρ else .bad := rfl
@[simp] theorem txk_at {o} : txk o ρ = txt1 (deref ρ o) ρ := rfl
@[simp] theorem gTx_at {g} : gTx g ρ = (g ρ).bind txk := rfl
@[simp] theorem gTc_at {x} : gTc x ρ = .ok x ρ := rfl
@[simp] theorem gJ_nil {acc} : gJ [] acc ρ = .ok acc ρ := rfl
def gjk (gs : List (G Str)) (acc y : Str) : G Str := fun ρ => if (acc ++ y).length ≤ sizeLine then gJ gs (acc ++ y) ρ else .bad
@[simp] theorem gjk_at {gs acc y} : gjk gs acc y ρ = if (acc ++ y).length ≤ sizeLine then gJ gs (acc ++ y) ρ else .bad := rfl
@[simp] theorem gJ_cons {g gs acc} : gJ (g :: gs) acc ρ = (g ρ).bind (gjk gs acc) := rfl
@[simp] theorem lyk_at {y} : lyk y ρ = if layS y = true then .ok (.val (.str y)) ρ else .bad := rfl
@[simp] theorem gJs_at {gs} : gJs gs ρ = (gJ gs Str.empty ρ).bind lyk := rfl
@[simp] theorem orm_some {g d} : orm g (some d) ρ = match truD d with | some b => if b = true then .ok (.val d) ρ else g ρ | none => .bad := rfl
@[simp] theorem ork_at {g o} : ork g o ρ = orm g (opD ρ o) ρ := rfl
@[simp] theorem gOrX_at {ga g} : gOrX ga g ρ = (ga ρ).bind (ork g) := rfl
def mtk (f : PyData → List PyData → Option C) (o : Op) (os : List Op) : G C := fun ρ => mts f (deref ρ o) (derefs ρ os) ρ
@[simp] theorem mtk_at {f o os} : mtk f o os ρ = mts f (deref ρ o) (derefs ρ os) ρ := rfl
@[simp] theorem mts_some {f d ds} : mts f (some d) (some ds) ρ = fin (f d ds) ρ := rfl
@[simp] theorem isS_str {x} : isS (some (.str x)) ρ = .ok () ρ := rfl
def isk (o : Op) : G Unit := fun ρ => isS (deref ρ o) ρ
@[simp] theorem isk_at {o} : isk o ρ = isS (deref ρ o) ρ := rfl
@[simp] theorem gMtS_at {f go g} : gMtS f go g ρ = (go ρ).bind fun o => G.bind (isk o) fun _ => G.bind g (mtk f o) := rfl
end
end Nd

/-! Nd19: < of data. -/
namespace Nd
open PySem L2
section
variable [TF] {X : Cx} {mg : Str → Option Value}
/-- < of alike data -/
def ltD (x y : PyData) : Option Bool := if decide (PySem.W.alike x y = true ∧ isNone x = false ∧ x.depth ≤ 64 ∧ y.depth ≤ 64) = true then some (PySem.W.dataLt x y) else none
theorem o_ltD (hu : X.A.units + 65 < cLine) : OpR X (compareOp .Lt) (r2 X.K mg (cmpC ltD)) := by
  intro pins s σ H x y v u Q I rx ry h
  obtain ⟨F, dx, dy, c, sub, hx, hy, e0, post⟩ := h
  obtain ⟨b, e, rfl⟩ := cmpC_some e0
  clear e0
  unfold ltD at e
  split at e
  · rename_i hl
    cases e
    obtain ⟨h0, hn, h1, h2⟩ := of_decide_eq_true hl
    obtain ⟨as, r1⟩ := Dp.reads I dx x v (hx.dp sub) rx
    obtain ⟨bs, r2⟩ := Dp.reads I dy y u (hy.dp sub) ry
    exact PySem.W.lt_data r1 r2 h0 (fun z => by rw [z] at hn; cases hn) (by omega) ⟨.bl _, H, I, rfl, post.val sub (.bl _)⟩
  · cases e
end
theorem ltD_int {i j : Int} : ltD (.int i) (.int j) = some (decide (i < j)) := by
  simp [ltD, PySem.W.alike, isNone, PyData.depth, PySem.W.dataLt_int]
theorem ltD_str {x y : Str} : ltD (.str x) (.str y) = some (strLt x y) := by
  simp [ltD, PySem.W.alike, isNone, PyData.depth, PySem.W.dataLt_str, strLt]
end Nd

/-! Nd20: sorted, min, max of data. -/
namespace Nd
open PySem PySem.Spec PyProof.Rows L2
section
variable {prog : Program} {w : World} {A : Around} {E : Value → Shared → Prop} {s : Shared}
/-- what is gathered from x, at s -/
def Gathers (prog : Program) (w : World) (A : Around) (x : Value) (s : Shared) (vs : List Value) : Prop :=
  ∀ (Q : List Value → Shared → Prop) (E : Value → Shared → Prop), (∀ (h1 : Heap) (tk : Nat), (∀ b o, s.heap.get? b = some o → h1.get? b = some o) → s.heap.objs.size ≤ h1.objs.size → Q vs { s with heap := h1, toks := tk }) → wpAny (model prog w) A (collect x) Q E s
theorem gathers_seq {l : Addr} {T : String} {vs : List Value} {o : Obj} {n : Nat} (ho : s.heap.get? l = some o) (hc : o.cls = .type T) (hd : o.data = .seq vs.toArray n) (hT : T = "list" ∨ T = "tuple") (hz : vs.length ≤ sizeLine) : Gathers prog w A (.ref l) s vs := by
  intro Q E h
  have hp : ∀ b u, s.heap.get? b = some u → (s.heap.push (seqObj "list" #[] 0)).get? b = some u := fun b u e => Heap.get?_push_of_some _ e
  have hw : (s.heap.push (seqObj "list" #[] 0)).get? s.heap.objs.size = some (seqObj "list" #[] 0) := Heap.get?_push_size _ rfl
  unfold collect
  refine wpAny_bind (wpAny_runValue (codeAny_builtin entry_proto_collect' ?_))
  show wpAny _ _ (newList [] >>= fun z => again (.builtin "list.__iadd__" ⟨[z, .ref l], []⟩)) _ _ s
  refine wpAny_bind (wpAny_newList (wpAny_pure ⟨Code.quiet_builtin _ (by decide +kernel), codeAny_builtin entry_list_iadd' ?_⟩))
  show wpAny _ _ (Builtin.List.listExtendWith (.ref s.heap.objs.size) (.ref l) (.ref s.heap.objs.size)) _ _ { s with heap := s.heap.push (seqObj "list" #[] 0) }
  unfold Builtin.List.listExtendWith
  refine wpAny_bind (wpAny_typeOf (T := T) ⟨o, hp _ _ ho, hc⟩ ?_)
  have ht : ((Value.type T == Value.type "list") || (Value.type T == Value.type "tuple")) = true := by
    rcases hT with e | e <;> (subst e; rfl)
  rw [if_pos (by rcases hT with e | e <;> (subst e; simp))]
  refine wpAny_bind (listItems_at (hp _ _ ho) hd (wpAny_bind (listItems_at (xs := #[]) (n := 0) hw rfl ?_)))
  rw [if_neg (by simp)]
  refine wpAny_bind (listUpdate_at (xs := #[]) (n := 0) hw rfl (wpAny_pure ?_) (Nat.zero_le _) (by show (#[] ++ vs.toArray).size ≤ sizeLine + 1; simp; omega))
  show wpAny (model prog w) A (load s.heap.objs.size >>= fun u => match u.data with
      | .seq xs _ => pure xs.toList
      | _ => unsupported "internal:collect") Q E { s with heap := (s.heap.push (seqObj "list" #[] 0)).update s.heap.objs.size (Obj.mapSeq (· ++ vs.toArray)) }
  refine wpAny_bind (wpAny_load (get?_update_seq hw _) ?_)
  have ev : ((#[] : Array Value) ++ vs.toArray).toList = vs := by simp
  show wpAny _ _ (pure ((#[] : Array Value) ++ vs.toArray).toList) Q E _
  rw [ev]
  refine wpAny_pure (h _ _ (fun b u e => ?_) ?_)
  · rw [Heap.get?_update_ne _ _ _ _ (Nat.ne_of_lt (Heap.lt_size e))]
    exact hp b u e
  · rw [Heap.size_update, size_push']
    exact Nat.le_succ _
/-- sorted of what may be gathered, by any keywords -/
theorem sorted_it {x : Value} {vs : List Value} {kw : List (Str × Value)} {Q : Value → Shared → Prop} (g : Gathers prog w A.in1 x s vs) (hz : vs.length ≤ sizeLine) (ha1 : argsOk "sorted" ⟨[x], kw⟩) (ha2 : ∀ x, argsOk "list.sort" ⟨[x], kw⟩)
    (body : ∀ (p : Addr) (h1 : Heap) (tk : Nat) (E' : Value → Shared → Prop), s.heap.objs.size ≤ p → (∀ b o, s.heap.get? b = some o → h1.get? b = some o) → h1.get? p = some (seqObj "list" vs.toArray 0) →
      wpAny (model prog w) A.in1.in1 (Builtin.«list.sort» ⟨[.ref p], kw⟩) (fun f s' => f = .done (.ret .none) ∧ Q (.ref p) s') E' { s with heap := h1, toks := tk }) :
    wpAny (model prog w) A (call (.builtin "sorted") [x] kw) Q E s := by
  refine call_function_entry_kw kind_sorted plain_sorted entry_sorted ha1 ?_
  unfold Builtin.«sorted»
  refine wpAny_bind (m := checkCount "sorted" 1 1 _) (wpAny_pure (wpAny_bind (g _ _ fun h1 tk k1 z1 => wpAny_bind (wpAny_newList ?_ hz))))
  have at_ : (h1.push (seqObj "list" vs.toArray 0)).get? h1.objs.size = some (seqObj "list" vs.toArray 0) := Heap.get?_push_size _ rfl
  refine wpAny_bind (wpAny_holding (wpAny_call_entry_kw slot_list_sort ⟨_, at_, rfl⟩ entry_list_sort ?b1 (ha2 _)))
  refine wpAny_mono (body h1.objs.size _ tk _ z1 (fun b o e => Heap.get?_push_of_some _ (k1 b o e)) at_) (fun f s' hf => ?_) fun _ _ e => e
  obtain ⟨e, hq⟩ := hf
  exact ⟨_, e, wpAny_pure ⟨_, rfl, hq⟩⟩
end
/-! ### data -/
def alikeB (ds : List PyData) : Bool := ds.all fun d => ds.all fun e => PySem.W.alike d e
def tupB1 : PyData → Bool
  | .tuple (_ :: _) => true
  | _ => false
def othB : PyData → Bool
  | .tuple _ => false
  | .none => false
  | _ => true
def sortB (ds : List PyData) : Bool := ds.all tupB1 || ds.all othB
theorem alikeB_ok {ds : List PyData} (h : alikeB ds = true) : PySem.W.AllAlike ds := fun d hd e he => List.all_eq_true.mp (List.all_eq_true.mp h d hd) e he
theorem sortB_ok {ds : List PyData} (h : sortB ds = true) : PySem.W.Sortable ds := by
  unfold sortB at h
  rcases Bool.or_eq_true_iff.mp h with h | h
  · left
    intro d hd
    have := List.all_eq_true.mp h d hd
    unfold tupB1 at this
    split at this
    · exact ⟨_, _, rfl⟩
    · cases this
  · right
    intro d hd
    have := List.all_eq_true.mp h d hd
    refine ⟨fun e => ?_, fun xs e => ?_⟩
    · rw [e] at this; cases this
    · rw [e] at this; cases this
def sortOk (ds : List PyData) : Bool := alikeB ds && (sortB ds && decide (∀ d ∈ ds, d.depth ≤ 32))
def sortL (ds : List PyData) : List PyData := ds.mergeSort (PySem.W.dataLe false fun d => d)
def seqD : PyData → Option (List PyData)
  | .list ds => some ds
  | .tuple ds => some ds
  | _ => none
def sortDD : List PyData → Option C
  | [d] => (seqD d).bind fun ds => if sortOk ds = true then some (mkL (sortL ds)) else none
  | _ => none
section
variable [TF] {X : Cx} {K : Frag} {mg : Str → Option Value} {W : WX} {F H : Hp} {v : V} {Q : VK}
/-- a value that holds data -/
def Hd (K : Frag) (F : Hp) (u : Value) (d : PyData) : Prop := ∃ v, RelV v u ∧ Dq K F v d
theorem hd_all : ∀ {vs : List V} {its : List Value} {ds : List PyData}, Vals vs its → DqAll K F vs ds → PySem.W.EachIs (Hd K F) its ds
  | [], _, [], r, _ => by cases r; exact .nil
  | [], _, d :: ds, _, h => by have := h.length; simp at this
  | v :: vs, _, [], _, h => by have := h.length; simp at this
  | v :: vs, its, d :: ds, r, h => by
    cases r with
    | cons r1 r2 =>
      have h1 : Dq K F v d ∧ DqAll K F vs ds := by
        obtain ⟨a, b⟩ := h
        cases a with
        | cons a1 a2 => exact ⟨⟨a1, (lay_cons.mp b).1⟩, a2, (lay_cons.mp b).2⟩
      exact .cons ⟨v, r1, h1.1⟩ (hd_all r2 h1.2)
theorem all_hd : ∀ {its : List Value} {ds : List PyData}, PySem.W.EachIs (Hd K F) its ds → ∃ vs, Vals vs its ∧ DqAll K F vs ds
  | [], [], _ => ⟨[], .nil, .nil⟩
  | u :: us, d :: ds, h => by
    cases h with
    | cons h1 h2 =>
      obtain ⟨v, r, q⟩ := h1
      obtain ⟨vs, r2, q2⟩ := all_hd h2
      exact ⟨v :: vs, .cons r r2, .cons q q2⟩
theorem hd_reads {pins : List (Addr × Obj)} {σ : L2.St} {s : Shared} (I : Inv X pins σ H s) (sub : Same F H) {u : Value} {d : PyData} (h : Hd X.K F u d) : ∃ as, Reads s.heap u d as := by
  obtain ⟨v, r, q⟩ := h
  exact Dp.reads I d v u (q.mono sub).1 r
/-- the object of a list or tuple -/
theorem seq_obj {pins : List (Addr × Obj)} {σ : L2.St} {s : Shared} (I : Inv X pins σ H s) (sub : Same F H) {v : V} {u : Value} {d : PyData} {ds : List PyData} (h : Sh X.K F H v d) (e : seqD d = some ds) (r : RelV v u) :
    ∃ l T its n o, v = .ref l ∧ u = .ref l ∧ s.heap.get? l = some o ∧ o.cls = .type T ∧ o.data = .seq (List.toArray its) n ∧ (T = "list" ∨ T = "tuple") ∧ its.length ≤ sizeLine ∧ PySem.W.EachIs (Hd X.K F) its ds := by
  cases d with
  | list xs =>
    cases e
    obtain ⟨a, vs, rfl, q1, q2⟩ := h.list sub
    obtain ⟨its, rv, hl, hz⟩ := I.list q1
    obtain ⟨o, ho, hc, n, hd⟩ := hl.isList
    exact ⟨a, "list", its, n, o, rfl, r, ho, hc, hd, .inl rfl, by rw [← rv.length]; exact hz, hd_all rv q2⟩
  | tuple xs =>
    cases e
    obtain ⟨a, vs, rfl, _, q1, q2⟩ := h.tup sub
    obtain ⟨its, rv, hl, hz⟩ := I.tuple q1
    obtain ⟨o, ho, hc, n, hd⟩ := hl
    exact ⟨a, "tuple", its, n, o, rfl, r, ho, hc, hd, .inr rfl, by rw [← rv.length]; exact hz, hd_all rv q2⟩
  | none => cases e
  | bool => cases e
  | int => cases e
  | str => cases e
  | dict => cases e
theorem sortL_perm (ds : List PyData) : (sortL ds).Perm ds := List.mergeSort_perm ds _
theorem c_sortDD (hu : X.A.units + 65 < cLine) : CallR X (.builtin "sorted") (rN X.K mg sortDD) := by
  intro pins s σ H xs us Q I r h
  obtain ⟨F, ds, c, sub, sh, e, post⟩ := h
  unfold sortDD at e
  split at e
  · rename_i d
    cases q : seqD d with
    | none => rw [q] at e; cases e
    | some ds =>
      rw [q] at e
      simp only [Option.bind_some] at e
      split at e
      · rename_i hs
        cases e
        unfold sortOk at hs
        obtain ⟨h1, h2⟩ := Bool.and_eq_true_iff.mp hs
        obtain ⟨h2, h3⟩ := Bool.and_eq_true_iff.mp h2
        have h3 := of_decide_eq_true h3
        obtain ⟨v, rfl, s1⟩ := sh.one
        cases r with
        | cons r1 r2 =>
          cases r2
          obtain ⟨l, T, its, n, o, rfl, rfl, ho, hc, hd, hT, hz, eh⟩ := seq_obj I sub s1 q r1
          have gth : Gathers X.prog X.w X.A.in1 (.ref l) s its := gathers_seq ho hc hd hT hz
          refine sorted_it gth hz (args_sorted1 _) (fun _ => args_list_sort _) fun p h1' tk E' hp k1 at_ => ?_
          have er : ∀ h2' : Heap, (∀ b o, s.heap.get? b = some o → h2'.get? b = some o) → PySem.W.EachIs (fun v d => ∃ as, Reads h2' v d as) its ds := fun h2' kk => eh.mono fun v d hv => by
            obtain ⟨as, ra⟩ := hd_reads I sub hv
            exact ⟨as, PyProof.Rows.Reads.keeps kk ra⟩
          have kpre : ∀ b o, s.heap.get? b = some o → (PySem.W.sortingHeap h1' p its).get? b = some o := fun b o eb => by
            have hb : b ≠ p := Nat.ne_of_lt (Nat.lt_of_lt_of_le (Heap.lt_size eb) hp)
            unfold PySem.W.sortingHeap
            refine Heap.get?_push_of_some _ (Heap.get?_push_of_some _ ?_)
            exact (Heap.get?_update_ne _ _ _ _ hb).trans (k1 b o eb)
          have S : PySem.W.SortsAt X.prog X.w X.A.in1.in1 { s with heap := PySem.W.sortingHeap h1' p its, toks := tk } (PySem.W.dataKind (PySem.W.sortingHeap h1' p its) ds) its :=
            PySem.W.SortsAt.data (s := { s with heap := PySem.W.sortingHeap h1' p its, toks := tk }) (er _ kpre) (alikeB_ok h1) (sortB_ok h2) (fun d hd => by
              have := h3 d hd
              show X.A.units + 2 + d.depth < cLine
              omega)
          refine PySem.W.list_sort_vals (s := { s with heap := h1', toks := tk }) at_ S hz ⟨rfl, ?_⟩
          have outs := PySem.W.sortVals_data (R := Hd X.K F) (enc := fun d : PyData => d) false eh (by simpa using er _ kpre) (by simpa using alikeB_ok h1)
          rw [show (ds.map fun d : PyData => d) = ds by simp] at outs
          obtain ⟨vs', rv, dq⟩ := all_hd outs
          obtain ⟨ep, he'⟩ := sortedHeap_at (vs := its) (out := (PySem.W.sortVals (PySem.W.dataKind (PySem.W.sortingHeap h1' p its) ds) false its its).toArray) at_
          have hlen : vs'.length ≤ sizeLine := by
            rw [rv.length, PySem.W.sortVals_length false rfl]
            exact hz
          have kend : ∀ b o, s.heap.get? b = some o → (sortedHeap h1' p its (PySem.W.sortVals (PySem.W.dataKind (PySem.W.sortingHeap h1' p its) ds) false its its).toArray).get? b = some o := fun b o eb => by
            have hb : b ≠ p := Nat.ne_of_lt (Nat.lt_of_lt_of_le (Heap.lt_size eb) hp)
            have e1 := k1 b o eb
            rw [sortedHeap_old hb (Heap.lt_size e1)]
            exact e1
          exact ⟨.ref p, upd H p (.lst vs'), I.laid (t' := tk) kend hp ⟨hlen, _, ep, rv, he'⟩, rfl, post.lst sub dq (I.hok.fresh hp)⟩
      · cases e
  · cases e
/-! ### min, max -/
def noneB (ds : List PyData) : Bool := ds.all fun d => !isNone d
def mmOk (ds : List PyData) : Bool := alikeB ds && (noneB ds && decide (PyData.depthAll ds ≤ 32))
def pairB : PyData → PyData → Bool
  | .int _, .int _ => true
  | .str _, .str _ => true
  | _, _ => false
def minDD : List PyData → Option C
  | [d] => match seqD d with
    | some (x :: xs) => if mmOk (x :: xs) = true then some (.val (PySem.W.minD x xs)) else none
    | _ => none
  | [x, y] => if pairB x y = true then some (.val (if PySem.W.dataLt y x then y else x)) else none
  | _ => none
def maxDD : List PyData → Option C
  | [d] => match seqD d with
    | some (x :: xs) => if mmOk (x :: xs) = true then some (.val (PySem.W.maxD x xs)) else none
    | _ => none
  | [x, y] => if pairB x y = true then some (.val (if PySem.W.dataLt x y then y else x)) else none
  | _ => none
theorem mmOk_ok {ds : List PyData} (h : mmOk ds = true) : PySem.W.AlikeAll ds ∧ PyData.depthAll ds ≤ 32 := by
  unfold mmOk at h
  obtain ⟨h1, h2⟩ := Bool.and_eq_true_iff.mp h
  obtain ⟨h2, h3⟩ := Bool.and_eq_true_iff.mp h2
  refine ⟨⟨alikeB_ok h1, fun d hd e => ?_⟩, of_decide_eq_true h3⟩
  have := List.all_eq_true.mp h2 d hd
  rw [e] at this
  cases this
theorem each_reads {h : Heap} : ∀ {its : List Value} {ds : List PyData}, PySem.W.EachIs (fun v d => ∃ as, Reads h v d as) its ds → ∃ as, ReadsAll h its ds as
  | _, _, .nil => ⟨[], .nil⟩
  | _, _, .cons ⟨as, h1⟩ t => by
    obtain ⟨bs, h2⟩ := each_reads t
    exact ⟨as ++ bs, .cons h1 h2⟩
theorem each_at {R : Value → PyData → Prop} : ∀ {its : List Value} {ds : List PyData} {i : Nat} {v : Value}, PySem.W.EachIs R its ds → its[i]? = some v → ∃ d, d ∈ ds ∧ R v d
  | _, _, 0, v, .cons h1 t, e => by
    simp at e
    subst e
    exact ⟨_, List.mem_cons_self, h1⟩
  | _, _, i + 1, v, .cons h1 t, e => by
    obtain ⟨d, h2, h3⟩ := each_at (i := i) t (by simpa using e)
    exact ⟨d, List.mem_cons_of_mem _ h2, h3⟩
  | _, _, i, v, .nil, e => by simp at e
theorem minD_mem (x : PyData) (xs : List PyData) : PySem.W.minD x xs ∈ x :: xs := by
  unfold PySem.W.minD
  induction xs generalizing x with
  | nil => simp
  | cons y r ih =>
    simp only [List.foldl_cons]
    split
    · rcases List.mem_cons.mp (ih y) with h | h
      · rw [h]; simp
      · simp [h]
    · rcases List.mem_cons.mp (ih x) with h | h
      · rw [h]; simp
      · simp [h]
theorem maxD_mem (x : PyData) (xs : List PyData) : PySem.W.maxD x xs ∈ x :: xs := by
  unfold PySem.W.maxD
  induction xs generalizing x with
  | nil => simp
  | cons y r ih =>
    simp only [List.foldl_cons]
    split
    · rcases List.mem_cons.mp (ih y) with h | h
      · rw [h]; simp
      · simp [h]
    · rcases List.mem_cons.mp (ih x) with h | h
      · rw [h]; simp
      · simp [h]
/-- the one that was chosen is data as it was told -/
theorem chosen {pins : List (Addr × Obj)} {σ : L2.St} {s : Shared} (I : Inv X pins σ H s) (sub : Same F H) {its : List Value} {ds : List PyData} (eh : PySem.W.EachIs (Hd X.K F) its ds) (al : PySem.W.AllAlike ds) {m : PyData} (hm : m ∈ ds) {i : Nat} {u : Value} (hi : its[i]? = some u) {h' : Heap} {bs : List Addr} (kk : ∀ b o, s.heap.get? b = some o → h'.get? b = some o) (rr : Reads h' u m bs) :
    ∃ v, RelV v u ∧ Dq X.K F v m := by
  obtain ⟨d, hd, v, r, q⟩ := each_at eh hi
  obtain ⟨as, ra⟩ := Dp.reads I d v u (q.mono sub).1 r
  have e : m = d := PySem.W.alike_unique _ _ _ _ _ (al _ hm _ hd) rr (PyProof.Rows.Reads.keeps kk ra)
  rw [e]
  exact ⟨v, r, q⟩
/-- values that tell their data in any heap -/
theorem pair_reads {x y : PyData} (hp : pairB x y = true) {v1 v2 : V} {u1 u2 : Value} (s1 : Sh K F H v1 x) (s2 : Sh K F H v2 y) (r1 : RelV v1 u1) (r2 : RelV v2 u2) : (∀ h : Heap, Reads h u1 x []) ∧ (∀ h : Heap, Reads h u2 y []) ∧ PySem.W.alike x y = true ∧ PySem.W.alike y x = true ∧ x ≠ .none ∧ y ≠ .none ∧ x.depth = 0 ∧ y.depth = 0 ∧ PySem.W.alike x x = true ∧ PySem.W.alike y y = true ∧ Dq K F v1 x ∧ Dq K F v2 y := by
  unfold pairB at hp
  split at hp
  · have e1 := s1.int
    have e2 := s2.int
    subst e1 e2
    obtain ⟨t1, rfl⟩ := r1
    obtain ⟨t2, rfl⟩ := r2
    exact ⟨fun _ => .int _ _, fun _ => .int _ _, by simp [PySem.W.alike], by simp [PySem.W.alike], by simp, by simp, by simp [PyData.depth], by simp [PyData.depth], by simp [PySem.W.alike], by simp [PySem.W.alike], .int _, .int _⟩
  · obtain ⟨e1, l1⟩ := s1.str
    obtain ⟨e2, l2⟩ := s2.str
    subst e1 e2
    obtain ⟨t1, rfl⟩ := r1
    obtain ⟨t2, rfl⟩ := r2
    exact ⟨fun _ => .str _ _, fun _ => .str _ _, by simp [PySem.W.alike], by simp [PySem.W.alike], by simp, by simp, by simp [PyData.depth], by simp [PyData.depth], by simp [PySem.W.alike], by simp [PySem.W.alike], .str l1, .str l2⟩
  · cases hp
theorem cmp_two {prog : Program} {w : World} {A : Around} {x y : PyData} {u1 u2 : Value} (hx : ∀ h : Heap, Reads h u1 x []) (hy : ∀ h : Heap, Reads h u2 y []) (a1 : PySem.W.alike x y = true) (a2 : PySem.W.alike y x = true) (a3 : PySem.W.alike x x = true) (a4 : PySem.W.alike y y = true) (n1 : x ≠ .none) (n2 : y ≠ .none) (d1 : x.depth = 0) (d2 : y.depth = 0) (hu : A.units < cLine) :
    CmpOf prog w A .Lt (fun i v => (#[u1, u2] : Array Value)[i]? = some v) (fun i j => PySem.W.dataLt ([x, y].getD i .none) ([x, y].getD j .none)) ∧
    CmpOf prog w A .Gt (fun i v => (#[u1, u2] : Array Value)[i]? = some v) (fun i j => PySem.W.dataLt ([x, y].getD j .none) ([x, y].getD i .none)) := by
  have at_ : ∀ (i : Nat) (v : Value), (#[u1, u2] : Array Value)[i]? = some v → (i = 0 ∧ v = u1) ∨ (i = 1 ∧ v = u2) := fun i v h => by
    match i with
    | 0 => simp at h; exact .inl ⟨rfl, h.symm⟩
    | 1 => simp at h; exact .inr ⟨rfl, h.symm⟩
    | i + 2 => simp at h
  refine ⟨fun i j vi vj s Q E hi hj hq => ?_, fun i j vi vj s Q E hi hj hq => ?_⟩
  · rcases at_ i vi hi with ⟨rfl, rfl⟩ | ⟨rfl, rfl⟩ <;> rcases at_ j vj hj with ⟨rfl, rfl⟩ | ⟨rfl, rfl⟩
    · exact PySem.W.rcLt_alike _ _ A s _ _ _ _ (hx _) (hx _) a3 n1 (by omega) prog w E Q hq
    · exact PySem.W.rcLt_alike _ _ A s _ _ _ _ (hx _) (hy _) a1 n1 (by omega) prog w E Q hq
    · exact PySem.W.rcLt_alike _ _ A s _ _ _ _ (hy _) (hx _) a2 n2 (by omega) prog w E Q hq
    · exact PySem.W.rcLt_alike _ _ A s _ _ _ _ (hy _) (hy _) a4 n2 (by omega) prog w E Q hq
  · rcases at_ i vi hi with ⟨rfl, rfl⟩ | ⟨rfl, rfl⟩ <;> rcases at_ j vj hj with ⟨rfl, rfl⟩ | ⟨rfl, rfl⟩
    · exact PySem.W.rcGt_alike _ _ A s _ _ _ _ (hx _) (hx _) a3 n1 (by omega) prog w E Q hq
    · exact PySem.W.rcGt_alike _ _ A s _ _ _ _ (hx _) (hy _) a1 n1 (by omega) prog w E Q hq
    · exact PySem.W.rcGt_alike _ _ A s _ _ _ _ (hy _) (hx _) a2 n2 (by omega) prog w E Q hq
    · exact PySem.W.rcGt_alike _ _ A s _ _ _ _ (hy _) (hy _) a4 n2 (by omega) prog w E Q hq
theorem two_walk {prog : Program} {w : World} {A : Around} {s : Shared} {E : Value → Shared → Prop} {Q : Value → Shared → Prop} {op : CmpOp} {u1 u2 : Value} {bt : Nat → Nat → Bool} (hh : A.handled = none) (hc : CmpOf prog w A op (fun i v => (#[u1, u2] : Array Value)[i]? = some v) bt)
    (h : ∀ (u : Value) (h' : Heap) (tk : Nat), (#[u1, u2] : Array Value)[argBest bt 1]? = some u → (∀ b o, s.heap.get? b = some o → h'.get? b = some o) → Q u { s with heap := h', toks := tk }) :
    wpAny (model prog w) A (pyIter (.ref s.heap.objs.size)) (fun it s2 => ∃ I fp wr n P St bt, it = .ref I ∧ Walks prog w A I fp wr n P St ∧ St 0 s2.heap ∧ (∀ b ∈ fp, b < s2.heap.objs.size) ∧ 0 < n ∧ CmpOf prog w A op P bt ∧
      ∀ v h' tk, P (argBest bt (n - 1)) v → (∀ b o, b ∉ wr → s2.heap.get? b = some o → h'.get? b = some o) → Q v { s2 with heap := h', toks := tk }) E { s with heap := s.heap.push { cls := .type "tuple", data := .seq #[u1, u2] } } := by
  have at_ : (s.heap.push { cls := .type "tuple", data := .seq #[u1, u2] }).IsTuple s.heap.objs.size #[u1, u2] := ⟨_, Heap.get?_push_size _ rfl, rfl, 0, rfl⟩
  have sz : (s.heap.push { cls := .type "tuple", data := .seq #[u1, u2] }).objs.size = s.heap.objs.size + 1 := Heap.size_push ..
  refine wpAny_pyIter_tuple at_ ⟨_, [_, s.heap.objs.size], [_], _, _, _, bt, rfl, Walks.tuple hh _ s.heap.objs.size (by rw [sz]; exact Nat.ne_of_lt (Nat.lt_succ_self _)) #[u1, u2], ⟨⟨_, Heap.get?_push_size _ rfl, rfl, rfl⟩, at_.push _⟩, fun c hm => ?_, by simp, hc, fun v h' tk hP hk => ?_⟩
  · show c < ((s.heap.push _).push _).objs.size
    rw [Heap.size_push, sz]
    simp only [List.mem_cons, List.not_mem_nil, or_false] at hm
    rcases hm with e | e
    · rw [e, sz]; exact Nat.lt_succ_self _
    · rw [e]; exact Nat.lt_succ_of_lt (Nat.lt_succ_self _)
  · refine h v h' tk hP fun b o e => hk b o (fun hm => ?_) (Heap.get?_push_of_some _ (Heap.get?_push_of_some _ e))
    have l1 := Heap.lt_size e
    rw [List.mem_singleton.mp hm, sz] at l1
    exact Nat.lt_irrefl _ (Nat.lt_of_succ_lt l1)
theorem c_minDD (hc : X.calm = true) (hu : X.A.units + 65 < cLine) : CallR X (.builtin "min") (rN X.K mg minDD) := by
  intro pins s σ H xs us Q I r h
  obtain ⟨F, ds, c, sub, sh, e, post⟩ := h
  unfold minDD at e
  split at e
  · rename_i d
    split at e
    · rename_i x xs q
      split at e
      · rename_i hm
        cases e
        obtain ⟨al, dp⟩ := mmOk_ok hm
        obtain ⟨v, rfl, s1⟩ := sh.one
        cases r with
        | cons r1 r2 =>
          cases r2
          obtain ⟨l, T, its, n, o, rfl, rfl, ho, hcl, hd, hT, hz, eh⟩ := seq_obj I sub s1 q r1
          obtain ⟨as, ra⟩ := each_reads (eh.mono fun v d hv => hd_reads I sub hv)
          have fin : ∀ (i : Nat) (u : Value) (h' : Heap) (tk : Nat) (bs : List Addr), its.toArray[i]? = some u → Reads h' u (PySem.W.minD x xs) bs → (∀ b o, s.heap.get? b = some o → h'.get? b = some o) → EP X pins σ Q u { s with heap := h', toks := tk } := fun i u h' tk bs hi rr kk => by
            obtain ⟨v, rv, dq⟩ := chosen I sub eh al.1 (minD_mem x xs) (i := i) (by simpa using hi) kk rr
            exact ⟨v, H, I.kept kk, rv, post.val sub dq⟩
          rcases hT with e | e
          · subst e
            exact PySem.W.min_list_data (I.ok.hd hc) ⟨o, ho, hcl, n, hd⟩ (by simpa using ra) al (by omega) fin
          · subst e
            exact PySem.W.min_tuple_data (I.ok.hd hc) ⟨o, ho, hcl, n, hd⟩ (by simpa using ra) al (by omega) fin
      · cases e
    · cases e
  · rename_i x y
    split at e
    · rename_i hp
      cases e
      obtain ⟨v1, v2, rfl, s1, s2⟩ := sh.two
      cases r with
      | cons r1 r2 =>
        cases r2 with
        | cons r2 r3 =>
          cases r3
          obtain ⟨hx, hy, a1, a2, n1, n2, d1, d2, a3, a4, q1, q2⟩ := pair_reads hp s1 s2 r1 r2
          have hco := (cmp_two (prog := X.prog) (w := X.w) (A := X.A.in1) hx hy a1 a2 a3 a4 n1 n2 d1 d2 (by show X.A.units + 1 < cLine; omega)).1
          refine call_min_two (two_walk (I.ok.hd hc) hco fun u h' tk hi kk => ?_)
          have e1 : argBest (fun i j => PySem.W.dataLt ([x, y].getD i .none) ([x, y].getD j .none)) 1 = if PySem.W.dataLt y x = true then 1 else 0 := rfl
          rw [e1] at hi
          by_cases hl : PySem.W.dataLt y x = true
          · rw [if_pos hl] at hi post
            simp at hi
            subst hi
            exact ⟨_, H, I.kept kk, r2, post.val sub q2⟩
          · rw [if_neg hl] at hi post
            simp at hi
            subst hi
            exact ⟨_, H, I.kept kk, r1, post.val sub q1⟩
    · cases e
  · cases e
theorem c_maxDD (hc : X.calm = true) (hu : X.A.units + 65 < cLine) : CallR X (.builtin "max") (rN X.K mg maxDD) := by
  intro pins s σ H xs us Q I r h
  obtain ⟨F, ds, c, sub, sh, e, post⟩ := h
  unfold maxDD at e
  split at e
  · rename_i d
    split at e
    · rename_i x xs q
      split at e
      · rename_i hm
        cases e
        obtain ⟨al, dp⟩ := mmOk_ok hm
        obtain ⟨v, rfl, s1⟩ := sh.one
        cases r with
        | cons r1 r2 =>
          cases r2
          obtain ⟨l, T, its, n, o, rfl, rfl, ho, hcl, hd, hT, hz, eh⟩ := seq_obj I sub s1 q r1
          obtain ⟨as, ra⟩ := each_reads (eh.mono fun v d hv => hd_reads I sub hv)
          have fin : ∀ (i : Nat) (u : Value) (h' : Heap) (tk : Nat) (bs : List Addr), its.toArray[i]? = some u → Reads h' u (PySem.W.maxD x xs) bs → (∀ b o, s.heap.get? b = some o → h'.get? b = some o) → EP X pins σ Q u { s with heap := h', toks := tk } := fun i u h' tk bs hi rr kk => by
            obtain ⟨v, rv, dq⟩ := chosen I sub eh al.1 (maxD_mem x xs) (i := i) (by simpa using hi) kk rr
            exact ⟨v, H, I.kept kk, rv, post.val sub dq⟩
          rcases hT with e | e
          · subst e
            exact PySem.W.max_list_data (I.ok.hd hc) ⟨o, ho, hcl, n, hd⟩ (by simpa using ra) al (by omega) fin
          · subst e
            exact PySem.W.max_tuple_data (I.ok.hd hc) ⟨o, ho, hcl, n, hd⟩ (by simpa using ra) al (by omega) fin
      · cases e
    · cases e
  · rename_i x y
    split at e
    · rename_i hp
      cases e
      obtain ⟨v1, v2, rfl, s1, s2⟩ := sh.two
      cases r with
      | cons r1 r2 =>
        cases r2 with
        | cons r2 r3 =>
          cases r3
          obtain ⟨hx, hy, a1, a2, n1, n2, d1, d2, a3, a4, q1, q2⟩ := pair_reads hp s1 s2 r1 r2
          have hco := (cmp_two (prog := X.prog) (w := X.w) (A := X.A.in1) hx hy a1 a2 a3 a4 n1 n2 d1 d2 (by show X.A.units + 1 < cLine; omega)).2
          refine call_max_two (two_walk (I.ok.hd hc) hco fun u h' tk hi kk => ?_)
          have e1 : argBest (fun i j => PySem.W.dataLt ([x, y].getD j .none) ([x, y].getD i .none)) 1 = if PySem.W.dataLt x y = true then 1 else 0 := rfl
          rw [e1] at hi
          by_cases hl : PySem.W.dataLt x y = true
          · rw [if_pos hl] at hi post
            simp at hi
            subst hi
            exact ⟨_, H, I.kept kk, r2, post.val sub q2⟩
          · rw [if_neg hl] at hi post
            simp at hi
            subst hi
            exact ⟨_, H, I.kept kk, r1, post.val sub q1⟩
    · cases e
  · cases e
end
end Nd

/-! Nd21: lambdas. -/
namespace Nd
open PySem PySem.Spec PyProof.Rows L2
section
variable [TF] {X : Cx} {pins : List (Addr × Obj)} {σ : L2.St} {F H : Hp} {s : Shared} {ft : AS}
theorem upd2 {H : Hp} {P c b : Addr} {o u : HO} (h1 : b ≠ P) (h2 : b ≠ c) : upd (upd H P o) c u b = H b := (upd_ne h2).trans (upd_ne h1)
/-- a lambda is made -/
theorem lam_new {c P : Addr} {params : Arguments} {body : Expr} {scope : Scope} {pos : Pos} {E : Value → Shared → Prop} {Q : Value → Shared → Prop} (I : Inv X pins σ H s) (sub : Same F H) (tb : Tb X.K F H ft) (TB : LamX.TabB X.base X.mg c P) (hcode : X.env.code = .ref c)
    (hm : (P, X.env.qual ++ "<lambda>") ∈ tabs X.K) (hu : ∀ p ∈ tabs X.K, p.1 = P → p.2 = X.env.qual ++ "<lambda>") (hdef : defaultsOf params X.env = ([], [])) (hfree : ∀ y ∈ scope.names, y.2 = .free → ∃ c, X.env.cells.lookup y.1 = some c)
    (h : ∀ (f c' : Addr) (pm ctv : Value) (F1 H1 : Hp) (s' : Shared), Inv X pins σ H1 s' → Same F F1 → Same F1 H1 → Tb X.K F1 H1 ft → (∀ b o, ¬ ft b → H b = some o → H1 b = some o) → (∀ b, H b ≠ none → F1 b = F b) →
      s'.heap.get? f = some (PySem.W.kla_obj "<lambda>" (X.env.qual ++ "<lambda>") params body scope (cloFrom X.env.cells scope.names []) pm c' ctv) → H1 f = none → f ∉ frs X.stack → H1 c' = some (LamX.CodeO c' (X.env.qual ++ "<lambda>")) → Q (.ref f) s') :
    wpAny (model X.prog X.w) X.A (eval (.Lambda params body scope pos) X.env) Q E s := by
  obtain ⟨eF, ps, hP, ht, ha⟩ := tb.2 _ hm
  have bP : s.heap.BuiltinsAt X.mg P := TB.bm.keeps I.bk
  have hobj : s.heap.get? P = some { cls := .none, data := .fields ps } := I.hok P _ hP
  have fresh : ∀ g, s.heap.objs.size ≤ g → g ∉ frs X.stack := fun g hg z => by
    rcases List.mem_cons.mp (I.stkSub _ z) with e | e
    · have l := I.lt
      rw [← e] at l
      exact Nat.lt_irrefl _ (Nat.lt_of_lt_of_le l hg)
    · exact I.nofs hg e
  refine PySem.W.kla_eval hdef ?_
  cases hc : codeAmong pos ps.toList with
  | some cv =>
    obtain ⟨c', e, hco⟩ := ha pos cv hc
    subst e
    refine PySem.W.kla_makeFunctionHit (mg := X.mg) (c := c) (P := P) (ps := ps) (closure_ok hfree) I.ok.glob (I.mod.glob.keeps I.bk) hcode (TB.code.keeps I.bk) hobj ht hc bP fun ctv h' tk hx hsz => ?_
    exact h _ c' _ ctv F H _ (I.kept fun b o e => Heap.get?_push_of_some _ (hx b o e)) (Same.refl _) sub tb (fun _ _ _ e => e) (fun _ _ => rfl) (Heap.get?_push_size _ rfl) (I.hok.fresh hsz) (fresh _ hsz) (sub _ _ hco)
  | none =>
    refine PySem.W.kla_makeFunction (mg := X.mg) (c := c) (P := P) (ps := ps) (closure_ok hfree) I.ok.glob (I.mod.glob.keeps I.bk) hcode (TB.code.keeps I.bk) hobj ht hc TB.gP bP fun c' ctv h' tk hx hge hlt hrec htb => ?_
    obtain ⟨c2, oc, vs, t, e2, hoc, hd, hv⟩ := hrec
    injection e2 with e2
    subst e2
    have nC : H c' = none := I.hok.fresh hge
    have nFC : F c' = none := by
      cases q : F c' with
      | none => rfl
      | some o => rw [sub _ _ q] at nC; cases nC
    have nPc : P ≠ c' := ne_of_none hP nC
    have I1 := LamX.inv_table (t' := tk) (c := c') (more := #[rawInt pos.line, rawInt pos.col, .ref c']) (h' := h'.push (PySem.W.kla_obj "<lambda>" (X.env.qual ++ "<lambda>") params body scope (cloFrom X.env.cells scope.names []) ((X.mg "__name__").getD .none) c' ctv)) I hP
      (fun b o hb e => Heap.get?_push_of_some _ (hx b o hb e)) (Heap.get?_push_of_some _ htb) hge ⟨oc, vs, t, Heap.get?_push_of_some _ hoc, hd, hv⟩
    have ftP : ∀ b, ¬ ft b → b ≠ P := fun b n z => n (by rw [z]; exact (tb.1 P).mpr ⟨_, hm⟩)
    have eL : (ps ++ #[rawInt pos.line, rawInt pos.col, .ref c']).toList = ps.toList ++ [rawInt pos.line, rawInt pos.col, .ref c'] := by simp
    refine h h'.objs.size c' _ ctv (upd F c' (LamX.CodeO c' (X.env.qual ++ "<lambda>"))) _ _ I1 (fun b o e => ?_) (fun b o e => ?_) ⟨tb.1, fun p hp => ?_⟩ (fun b o n e => ?_) (fun b n => ?_) (Heap.get?_push_size _ rfl) ?_ (fresh _ (Nat.le_trans hge (Nat.le_of_lt hlt))) upd_same
    · rw [upd_ne (ne_of_none e nFC)]; exact e
    · by_cases hb : b = c'
      · subst hb
        rw [upd_same] at e ⊢
        exact e
      · rw [upd_ne hb] at e
        have hbP : b ≠ P := fun z => by rw [z] at e; rw [eF] at e; cases e
        rw [upd2 hbP hb]
        exact sub _ _ e
    · obtain ⟨g1, ps', g2, g3, g4⟩ := tb.2 p hp
      have npc : p.1 ≠ c' := ne_of_none g2 nC
      refine ⟨by rw [upd_ne npc]; exact g1, ?_⟩
      by_cases hb : p.1 = P
      · rw [hu p hp hb, hb]
        refine ⟨_, by rw [upd_ne nPc, upd_same], by rw [eL]; exact PySem.TriplesOk_snoc _ _ _ _ ht, fun p' cv hcv => ?_⟩
        rw [eL] at hcv
        rcases LamX.among_app _ ht hcv with z | z
        · obtain ⟨c0, e1, e2⟩ := ha p' cv z
          exact ⟨c0, e1, by rw [upd_ne (ne_of_none e2 nFC)]; exact e2⟩
        · exact ⟨c', z, upd_same⟩
      · refine ⟨ps', by rw [upd2 hb npc]; exact g2, g3, fun p' cv hcv => ?_⟩
        obtain ⟨c0, e1, e2⟩ := g4 p' cv hcv
        exact ⟨c0, e1, by rw [upd_ne (ne_of_none e2 nFC)]; exact e2⟩
    · rw [upd2 (ftP b n) (ne_of_none e nC)]; exact e
    · exact upd_ne (fun z => n (by rw [z]; exact nC))
    · have n2 : h'.objs.size ≠ P := Nat.ne_of_gt (Nat.lt_of_lt_of_le (Heap.lt_size hobj) (Nat.le_trans hge (Nat.le_of_lt hlt)))
      rw [upd2 n2 (Nat.ne_of_gt hlt)]
      exact I.hok.fresh (Nat.le_trans hge (Nat.le_of_lt hlt))
end
/-! ### data without lists -/
mutual
def flatB : PyData → Bool
  | .list _ => false
  | .dict _ => false
  | .tuple ds => flatBs ds
  | _ => true
def flatBs : List PyData → Bool
  | [] => true
  | d :: ds => flatB d && flatBs ds
end
mutual
theorem flat_reads {h : Heap} : ∀ {d : PyData} {v : Value} {as : List Addr}, flatB d = true → Reads h v d as → as = []
  | .none, _, _, _, r => by cases r; rfl
  | .bool _, _, _, _, r => by cases r; rfl
  | .int _, _, _, _, r => by cases r; rfl
  | .str _, _, _, _, r => by cases r; rfl
  | .tuple ds, _, _, hf, r => by
    cases r with
    | tuple h1 h2 h3 h4 => exact flats_reads (by simpa [flatB] using hf) h4
  | .list ds, _, _, hf, r => by simp [flatB] at hf
  | .dict ds, _, _, hf, r => by simp [flatB] at hf
theorem flats_reads {h : Heap} : ∀ {ds : List PyData} {vs : List Value} {as : List Addr}, flatBs ds = true → ReadsAll h vs ds as → as = []
  | [], _, _, _, r => by cases r; rfl
  | d :: ds, _, _, hf, r => by
    cases r with
    | cons r1 r2 =>
      simp only [flatBs, Bool.and_eq_true] at hf
      rw [flat_reads hf.1 r1, flats_reads hf.2 r2]
      rfl
end
/-! ### key expressions, exactly -/
def exH (h h' : Heap) : Prop := ∀ b o, h.get? b = some o → h'.get? b = some o
/-- e of the one local name a, whose data is d, is data f d; nothing that stood is changed -/
structure XEv (prog : Program) (w : World) (A : Around) (env : PySem.Env) (a : Str) (e : Expr) (f : PyData → Option PyData) : Prop where
  run : ∀ (v : Value) (d kd : PyData) (s : Shared) (m : Str → Option Value) (Q E : Value → Shared → Prop), f d = some kd → s.heap.Ns env.locals m → m a = some v → Reads s.heap v d [] →
    (∀ (u : Value) (h' : Heap) (tk : Nat), exH s.heap h' → Reads h' u kd [] → Q u { s with heap := h', toks := tk }) → wpAny (model prog w) A (eval e env) Q E s
structure XEvs (prog : Program) (w : World) (A : Around) (env : PySem.Env) (a : Str) (es : List Expr) (f : PyData → Option (List PyData)) : Prop where
  len : ∀ d ks, f d = some ks → ks.length = es.length
  run : ∀ (v : Value) (d : PyData) (ks : List PyData) (s : Shared) (m : Str → Option Value) (Q : List Value → Shared → Prop) (E : Value → Shared → Prop), f d = some ks → s.heap.Ns env.locals m → m a = some v → Reads s.heap v d [] →
    (∀ (us : List Value) (h' : Heap) (tk : Nat), exH s.heap h' → ReadsAll h' us ks [] → Q us { s with heap := h', toks := tk }) → ∀ pos : Pos, wpAny (model prog w) A (spliced (backTo pos (starEach es env))) Q E s
section
variable {prog : Program} {w : World} {A : Around} {env : PySem.Env} {a : Str}
theorem ns_keep {h h' : Heap} {L : Addr} {m : Str → Option Value} (x : h.Ns L m) (k : exH h h') : h'.Ns L m := by
  obtain ⟨o, es, ep, e, r⟩ := x
  exact ⟨o, es, ep, k _ _ e, r⟩
def kName : PyData → Option PyData := fun d => some d
theorem x_name {p : Pos} (hk0 : env.scope.kind = .function) (hk : env.kindOf a = some .local) (hd : (a == ("__debug__" : Str)) = false := by decide) : XEv prog w A env a (.Name a p) kName :=
  ⟨fun v d kd s m Q E e hn hm r h => by
    cases e
    exact wpAny_Name (wpAny_loadName_local hk0 hk hn hm (h v s.heap s.toks (fun _ _ e => e) r)) hd⟩
def kIx (i : Int) (f : PyData → Option PyData) : PyData → Option PyData := fun d => match f d with
  | some (.tuple xs) => atI xs i
  | _ => none
theorem readsAll_get {h : Heap} : ∀ {vs : List Value} {ds : List PyData} {as : List Addr} {i : Nat} {d : PyData}, ReadsAll h vs ds as → as = [] → ds[i]? = some d → ∃ u, vs[i]? = some u ∧ Reads h u d []
  | _, _, _, 0, d, .cons (as := as) (bs := bs) r1 r2, z, e => by
    obtain ⟨rfl, rfl⟩ := List.append_eq_nil_iff.mp z
    simp at e
    subst e
    exact ⟨_, rfl, r1⟩
  | _, _, _, i + 1, d, .cons (as := as) (bs := bs) r1 r2, z, e => by
    obtain ⟨rfl, rfl⟩ := List.append_eq_nil_iff.mp z
    obtain ⟨u, h1, h2⟩ := readsAll_get (i := i) r2 rfl (by simpa using e)
    exact ⟨u, by simpa using h1, h2⟩
  | _, _, _, i, d, .nil, _, e => by simp at e
theorem readsAll_length {h : Heap} : ∀ {vs : List Value} {ds : List PyData} {as : List Addr}, ReadsAll h vs ds as → vs.length = ds.length
  | _, _, _, .cons r1 r2 => by simp [readsAll_length r2]
  | _, _, _, .nil => rfl
theorem x_item {i : Nat} (hi63 : i < 1000) {f : PyData → Option PyData} {e : Expr} {j : Nat} {p pos : Pos} (he : XEv prog w A env a e f) (hs : PlainIx (.Constant (.int i) j p)) : XEv prog w A env a (.Subscript e (.Constant (.int i) j p) pos) (kIx i f) :=
  ⟨fun v d kd s m Q E ef hn hm r h => by
    unfold kIx at ef
    cases q : f d with
    | none => rw [q] at ef; cases ef
    | some x =>
      rw [q] at ef
      cases x with
      | tuple xs =>
        refine Subscript_ (he.run v d _ s m _ _ q hn hm r fun u h1 tk k1 r1 => ?_)
        refine wpAny_Constant_int ?_
        cases r1 with
        | @tuple b o vs n _ _ ho hc hd ra =>
          obtain ⟨j', h1', h2', h3', h4', h5'⟩ := atI_get ef
          obtain ⟨u, eu, ru⟩ := readsAll_get ra rfl h2'
          have hl := readsAll_length ra
          have h6 : ((i : Int)) < 2 ^ 63 := by omega
          have pl : IsTup h1 b vs := ⟨o, ho, hc, n, hd⟩
          exact subscriptTail_builtinR (x := u) pl.typeIs slot_tuple_getitem.lookup
            (getItem_tuple (j := j') (Q := fun r s' => r = u ∧ Q r s') pl (by omega) h6 (by rw [← Array.length_toList, hl]; exact h1') (by simpa using eu) ⟨rfl, h u _ _ k1 ru⟩) (hs _ _)
      | _ => cases ef⟩
def kNeg (f : PyData → Option PyData) : PyData → Option PyData := fun d => match f d with
  | some (.int i) => some (.int (-i))
  | _ => none
theorem x_neg {f : PyData → Option PyData} {e : Expr} {pos : Pos} (he : XEv prog w A env a e f) : XEv prog w A env a (.UnaryOp .USub e pos) (kNeg f) :=
  ⟨fun v d kd s m Q E ef hn hm r h => by
    unfold kNeg at ef
    cases q : f d with
    | none => rw [q] at ef; cases ef
    | some x =>
      rw [q] at ef
      cases x with
      | int i =>
        cases ef
        refine UnaryOp_ (he.run v d _ s m _ _ q hn hm r fun u h1 tk k1 r1 => ?_)
        cases r1
        exact neg_int (h _ _ _ k1 (.int _ _))
      | _ => cases ef⟩
def kNil : PyData → Option (List PyData) := fun _ => some []
def kCons (f : PyData → Option PyData) (g : PyData → Option (List PyData)) : PyData → Option (List PyData) := fun d => match f d, g d with
  | some x, some xs => some (x :: xs)
  | _, _ => none
def kTup (g : PyData → Option (List PyData)) : PyData → Option PyData := fun d => (g d).map .tuple
theorem kCons_len {f : PyData → Option PyData} {g : PyData → Option (List PyData)} {n : Nat} (h : ∀ d ks, g d = some ks → ks.length = n) : ∀ d ks, kCons f g d = some ks → ks.length = n + 1 := fun d ks e => by
  unfold kCons at e
  split at e
  · rename_i q
    cases e
    simp [h d _ q]
  · cases e
theorem xs_nil : XEvs prog w A env a [] kNil := ⟨fun d ks h => (by cases h; rfl), fun v d ks s m Q E ef hn hm r h pos => by
  cases ef
  exact Calls.spliced_nil (h [] s.heap s.toks (fun _ _ e => e) .nil)⟩
theorem xs_cons {e : Expr} {es : List Expr} {f : PyData → Option PyData} {g : PyData → Option (List PyData)} (he : XEv prog w A env a e f) (hr : XEvs prog w A env a es g) (hs : starEach (e :: es) env = (false, eval e env) :: starEach es env := by rfl) : XEvs prog w A env a (e :: es) (kCons f g) :=
  ⟨kCons_len hr.len, fun v d ks s m Q E ef hn hm r h pos => by
    unfold kCons at ef
    cases q : f d with
    | none => rw [q] at ef; cases ef
    | some x =>
      cases q2 : g d with
      | none => rw [q, q2] at ef; cases ef
      | some xs =>
        rw [q, q2] at ef
        cases ef
        rw [hs]
        show wpAny _ _ (spliced ((false, eval e env) :: backTo pos (starEach es env))) _ _ s
        refine Calls.spliced_cons (he.run v d _ s m _ _ q hn hm r fun u h1 tk k1 r1 => ?_)
        refine hr.run v d xs { s with heap := h1, toks := tk } m _ _ q2 (ns_keep hn k1) hm (PyProof.Rows.Reads.keeps k1 r) (fun us h2 tk2 k2 r2 => ?_) pos
        exact h (u :: us) h2 tk2 (fun b o e => k2 b o (k1 b o e)) (.cons (PyProof.Rows.Reads.keeps k2 r1) r2)⟩
theorem x_tup {es : List Expr} {g : PyData → Option (List PyData)} {x1} {pos : Pos} (he : XEvs prog w A env a es g) (hl : es.length ≤ 1000 := by decide) : XEv prog w A env a (.Tuple es x1 pos) (kTup g) :=
  ⟨fun v d kd s m Q E ef hn hm r h => by
    unfold kTup at ef
    cases q : g d with
    | none => rw [q] at ef; cases ef
    | some ks =>
      rw [q] at ef
      cases ef
      refine wpAny_Tuple_spliced (he.run v d ks s m _ _ q hn hm r (fun us h1 tk k1 r1 => ⟨?_, ?_⟩) pos)
      · rw [readsAll_length r1]
        rw [he.len d ks q]
        exact Nat.le_trans hl (by decide)
      · have k2 : exH h1 (h1.push { cls := .type "tuple", data := .seq us.toArray }) := fun b o e => Heap.get?_push_of_some _ e
        exact h _ _ tk (fun b o e => k2 b o (k1 b o e)) (.tuple (Heap.get?_push_size _ rfl) rfl rfl (by simpa using PyProof.Rows.ReadsAll.keeps k2 r1))⟩
/-- a lambda of one parameter -/
structure Lam1 (params : Arguments) (body : Expr) (scope : Scope) (a : Str) : Prop where
  kind : scope.kind = .function
  co : scope.isCoroutine = false
  gen : scope.isGenerator = false
  nocell : ∀ y ∈ scope.names, y.2 ≠ .cell
  loc : scope.names.lookup a = some .local
  bind : ∀ (q : Str) (cl : List (Str × Addr)) (pm cv ctv u : Value), bindArgs (PySem.W.kla_fn "<lambda>" q params body scope cl pm cv ctv) ⟨[u], []⟩ = pure [(a, u)]
abbrev lenv (q : Str) (scope : Scope) (L f c' : Addr) (cl : List (Str × Addr)) : PySem.Env := PySem.W.envX q scope L f (.ref c') cl
/-- the key of an item -/
theorem key_turn {f c' : Addr} {q : Str} {params : Arguments} {body : Expr} {scope : Scope} {cl : List (Str × Addr)} {pm ctv v : Value} {d kd : PyData} {g : PyData → Option PyData} {s : Shared} (L1 : Lam1 params body scope a) (hr : A.depth < recursionLimit) (lim : s.heap.NoLimit)
    (of : s.heap.get? f = some (PySem.W.kla_obj "<lambda>" q params body scope cl pm c' ctv)) (oc : ∃ (oc : Obj) (vs : Array Value) (t : Tok), s.heap.get? c' = some oc ∧ oc.data = .fields vs ∧ vs[1]? = some (.str q t))
    (hx : ∀ (A : Around) (L : Addr), XEv prog w A (lenv q scope L f c' cl) a body g) (hg : g d = some kd) (r : Reads s.heap v d []) :
    wpAny (model prog w) A (call (.ref f) [v]) (PySem.W.KeyPure kd s) (fun _ _ => False) s := by
  obtain ⟨oc, vs, t, hoc, hd, hv⟩ := oc
  refine wpAny_call ?_
  refine PySem.W.kla_callFunE hr of rfl L1.co L1.gen rfl ⟨c', oc, vs, t, rfl, hoc, hd, hv⟩ ?_
  rw [L1.bind]
  refine wpAny_pure (wpAny_newFunctionEnv L1.nocell (fun y hy => ?_) (fun h1 hns hsb => ⟨lim.fresh _ hsb, ?_⟩) L1.kind)
  · rw [List.mem_singleton.mp hy]
    exact L1.loc
  · have kp : ∀ b o, s.heap.get? b = some o → h1.get? b = some o := fun b o e => hsb.extBut b o (Nat.ne_of_lt (Heap.lt_size e)) (Heap.get?_push_of_some _ e)
    show codeAny _ _ (.expr body (lenv q scope s.heap.objs.size f c' cl)) _ _
    refine PySem.W.kla_codeExpr ((hx _ _).run v d kd { s with heap := h1, toks := s.toks + 1 } _ _ _ hg hns (by simp) (PyProof.Rows.Reads.keeps kp r) fun u h2 tk k2 r2 => ?_)
    exact ⟨h2, tk, rfl, fun b o e => k2 b o (kp b o e), r2⟩
end
def kOf (f : PyData → Option PyData) (d : PyData) : PyData := (f d).getD .none
def sortKD (f : PyData → Option PyData) (d : PyData) : Option C := (seqD d).bind fun ds => if ((ds.all fun d => (f d).isSome) && (sortOk (ds.map (kOf f)) && ds.all fun d => flatB d)) = true then some (mkL (ds.mergeSort (PySem.W.dataLe false (kOf f)))) else none
def gSortK (f : PyData → Option PyData) (g : G Op) : G C := G.bind g fun o ρ => match deref ρ o with
  | some d => match sortKD f d with
    | some c => .ok c ρ
    | none => .bad
  | none => .bad
section
variable [TF] {X : Cx} {mg : Str → Option Value} {W : WX}
/-- the names that a lambda takes over are the def's own -/
def frB (sc scope : Scope) : Bool := scope.names.all fun y => !decide (y.2 = .free) || (decide (sc.names.lookup y.1 = some .cell) || decide (sc.names.lookup y.1 = some .free))
theorem frB_ok {sc scope : Scope} (h : frB sc scope = true) : ∀ y ∈ scope.names, y.2 = .free → sc.names.lookup y.1 = some .cell ∨ sc.names.lookup y.1 = some .free := fun y hy e => by
  have := List.all_eq_true.mp h y hy
  simpa [e] using this
/-- the strongest of what is known behind an operand -/
theorem o_strong {g : G Op} {K : Frag} {mg : Str → Option Value} {F H : Hp} {ρ : Env} {fp : AS} {σ : L2.St} {α : Type} {k : Op → G α} (w : Wd K mg F H ρ fp σ) {ex : Xc → Env → Prop} (hx : ∀ x ρ', g ρ = .ex x ρ' → exPost K mg W F H fp σ x ρ') (hb : g ρ ≠ .bad) :
    tO K mg W g σ H fun v H' => ∃ o ρ' F' fp', g ρ = .ok o ρ' ∧ Wd K mg F' H' ρ' fp' σ ∧ Ro K F' σ o v ∧ Chg fp F H fp' F' H' := by
  refine ⟨ρ, fp, F, w, ?_⟩
  cases q : g ρ with
  | bad => exact hb q
  | ex x ρ' => exact hx x ρ' q
  | ok o ρ' => exact fun v F' H' fp' w' r c => ⟨o, ρ', F', fp', rfl, w', r, c⟩
theorem e_sortK {e : Expr} {params : Arguments} {body : Expr} {scope : Scope} {a : Str} {lpos kpos p pos : Pos} {g : G Op} {fk : PyData → Option PyData} {k : Nat} (LA : LamAt X.K X.mg X.base X.env.code (X.env.qual ++ "<lambda>")) (hr : Room k X.A) (hg : Gl X "sorted") (hm : X.mg "sorted" = none)
    (L1 : Lam1 params body scope a) (hfrB : frB X.env.scope scope = true) (hx : ∀ (f c' : Addr) (cl : List (Str × Addr)) (A : Around) (L : Addr), XEv X.prog X.w A (lenv (X.env.qual ++ "<lambda>") scope L f c' cl) a body fk)
    (ha : PE X e (tO X.K X.mg W g)) (hdef : defaultsOf params X.env = ([], []) := by rfl) (hs : starEach [e] X.env = (false, eval e X.env) :: starEach [] X.env := by rfl)
    (hkw : keywordEach [⟨some (Str.ofString "key"), .Lambda params body scope lpos, kpos⟩] X.env = [(some (Str.ofString "key"), eval (.Lambda params body scope lpos) X.env)] := by rfl) :
    PE X (.Call (.Name "sorted" p) [e] [⟨some (Str.ofString "key"), .Lambda params body scope lpos, kpos⟩] pos) (tE X.K X.mg W (gSortK fk g)) := by
  refine ⟨fun pins s σ H Q I h => ?_⟩
  obtain ⟨ρ, fp, F, w, h⟩ := h
  unfold gSortK G.bind at h
  obtain ⟨c, P, ecode, TB, hmem, huq⟩ := LA.ex
  have hfr := frB_ok hfrB
  refine wpAny_Call_Name_kw (ld_blt (u := .builtin "sorted") I hg hm (by decide +kernel) ?_ (by decide))
  have st : tO X.K X.mg W g σ H fun v H' => ∃ o ρ' F' fp', g ρ = .ok o ρ' ∧ Wd X.K X.mg F' H' ρ' fp' σ ∧ Ro X.K F' σ o v ∧ Chg fp F H fp' F' H' := by
    refine o_strong (α := C) (k := fun _ => G.bad) (ex := fun _ _ => True) w (fun x ρ' q => ?_) fun q => ?_
    · rw [q] at h; exact h
    · rw [q] at h; exact h
  refine PyProof.Rows.callWith_kw (thn ((pa_cons ha pa_nil hs).run pos pins s σ H (fun vs H' => ∃ v, vs = [v] ∧ ∃ o ρ' F' fp', g ρ = .ok o ρ' ∧ Wd X.K X.mg F' H' ρ' fp' σ ∧ Ro X.K F' σ o v ∧ Chg fp F H fp' F' H') I ?_) fun us s1 ⟨vs, H1, I1, r1, v, ev, o, ρ1, F1, fp1, q, w1, ro, ch1⟩ => ?_) (by rw [hs]; rfl) (by rw [hs]; rfl) (by rw [hkw]; rfl) (by rw [hkw]; rfl)
  · exact tO_mono (fun v H' hq => ⟨v, rfl, hq⟩) st
  · subst ev
    rw [q] at h
    simp only [R.bind_ok] at h
    rw [hkw]
    show wpAny _ _ (evalAll [do let v ← eval (.Lambda params body scope lpos) X.env; standAt pos; pure v]) _ _ s1
    cases qd : deref ρ1 o with
    | none => rw [qd] at h; exact h.elim
    | some d =>
      rw [qd] at h
      simp only at h
      cases qs : sortKD fk d with
      | none => rw [qs] at h; exact h.elim
      | some cc =>
        rw [qs] at h
        simp only at h
        have sh1 := deref_sh w1 ro qd
        obtain ⟨f1, f2, re0, tb, dj, cv⟩ := w1.re
        refine wpAny_evalAll_cons (wpAny_bind (lam_new I1 w1.sub tb TB ecode hmem huq hdef (fun y hy e => ?_) fun f c' pm ctv F2 H2 s2 I2 z1 z2 tb2 z3 z4 of2 hfn hfr2 hco => wpAny_bind (wpAny_standAt (wpAny_pure (wpAny_evalAll_nil ?_)))))
        · rcases hfr y hy e with q | q
          · exact I1.ok.has _ (.inl q)
          · exact I1.ok.has _ (.inr q)
        · have ch2 : Chg fp1 F1 H1 fp1 F2 H2 := ⟨z1, fun b ob n e => z3 b ob (fun u => n ((cv b).mpr (.inr u))) e, fun b _ n => z4 b n, fun b u => .inl u⟩
          have w2 : Wd X.K X.mg F2 H2 ρ1 fp1 σ := ⟨z2, f1, f2, re0.frame z1 (fun b u => by
            obtain ⟨_, ob, eb⟩ := re0.own b u
            exact ⟨(z3 b ob (dj b u) eb).trans eb.symm, z4 b (by rw [eb]; simp)⟩), tb2, dj, cv⟩
          have sh2 : Sh X.K F2 H2 v d := by
            rcases sh1 with y | ⟨b, vs, ds, y1, y2, y3, y4⟩
            · exact .inl (y.mono z1)
            · refine .inr ⟨b, vs, ds, y1, y2, z3 b _ (fun u => ?_) y3, y4.mono z1⟩
              obtain ⟨qn, m⟩ := (tb.1 b).mp u
              obtain ⟨_, ps, e2, _⟩ := tb.2 _ m
              rw [e2] at y3
              cases y3
          have post : Post X.K X.mg F2 H2 cc Q := fin_post w2 (ch1.trans ch2) h
          unfold sortKD at qs
          cases q5 : seqD d with
          | none => rw [q5] at qs; cases qs
          | some ds =>
            rw [q5] at qs
            simp only [Option.bind_some] at qs
            split at qs
            · rename_i hcond
              cases qs
              obtain ⟨b1, b2⟩ := Bool.and_eq_true_iff.mp hcond
              obtain ⟨b2, b3⟩ := Bool.and_eq_true_iff.mp b2
              unfold sortOk at b2
              obtain ⟨c1, c2⟩ := Bool.and_eq_true_iff.mp b2
              obtain ⟨c2, c3⟩ := Bool.and_eq_true_iff.mp c2
              have c3 := of_decide_eq_true c3
              cases r1 with
              | cons r1 r0 =>
                cases r0
                obtain ⟨l, T, its, n, ol, rfl, rfl, ho, hc, hd, hT, hz, eh⟩ := seq_obj I2 z2 sh2 q5 r1
                have gth : Gathers X.prog X.w X.A.in1 (.ref l) s2 its := gathers_seq ho hc hd hT hz
                have lenE := eh.length
                show wpAny _ _ (call (.builtin "sorted") [.ref l] [(Str.ofString "key", .ref f)]) _ _ s2
                refine sorted_it gth hz (ksk_s1 _ _) (fun _ => ksk_l1 _ _) fun pp h1' tk E' hp k1 at_ => ?_
                rw [ksk_t1]
                have up : ∀ {h3 : Heap}, PySem.W.KeepsBut pp h1' h3 → ∀ b ob, s2.heap.get? b = some ob → h3.get? b = some ob := fun {h3} kb b ob eb => kb b ob (Nat.ne_of_lt (Nat.lt_of_lt_of_le (Heap.lt_size eb) hp)) (k1 b ob eb)
                refine PySem.W.keyH_tree (kz := ds.map (kOf fk)) (s := { s2 with heap := h1', toks := tk }) at_ (by rw [List.length_map]; exact lenE.symm) hz (alikeB_ok c1) (sortB_ok c2) (fun kd hk => ?_) (PySem.W.keyH_turns (s := { s2 with heap := h1', toks := tk }) (k := kOf fk) eh fun u x hux hxm h3 tk3 kb => ?_) fun h3 tk3 out cnt kb hD ko => ⟨rfl, ?_⟩
                · have := c3 kd hk
                  show X.A.units + 2 + kd.depth < cLine
                  have := hr.un
                  omega
                · have hsm := List.all_eq_true.mp b1 x hxm
                  have hfl := List.all_eq_true.mp b3 x hxm
                  obtain ⟨as, ra⟩ := hd_reads I2 z2 hux
                  have ra0 : Reads s2.heap u x [] := by
                    have := flat_reads hfl ra
                    rw [this] at ra
                    exact ra
                  have eg : fk x = some (kOf fk x) := by
                    unfold kOf
                    cases q6 : fk x with
                    | none => rw [q6] at hsm; cases hsm
                    | some z => rfl
                  obtain ⟨⟨oc, vs, t, hoc, hdc, hvc⟩, _, _⟩ := I2.hok c' _ hco
                  refine key_turn (s := { s2 with heap := h3, toks := tk3 }) L1 ?_ (I2.nolimit.keeps (up kb)) (up kb _ _ of2) ⟨oc, vs, t, up kb _ _ hoc, hdc, hvc⟩ (hx f c' _) eg (PyProof.Rows.Reads.keeps (up kb) ra0)
                  show X.A.depth < recursionLimit
                  have := hr.dp
                  omega
                · have outs := PySem.W.keyedOut_each (kOf fk) ko eh
                  obtain ⟨vs', rv, dq⟩ := all_hd outs
                  have hlen : vs'.length ≤ sizeLine := by
                    rw [rv.length, ko.length (by rw [List.length_map]; exact lenE.symm)]
                    exact hz
                  exact ⟨.ref pp, upd H2 pp (.lst vs'), I2.laid (t' := tk3) (up kb) hp ⟨hlen, _, cnt, rv, hD⟩, rfl, post.lst z2 dq (I2.hok.fresh hp)⟩
            · cases qs
end
end Nd

/-! Nd22: a list of one's own changed; xs.remove(e). -/
namespace Nd
open PySem PySem.Spec PyProof.Rows L2
section
variable [TF] {X : Cx} {K : Frag} {mg : Str → Option Value} {W : WX} {F H F0 H0 : Hp} {ρ : Env} {fp fp0 : AS} {σ : L2.St} {P : List Nat} {pos : Pos}
/-- a list of data in a slot, and what it may become -/
theorem Wd.updL {i : Nat} {cs : List C} {ds : List PyData} (w : Wd K mg F H ρ fp σ) (q : ρ[i]? = some (some (.lst cs))) (hv : vals cs = some ds) :
    ∃ a vs, σ[i]? = some (some (.ref a)) ∧ H a = some (.lst vs) ∧ DqAll K F vs ds ∧ ∀ vs' ds', DqAll K F vs' ds' → Wd K mg F (upd H a (.lst vs')) (ρ.set i (some (mkL ds'))) fp σ ∧ Chg fp F H fp F (upd H a (.lst vs')) := by
  obtain ⟨ov, f1, f2, q1, ⟨v, q2, q3⟩, dj, cv, put⟩ := w.re.focus q
  subst q2
  simp only [Rc] at q3
  obtain ⟨a, vs, f', rfl, h2, h3, h4, h5, h6⟩ := q3
  refine ⟨a, vs, q1, h2, vals_sh h4 hv, fun vs' ds' dq => ?_⟩
  have fa : fp a := (cv a).mpr (.inl ((h6 a).mpr (.inl rfl)))
  have nof : ∀ b, ¬ f' b := vals_none h4 hv
  have sF : Same F (upd H a (.lst vs')) := fun b o e => by
    by_cases hb : b = a
    · subst hb; rw [h3] at e; cases e
    · rw [upd_ne hb]; exact w.sub b o e
  have rr : Rc K mg F (upd H a (.lst vs')) (mkL ds') (.ref a) f1 := by
    unfold mkL
    simp only [Rc]
    exact ⟨a, vs', fun _ => False, rfl, upd_same, h3, Rcs_vals dq, fun z => z, fun b => by rw [h6 b]; exact ⟨fun z => z.imp id (nof b), fun z => z.imp id False.elim⟩⟩
  have re2 := put (some (mkL ds')) (some (.ref a)) F (upd H a (.lst vs')) f1 (Same.refl _) (fun b z => ⟨upd_ne (fun e => by subst e; exact dj _ ((h6 _).mpr (.inl rfl)) z), rfl⟩) ⟨_, rfl, rr⟩ dj
  have e0 : σ.set i (some (.ref a)) = σ := by
    apply List.ext_getElem?
    intro j
    by_cases hj : i = j
    · subst hj; rw [q1]; exact List.getElem?_set_self (List.getElem?_eq_some_iff.mp q1).1
    · exact List.getElem?_set_ne hj
  rw [e0] at re2
  refine ⟨⟨sF, re2.iff fun b => cv b⟩, Same.refl _, fun b o n e => ?_, fun b n e => rfl, fun b z => .inl z⟩
  rw [upd_ne (fun e => by subst e; exact n fa)]
  exact e
def remOk (ds : List PyData) (d : PyData) : Bool := PyData.plainAll ds && (d.plain && decide (d.depth ≤ 32))
def remD (ds : List PyData) (d : PyData) : Option (List PyData) := if remOk ds d = true then (SeqAt.dataPlace ds d).map ds.eraseIdx else none
def gRem (i : Nat) (g : G Op) : G C := G.bind (gHas i) fun _ => G.bind g fun o ρ => match deref ρ o, ρ[i]? with
  | some d, some (some (.lst cs)) => match (vals cs).bind fun ds => remD ds d with
    | some ds' => .ok (.val .none) (ρ.set i (some (mkL ds')))
    | none => .bad
  | _, _ => .bad
/-- xs.remove(e), by what stands there -/
def rRemD (K : Frag) : V → List V → Hp → VK → Prop := fun x ys H Q => ∃ (a : Addr) (y : V) (vs : List V) (ds : List PyData) (d : PyData) (F : Hp) (j : Nat), x = .ref a ∧ ys = [y] ∧ H a = some (.lst vs) ∧ Same F H ∧ DqAll K F vs ds ∧ Sh K F H y d ∧ remOk ds d = true ∧ SeqAt.dataPlace ds d = some j ∧ Q .non (upd H a (.lst (vs.eraseIdx j)))
theorem vals_erase : ∀ {vs : List V} {us : List Value} (j : Nat), Vals vs us → Vals (vs.eraseIdx j) (us.eraseIdx j)
  | _, _, _, .nil => by simp; exact .nil
  | _, _, 0, .cons r t => by simpa using t
  | _, _, j + 1, .cons r t => by simpa using .cons r (vals_erase j t)
theorem DqAll.erase {vs : List V} {ds : List PyData} (j : Nat) (h : DqAll K F vs ds) : DqAll K F (vs.eraseIdx j) (ds.eraseIdx j) := by
  rw [List.eraseIdx_eq_take_drop_succ, List.eraseIdx_eq_take_drop_succ]
  exact (h.take j).append (h.drop (j + 1))
theorem mt_rem (hu : X.A.units + 65 < cLine) : MtR X "list.remove" (rRemD X.K) := by
  intro pins s σ H x xs v us Q I rx rxs h
  obtain ⟨a, y, vs, ds, d, F, j, rfl, rfl, ha, sub, dq, sh, hok, hp, q⟩ := h
  cases rx
  cases rxs with
  | cons ry rt =>
    cases rt
    rename_i u
    unfold remOk at hok
    obtain ⟨o1, o2⟩ := Bool.and_eq_true_iff.mp hok
    obtain ⟨o2, o3⟩ := Bool.and_eq_true_iff.mp o2
    have o3 := of_decide_eq_true o3
    obtain ⟨hz, its, n, rv, hob⟩ := I.hok a _ ha
    obtain ⟨as, ra⟩ := each_reads ((hd_all rv dq).mono fun v d hv => hd_reads I sub hv)
    obtain ⟨bs, rb⟩ := Dp.reads I d y u (sh.dp sub) ry
    refine SeqAt.remove_list_data (vs := its.toArray) ⟨_, hob, rfl, n, rfl⟩ (by simpa using ra) rb o1 o2 (by have := Nat.min_le_right (PyData.depthAll ds) d.depth; omega) hp (by rw [List.size_toArray, ← rv.length]; exact hz) ?_
    obtain ⟨ep, he'⟩ : ∃ ep, (s.heap.update a (Obj.mapSeq fun ys => ys.eraseIdxIfInBounds j)).get? a = some (seqObj "list" (its.toArray.eraseIdxIfInBounds j) ep) := ⟨_, get?_update_seq hob _⟩
    have e1 : its.toArray.eraseIdxIfInBounds j = (its.eraseIdx j).toArray := by simp
    rw [e1] at he'
    have hl2 : (vs.eraseIdx j).length ≤ sizeLine := Nat.le_trans (List.length_eraseIdx_le _ _) hz
    exact ⟨.non, upd H a (.lst (vs.eraseIdx j)), I.write (e := a) (t' := s.toks) (by rw [ha]; trivial) (.inl rfl) (fun b u hb hu => (Heap.get?_update_ne _ _ _ _ hb).trans hu) ⟨_, he'⟩ ⟨hl2, _, ep, vals_erase j rv, he'⟩, rfl, q⟩
theorem gHas_inv {i : Nat} {ρ ρ' : Env} {u : Unit} (h : gHas i ρ = .ok u ρ') : ρ' = ρ ∧ ∃ cs, ρ[i]? = some (some (.lst cs)) := by
  unfold gHas at h
  split at h
  · rename_i cs q
    cases h
    exact ⟨rfl, cs, q⟩
  · cases h
theorem gRem_ok {i : Nat} {g : G Op} {Q : VK} (h : tE K mg W (gRem i g) σ H Q) : tBM K "list" (rRemD K) (tVar i) (tCons (tO K mg W g) tNil) σ H Q := by
  obtain ⟨ρ, fp, F, w, h⟩ := h
  unfold gRem G.bind at h
  cases e0 : gHas i ρ with
  | bad => rw [e0] at h; exact h.elim
  | ex x ρ' =>
    unfold gHas at e0
    split at e0 <;> cases e0
  | ok u ρ' =>
    obtain ⟨er, cs0, q0⟩ := gHas_inv e0
    subst er
    rw [e0] at h
    simp only [R.bind_ok] at h
    obtain ⟨ov, f1, f2, q1, ⟨v, q2, q3⟩, dj, cv, put⟩ := w.re.focus q0
    subst q2
    refine ⟨v, q1, ?_⟩
    simp only [Rc] at q3
    obtain ⟨a, vs, f', rfl, h2, h3, h4, h5, h6⟩ := q3
    refine ⟨.inl ⟨rfl, vs, .of h2⟩, ?_⟩
    show tO K mg W g σ H _
    refine oRun w Chg.refl ?_
    cases q : g ρ' with
    | bad => rw [q] at h; exact h
    | ex x ρ' => rw [q] at h; exact h
    | ok o ρ1 =>
      rw [q] at h
      simp only [R.bind_ok] at h
      intro y F1 H1 fp1 w1 ro _ c1
      cases qd : deref ρ1 o with
      | none => rw [qd] at h; exact h.elim
      | some d =>
        rw [qd] at h
        split at h
        · rename_i c ρ'' e9
          split at e9
          · rename_i d' cs ed es
            cases ed
            split at e9
            · rename_i ds' em
              cases e9
              cases ev : vals cs with
              | none => rw [ev] at em; cases em
              | some ds =>
                rw [ev] at em
                simp only [Option.bind_some] at em
                unfold remD at em
                split at em
                · rename_i hok
                  cases ep : SeqAt.dataPlace ds d with
                  | none => rw [ep] at em; cases em
                  | some j =>
                    rw [ep] at em
                    cases em
                    obtain ⟨a', vs1, p1, p2, p3, upd_⟩ := w1.updL es ev
                    rw [q1] at p1
                    cases p1
                    obtain ⟨w2, c2⟩ := upd_ _ _ (DqAll.erase j p3)
                    exact ⟨a, y, vs1, ds, d, F1, j, rfl, rfl, p2, w1.sub, p3, deref_sh w1 ro qd, hok, ep, h .non F1 _ fp1 (fun _ => False) w2 (Rc.of_dp .non) (fun _ z => z.elim) ((c1.trans c2).or_false)⟩
                · cases em
            · cases e9
          · cases e9
        · rename_i x ρ'' e9
          split at e9
          · split at e9 <;> cases e9
          · cases e9
        · exact h.elim
theorem s_rem {e : Expr} {x : Str} {px apos cpos : Pos} (i : Nat) {g : G Op} (hu : X.A.units + 65 < cLine) (he : PE X e (tO X.K mg W g)) (hN : X.N[i]? = some x := by rfl) (hv : Vis X.env.scope x := by first | exact Or.inl rfl | exact Or.inr (Or.inl rfl) | exact Or.inr (Or.inr rfl))
    (hd : (x == ("__debug__" : Str)) = false := by decide) (hcd : (x == ("__classdict__" : Str)) = false := by decide)
    (hbase : attributeBase (.Name x px) "remove" X.env (eval (.Name x px) X.env) = eval (.Name x px) X.env := by rfl)
    (hfew : ((backTo cpos (starEach [e] X.env)).all (fun x => !x.1) && (backToKw cpos (keywordEach [] X.env)).all (fun x => x.1.isSome) && decide (([e] : List Expr).length + ([] : List Keyword).length + (if ([] : List Keyword).isEmpty then 0 else 1) < 30)) = true := by rfl)
    (hline : (apos.endLine == cpos.line) = true := by rfl) (hs : starEach [e] X.env = (false, eval e X.env) :: starEach [] X.env := by rfl) (hplain : (backTo cpos (starEach [] X.env)).any (·.1) = false := by rfl)
    (hsw : swapsWith (.Call (.Attribute (.Name x px) "remove" apos) [e] [] cpos) none pos.line X.env = pure false := by rfl) :
    PS X (.Expr (.Call (.Attribute (.Name x px) "remove" apos) [e] [] cpos) pos) (tS X.K mg W P (gDrop (gRem i g))) :=
  s_expr ((pe_bm PySem.F.plainAttrs_list PySem.F.slot_list_remove PySem.F.type_list_remove (mt_rem hu) (pe_var hN hv hd hcd) (pa_cons he pa_nil hs) hbase hfew hline hs hplain).imp fun _ _ _ => gRem_ok) hsw
end
end Nd

/-! Nd23: more meanings computed at a given frame. -/
namespace Nd
open PySem L2
section
variable [TF] {ρ : Env}
def srm (f : PyData → Option PyData) : Option PyData → Env → R C
  | some d, ρ => fin (sortKD f d) ρ
  | none, _ => .bad
@[simp] theorem srm_some {f d} : srm f (some d) ρ = fin (sortKD f d) ρ := rfl
def srk (f : PyData → Option PyData) (o : Op) : G C := fun ρ => srm f (deref ρ o) ρ
@[simp] theorem srk_at {f o} : srk f o ρ = srm f (deref ρ o) ρ := rfl
@[simp] theorem gSortK_at {f g} : gSortK f g ρ = (g ρ).bind (srk f) := by
  show (g ρ).bind _ = _
  congr 1
  funext o ρ
  simp only [srk_at]
  cases deref ρ o with
  | none => rfl
  | some d =>
    simp only [srm_some]
    cases sortKD f d <;> rfl
def rmo (i : Nat) : Option (List PyData) → Env → R C
  | some ds', ρ => .ok (.val .none) (ρ.set i (some (mkL ds')))
  | none, _ => .bad
@[simp] theorem rmo_some {i ds} : rmo i (some ds) ρ = .ok (.val .none) (ρ.set i (some (mkL ds))) := rfl
def rmm (i : Nat) : Option PyData → Option (Option C) → Env → R C
  | some d, some (some (.lst cs)), ρ => rmo i ((vals cs).bind fun ds => remD ds d) ρ
  | _, _, _ => .bad
@[simp] theorem rmm_some {i d ds} : rmm i (some d) (some (some (mkL ds))) ρ = rmo i (remD ds d) ρ := by
  show rmo i ((vals (ds.map .val)).bind fun ds => remD ds d) ρ = _
  rw [vals_map]
  rfl
def rmk (i : Nat) (o : Op) : G C := fun ρ => rmm i (deref ρ o) ρ[i]? ρ
@[simp] theorem rmk_at {i o} : rmk i o ρ = rmm i (deref ρ o) ρ[i]? ρ := rfl
@[simp] theorem gRem_at {i g} : gRem i g ρ = (gHas i ρ).bind fun _ => G.bind g (rmk i) := by
  show (gHas i ρ).bind _ = _
  congr 1
  funext u
  unfold G.bind
  funext ρ
  congr 1
  funext o ρ
  simp only [rmk_at]
  cases deref ρ o with
  | none => cases ρ[i]? with
    | none => rfl
    | some c => cases c with
      | none => rfl
      | some c => cases c <;> rfl
  | some d =>
    cases ρ[i]? with
    | none => rfl
    | some c => cases c with
      | none => rfl
      | some c =>
        cases c with
        | lst cs =>
          show (match (vals cs).bind fun ds => remD ds d with | some ds' => R.ok (C.val .none) (ρ.set i (some (mkL ds'))) | none => R.bad) = rmo i _ ρ
          cases (vals cs).bind fun ds => remD ds d <;> rfl
        | _ => rfl
end
end Nd

/-! Nd24: loops by what holds between their turns. -/
namespace Nd
open PySem L2
section
variable [TF]
/-- a for, without a way out -/
theorem for_inv {p : Pat} {gb : G Fl} {I : List PyData → Env → Prop} (step : ∀ d ds ρ, I (d :: ds) ρ → ∃ ρ1 f ρ2, asg p d ρ = some ρ1 ∧ gb ρ1 = .ok f ρ2 ∧ (f = .next ∨ f = .cont) ∧ I ds ρ2) : ∀ (ds : List PyData) (ρ : Env), I ds ρ → ∃ ρ', forL none p gb ds ρ = .ok .next ρ' ∧ I [] ρ'
  | [], ρ, h => ⟨ρ, forL_nil, h⟩
  | d :: ds, ρ, h => by
    obtain ⟨ρ1, f, ρ2, e1, e2, e3, h2⟩ := step d ds ρ h
    obtain ⟨ρ', e4, h3⟩ := for_inv step ds ρ2 h2
    refine ⟨ρ', ?_, h3⟩
    rw [forL_cons, e1, lps_some, e2]
    rcases e3 with e3 | e3 <;> subst e3
    · rw [lp_next]; exact e4
    · rw [lp_cont]; exact e4
/-- a for that may return -/
theorem for_ret {p : Pat} {gb : G Fl} {I : List PyData → Env → Prop} {Rt : C → Env → Prop} (step : ∀ d ds ρ, I (d :: ds) ρ → ∃ ρ1, asg p d ρ = some ρ1 ∧ ((∃ f ρ2, gb ρ1 = .ok f ρ2 ∧ (f = .next ∨ f = .cont) ∧ I ds ρ2) ∨ ∃ c ρ2, gb ρ1 = .ok (.ret c) ρ2 ∧ Rt c ρ2)) :
    ∀ (ds : List PyData) (ρ : Env), I ds ρ → (∃ ρ', forL none p gb ds ρ = .ok .next ρ' ∧ I [] ρ') ∨ ∃ c ρ', forL none p gb ds ρ = .ok (.ret c) ρ' ∧ Rt c ρ'
  | [], ρ, h => .inl ⟨ρ, forL_nil, h⟩
  | d :: ds, ρ, h => by
    obtain ⟨ρ1, e1, ⟨f, ρ2, e2, e3, h2⟩ | ⟨c, ρ2, e2, h2⟩⟩ := step d ds ρ h
    · rcases for_ret step ds ρ2 h2 with ⟨ρ', e4, h3⟩ | ⟨c, ρ', e4, h3⟩
      · left
        refine ⟨ρ', ?_, h3⟩
        rw [forL_cons, e1, lps_some, e2]
        rcases e3 with e3 | e3 <;> subst e3
        · rw [lp_next]; exact e4
        · rw [lp_cont]; exact e4
      · right
        refine ⟨c, ρ', ?_, h3⟩
        rw [forL_cons, e1, lps_some, e2]
        rcases e3 with e3 | e3 <;> subst e3
        · rw [lp_next]; exact e4
        · rw [lp_cont]; exact e4
    · right
      exact ⟨c, ρ2, by rw [forL_cons, e1, lps_some, e2, lp_ret], h2⟩
/-- a for over a list of one's own -/
theorem forS_inv {i : Nat} {c : C} {p : Pat} {gb : G Fl} {I : List PyData → Env → Prop} (hs : ∀ ds ρ, I ds ρ → ρ[i]? = some (some c)) (step : ∀ d ds ρ, I (d :: ds) ρ → ∃ ρ1 f ρ2, asg p d ρ = some ρ1 ∧ gb ρ1 = .ok f ρ2 ∧ (f = .next ∨ f = .cont) ∧ I ds ρ2) : ∀ (ds : List PyData) (ρ : Env), I ds ρ → ∃ ρ', forL (some (i, c)) p gb ds ρ = .ok .next ρ' ∧ I [] ρ'
  | [], ρ, h => ⟨ρ, forS_nil (hs _ _ h), h⟩
  | d :: ds, ρ, h => by
    obtain ⟨ρ1, f, ρ2, e1, e2, e3, h2⟩ := step d ds ρ h
    obtain ⟨ρ', e4, h3⟩ := forS_inv hs step ds ρ2 h2
    refine ⟨ρ', ?_, h3⟩
    rw [forS_cons (hs _ _ h), e1, lps_some, e2]
    rcases e3 with e3 | e3 <;> subst e3
    · rw [lp_next]; exact e4
    · rw [lp_cont]; exact e4
theorem forS_ret {i : Nat} {c : C} {p : Pat} {gb : G Fl} {I : List PyData → Env → Prop} {Rt : C → Env → Prop} (hs : ∀ ds ρ, I ds ρ → ρ[i]? = some (some c)) (step : ∀ d ds ρ, I (d :: ds) ρ → ∃ ρ1, asg p d ρ = some ρ1 ∧ ((∃ f ρ2, gb ρ1 = .ok f ρ2 ∧ (f = .next ∨ f = .cont) ∧ I ds ρ2) ∨ ∃ c ρ2, gb ρ1 = .ok (.ret c) ρ2 ∧ Rt c ρ2)) :
    ∀ (ds : List PyData) (ρ : Env), I ds ρ → (∃ ρ', forL (some (i, c)) p gb ds ρ = .ok .next ρ' ∧ I [] ρ') ∨ ∃ c' ρ', forL (some (i, c)) p gb ds ρ = .ok (.ret c') ρ' ∧ Rt c' ρ'
  | [], ρ, h => .inl ⟨ρ, forS_nil (hs _ _ h), h⟩
  | d :: ds, ρ, h => by
    obtain ⟨ρ1, e1, ⟨f, ρ2, e2, e3, h2⟩ | ⟨c', ρ2, e2, h2⟩⟩ := step d ds ρ h
    · rcases forS_ret hs step ds ρ2 h2 with ⟨ρ', e4, h3⟩ | ⟨c', ρ', e4, h3⟩
      · left
        refine ⟨ρ', ?_, h3⟩
        rw [forS_cons (hs _ _ h), e1, lps_some, e2]
        rcases e3 with e3 | e3 <;> subst e3
        · rw [lp_next]; exact e4
        · rw [lp_cont]; exact e4
      · right
        refine ⟨c', ρ', ?_, h3⟩
        rw [forS_cons (hs _ _ h), e1, lps_some, e2]
        rcases e3 with e3 | e3 <;> subst e3
        · rw [lp_next]; exact e4
        · rw [lp_cont]; exact e4
    · right
      exact ⟨c', ρ2, by rw [forS_cons (hs _ _ h), e1, lps_some, e2, lp_ret], h2⟩
/-- a while: n turns at most are left -/
theorem whl_inv {t : G Bool} {gb : G Fl} {I : Nat → Env → Prop} {J : Env → Prop} (step : ∀ n ρ, I n ρ → (∃ ρ1, t ρ = .ok false ρ1 ∧ J ρ1) ∨ ∃ ρ1 f ρ2 m, t ρ = .ok true ρ1 ∧ gb ρ1 = .ok f ρ2 ∧ (f = .next ∨ f = .cont) ∧ m < n ∧ I m ρ2) :
    ∀ (N n : Nat) (ρ : Env), n < N → I n ρ → ∃ ρ', whl N t gb ρ = .ok .next ρ' ∧ J ρ'
  | 0, n, ρ, hn, h => nomatch hn
  | N + 1, n, ρ, hn, h => by
    rcases step n ρ h with ⟨ρ1, e1, hj⟩ | ⟨ρ1, f, ρ2, m, e1, e2, e3, hm, h2⟩
    · exact ⟨ρ1, by simp [whl, e1], hj⟩
    · obtain ⟨ρ', e4, hj⟩ := whl_inv step N m ρ2 (by omega) h2
      refine ⟨ρ', ?_, hj⟩
      rcases e3 with e3 | e3 <;> subst e3 <;> simp [whl, e1, e2, e4]
/-- a while that may return -/
theorem whl_ret {t : G Bool} {gb : G Fl} {I : Nat → Env → Prop} {J : Env → Prop} {Rt : C → Env → Prop} (step : ∀ n ρ, I n ρ → (∃ ρ1, t ρ = .ok false ρ1 ∧ J ρ1) ∨ (∃ ρ1 f ρ2 m, t ρ = .ok true ρ1 ∧ gb ρ1 = .ok f ρ2 ∧ (f = .next ∨ f = .cont) ∧ m < n ∧ I m ρ2) ∨ ∃ ρ1 c ρ2, t ρ = .ok true ρ1 ∧ gb ρ1 = .ok (.ret c) ρ2 ∧ Rt c ρ2) :
    ∀ (N n : Nat) (ρ : Env), n < N → I n ρ → (∃ ρ', whl N t gb ρ = .ok .next ρ' ∧ J ρ') ∨ ∃ c ρ', whl N t gb ρ = .ok (.ret c) ρ' ∧ Rt c ρ'
  | 0, n, ρ, hn, h => nomatch hn
  | N + 1, n, ρ, hn, h => by
    rcases step n ρ h with ⟨ρ1, e1, hj⟩ | ⟨ρ1, f, ρ2, m, e1, e2, e3, hm, h2⟩ | ⟨ρ1, c, ρ2, e1, e2, h2⟩
    · exact .inl ⟨ρ1, by simp [whl, e1], hj⟩
    · rcases whl_ret step N m ρ2 (by omega) h2 with ⟨ρ', e4, hj⟩ | ⟨c, ρ', e4, hj⟩
      · refine .inl ⟨ρ', ?_, hj⟩
        rcases e3 with e3 | e3 <;> subst e3 <;> simp [whl, e1, e2, e4]
      · refine .inr ⟨c, ρ', ?_, hj⟩
        rcases e3 with e3 | e3 <;> subst e3 <;> simp [whl, e1, e2, e4]
    · exact .inr ⟨c, ρ2, by simp [whl, e1, e2], h2⟩
@[simp] theorem gWhile_at {n : Env → Nat} {t : G Bool} {gb : G Fl} {ρ : Env} : gWhile n t gb ρ = whl (n ρ) t gb ρ := rfl
/-- a comprehension whose parts leave the frame as it is -/
theorem comp_map {p : Pat} {vs : List Nat} {gt : G Bool} {ge : G Op} {f : PyData → Bool} {h : PyData → PyData} {ρ : Env} : ∀ (ds : List PyData), (∀ d ∈ ds, ∃ ρ1, asg p d ρ = some ρ1 ∧ gt ρ1 = .ok (f d) ρ1 ∧ (f d = true → ge ρ1 = .ok (.d (h d)) ρ1) ∧ wipeE ρ1 vs = ρ) →
    compL none p vs gt ge ds ρ = .ok ((ds.filter f).map h) ρ
  | [], _ => by simp [compL_nil]
  | d :: ds, k => by
    obtain ⟨ρ1, e1, e2, e3, e4⟩ := k d List.mem_cons_self
    have ih := comp_map (gt := gt) (ge := ge) (f := f) (h := h) ds fun x hx => k x (List.mem_cons_of_mem _ hx)
    rw [compL_cons, e1, cps_some, e2]
    cases q : f d with
    | true =>
      rw [e3 q |> fun e => (by simp [e, e4, ih, q] : tst (.ok true ρ1) (G.bind ge (elk p vs (compL none p vs gt ge ds))) (fun ρ => compL none p vs gt ge ds (wipeE ρ vs)) = .ok (((d :: ds).filter f).map h) ρ)]
    | false => simp [e4, ih, q]
/-- all turns, in order -/
theorem comp_all {p : Pat} {vs : List Nat} {ge : G Op} {h : PyData → PyData} {ρ : Env} (ds : List PyData) (k : ∀ d ∈ ds, ∃ ρ1, asg p d ρ = some ρ1 ∧ ge ρ1 = .ok (.d (h d)) ρ1 ∧ wipeE ρ1 vs = ρ) : compL none p vs (G.ret true) ge ds ρ = .ok (ds.map h) ρ := by
  have := comp_map (gt := G.ret true) (ge := ge) (f := fun _ => true) (h := h) (p := p) (vs := vs) (ρ := ρ) ds fun d hd => by
    obtain ⟨ρ1, e1, e2, e3⟩ := k d hd
    exact ⟨ρ1, e1, rfl, fun _ => e2, e3⟩
  have e : ds.filter (fun _ => true) = ds := List.filter_eq_self.mpr (by simp)
  rw [e] at this
  exact this
/-- a comprehension that draws: what holds of what is made and of the frame -/
theorem comp_inv {p : Pat} {vs : List Nat} {gt : G Bool} {ge : G Op} {I : List PyData → List PyData → Env → Prop} (step : ∀ d ds ys ρ, I (d :: ds) ys ρ → ∃ ρ1 b ρ2, asg p d ρ = some ρ1 ∧ gt ρ1 = .ok b ρ2 ∧ (b = true → ∃ y ρ3, ge ρ2 = .ok (.d y) ρ3 ∧ I ds (ys ++ [y]) (wipeE ρ3 vs)) ∧ (b = false → I ds ys (wipeE ρ2 vs))) :
    ∀ (ds ys : List PyData) (ρ : Env), I ds ys ρ → ∃ zs ρ', compL none p vs gt ge ds ρ = .ok zs ρ' ∧ I [] (ys ++ zs) ρ'
  | [], ys, ρ, h => ⟨[], ρ, compL_nil, by simpa using h⟩
  | d :: ds, ys, ρ, h => by
    obtain ⟨ρ1, b, ρ2, e1, e2, k1, k2⟩ := step d ds ys ρ h
    rw [compL_cons, e1, cps_some, e2]
    cases b with
    | true =>
      obtain ⟨y, ρ3, e3, h3⟩ := k1 rfl
      obtain ⟨zs, ρ', e4, h4⟩ := comp_inv step ds _ _ h3
      exact ⟨y :: zs, ρ', by simp [e3, e4], by simpa using h4⟩
    | false =>
      obtain ⟨zs, ρ', e4, h4⟩ := comp_inv step ds _ _ (k2 rfl)
      exact ⟨zs, ρ', by simp [e4], h4⟩
end
end Nd

/-! Nd25: enumerate over a list of one's own. -/
namespace Nd
open PySem L2
section
variable [TF] {X : Cx} {K : Frag} {mg : Str → Option Value} {W : WX} {F H : Hp} {ρ : Env} {σ : St}
theorem itOk_enumO {i : Nat} {cs : List C} {a : Addr} {xs : List PyData} (e : vals cs = some xs) : ItOk K mg (some (i, .lst cs)) a F (enumP xs) (Ite K a) := by
  have key : ∀ {ρ : Env} {fp : AS} {F' H' : Hp} {σ : St}, Wd K mg F' H' ρ fp σ → chk (some (i, .lst cs)) ρ → anchor (some (i, .lst cs)) a σ → ∃ vs, SqL K H' a vs ∧ DqAll K F' vs xs := fun {ρ fp F' H' σ} w ck an => by
    obtain ⟨ov, f1, f2, q1, ⟨v, q2, q3⟩, _⟩ := w.re.focus ck
    have an' : σ[i]? = some (some (.ref a)) := an
    rw [q1, q2] at an'
    cases an'
    simp only [Rc] at q3
    obtain ⟨a', vs, f', h1, h2, h3, h4, h5, h6⟩ := q3
    cases h1
    exact ⟨vs, .of h2, vals_sh h4 e⟩
  refine ⟨fun ρ fp F' H' σ j w ck an se hi => ?_, fun ρ fp F' H' σ j x H2 d w ck an se hd hy => ?_, fun ρ fp F' H' σ w ck an se => ?_⟩
  · obtain ⟨vs, s1, r1⟩ := key w ck an
    have hi' : j < vs.length := by rw [r1.length]; simpa [enumP] using hi
    exact ⟨vs, vs[j], s1, List.getElem?_eq_getElem hi'⟩
  · obtain ⟨vs, s1, r1⟩ := key w ck an
    unfold enumP at hd
    rw [List.getElem?_map, List.getElem?_zipIdx] at hd
    obtain ⟨T, x2, rfl, hT, rfl, k1⟩ := hy
    cases q : xs[j]? with
    | none => rw [q] at hd; cases hd
    | some x1 =>
      rw [q] at hd
      simp only [Option.map_some, Option.some.injEq] at hd
      subst hd
      obtain ⟨u1, e1, q1⟩ := r1.get q
      have z1 := k1 vs s1
      rw [e1] at z1
      have z1' := Option.some.inj z1
      subst z1'
      have x := Frs.newF (p := T) (o := .tup [.int (j : Nat), u1]) w.sub hT
      exact ⟨_, x, .tup (.of upd_same) (.cons (by simpa using Dq.int (K := K) (F := upd F' T (.tup [.int (j : Nat), u1])) ((j : Nat) : Int)) (.cons (q1.mono x.fz) .nil))⟩
  · obtain ⟨vs, s1, r1⟩ := key w ck an
    exact ⟨vs, s1, by rw [r1.length]; simp [enumP]⟩
def enS (i : Nat) : Option (Option C) → Option Itm
  | some (some (.val (.list xs))) => if szOk xs = true then some ⟨enumP xs, none⟩ else none
  | some (some (.val (.tuple xs))) => if szOk xs = true then some ⟨enumP xs, none⟩ else none
  | some (some (.lst cs)) => match vals cs with
    | some xs => if szOk xs = true then some ⟨enumP xs, some (i, .lst cs)⟩ else none
    | none => none
  | _ => none
def enSr : Option Itm → Env → R Itm
  | some it, ρ => .ok it ρ
  | none, _ => .bad
def gEnumS (i : Nat) : G Itm := fun ρ => enSr (enS i ρ[i]?) ρ
theorem i_enumS {p px pos tpos : Pos} {elts : List Expr} {kk : Nat} (i : Nat) {x : Str} (hg : Gl X "enumerate") (hm : X.mg "enumerate" = none) (hN : X.N[i]? = some x := by rfl) (hv : Vis X.env.scope x := by first | exact Or.inl rfl | exact Or.inr (Or.inl rfl) | exact Or.inr (Or.inr rfl))
    (hd : (x == ("__debug__" : Str)) = false := by decide) (hcd : (x == ("__classdict__" : Str)) = false := by decide)
    (hs : starEach [.Name x px] X.env = [(false, eval (.Name x px) X.env)] := by rfl) : PI X (.Tuple elts kk tpos) (.Call (.Name "enumerate" p) [.Name x px] [] pos) (tI X.K mg W (gEnumS i)) := by
  refine ⟨fun pins s σ H Rr I h => ?_⟩
  refine (pi_enumA hg hm (pa_cons (pe_var hN hv hd hcd) pa_nil hs) hs).run pins s σ H Rr I ?_
  obtain ⟨ρ, fp, F, w, h⟩ := h
  unfold gEnumS at h
  cases q : ρ[i]? with
  | none => rw [q] at h; exact h.elim
  | some oc =>
    cases oc with
    | none => rw [q] at h; exact h.elim
    | some c =>
      rw [q] at h
      obtain ⟨ov, f1, f2, q1, ⟨v, q2, q3⟩, _⟩ := w.re.focus q
      subst q2
      refine ⟨v, q1, ?_⟩
      cases c with
      | val d =>
        cases d with
        | list xs =>
          simp only [enS] at h
          by_cases hl : szOk xs = true
          · rw [if_pos hl] at h
            simp only [Rc] at q3
            obtain ⟨a1, vs, rfl, t1, p1⟩ := q3.1.list_inv
            exact ⟨a1, rfl, .inl ⟨vs, w.sub.seq t1, h _ 0 F H fp w Chg.refl trivial trivial (itOk_enumL t1 p1) (by simpa [enumP, szOk] using hl)⟩⟩
          · rw [if_neg hl] at h; exact h.elim
        | tuple xs =>
          simp only [enS] at h
          by_cases hl : szOk xs = true
          · rw [if_pos hl] at h
            simp only [Rc] at q3
            obtain ⟨a1, vs, rfl, t1, p1⟩ := q3.1.tup_inv
            exact ⟨a1, rfl, .inr ⟨vs, SqT.mono w.sub t1, h _ 0 F H fp w Chg.refl trivial trivial (itOk_enumT t1 p1) (by simpa [enumP, szOk] using hl)⟩⟩
          · rw [if_neg hl] at h; exact h.elim
        | none => exact h.elim
        | bool => exact h.elim
        | int => exact h.elim
        | str => exact h.elim
        | dict => exact h.elim
      | lst cs =>
        simp only [enS] at h
        cases zv : vals cs with
        | none => rw [zv] at h; exact h.elim
        | some xs =>
          rw [zv] at h
          simp only at h
          by_cases hl : szOk xs = true
          · rw [if_pos hl] at h
            simp only [Rc] at q3
            obtain ⟨a, vs, f', rfl, h2, h3, h4, h5, h6⟩ := q3
            exact ⟨a, rfl, .inl ⟨vs, .of h2, h (Ite X.K a) a F H fp w Chg.refl q q1 (itOk_enumO zv) (by simpa [enumP, szOk] using hl)⟩⟩
          · rw [if_neg hl] at h; exact h.elim
      | tup => exact h.elim
      | dic => exact h.elim
      | obj => exact h.elim
theorem src_enumS {i : Nat} {T : Src → Prop} (h0 : T none) (h : ∀ c, T (some (i, c))) : ∀ ρ it ρ', gEnumS i ρ = .ok it ρ' → T it.src := by
  intro ρ it ρ' e
  unfold gEnumS at e
  cases z : enS i ρ[i]? with
  | none => rw [z] at e; cases e
  | some it' =>
    rw [z] at e
    cases e
    unfold enS at z
    split at z
    · split at z
      · cases z; exact h0
      · cases z
    · split at z
      · cases z; exact h0
      · cases z
    · split at z
      · split at z
        · cases z; exact h _
        · cases z
      · cases z
    · cases z
@[simp] theorem gEnumS_at {i} : gEnumS i ρ = enSr (enS i ρ[i]?) ρ := rfl
@[simp] theorem enSr_some {it} : enSr (some it) ρ = .ok it ρ := rfl
@[simp] theorem enS_l {i xs} : enS i (some (some (.val (.list xs)))) = if szOk xs = true then some ⟨enumP xs, none⟩ else none := rfl
@[simp] theorem enS_t {i xs} : enS i (some (some (.val (.tuple xs)))) = if szOk xs = true then some ⟨enumP xs, none⟩ else none := rfl
@[simp] theorem enS_o {i xs} : enS i (some (some (mkL xs))) = if szOk xs = true then some ⟨enumP xs, some (i, mkL xs)⟩ else none := by
  show (match vals (xs.map .val) with | some xs => _ | none => _) = _
  rw [vals_map]
  rfl
theorem compS_nil {i c p vs gt ge} (h : ρ[i]? = some (some c)) : compL (some (i, c)) p vs gt ge [] ρ = .ok [] ρ := by
  simp only [compL]
  rw [gChk_some h]; rfl
theorem compS_cons {i c p vs gt ge d ds} (h : ρ[i]? = some (some c)) : compL (some (i, c)) p vs gt ge (d :: ds) ρ = cps p vs gt ge (compL (some (i, c)) p vs gt ge ds) (asg p d ρ) := by
  simp only [compL]
  rw [gChk_some h]
  cases asg p d ρ with
  | none => rfl
  | some ρ1 =>
    simp only [cps_some, tst]
    congr 1
    funext b ρ2
    cases b with
    | false => rfl
    | true =>
      simp only [if_true, bind_at]
      congr 1
      funext o ρ3
      cases o <;> rfl
end
end Nd


instance (priority := low) Nd.tf0 : Nd.TF := ⟨[]⟩
namespace Lw
open PySem L2 Nd
abbrev N__law_deck : List Str := ["_law_cell", "_law_turn"]
noncomputable def g__law_deck : G Fl := (gSeq (gIfS (gT2 geA (gSlot 0) (gFz (gOp2 powD (oC (.int 10)) (oC (.int 18)))))
  (gRet (gLst [(gVal (gFz (gOp2 subD (gSlot 0) (gFz (gOp2 powD (oC (.int 10)) (oC (.int 18))))))), (gVal (gFz (gOp2 modD (gSlot 0) (oC (.int 2147483579))))), (Nd.gName 1)]))
  gNext)
  (gRet (gLst [(gC (.int 0)), (gVal (gFz (gOp2 modD (gSlot 0) (oC (.int 2147483579))))), (Nd.gName 1)])))
noncomputable def fn__law_deck : Fn := fnOf N__law_deck.length [true, true] g__law_deck
abbrev N__law_pick : List Str := ["_law_deck_here", "_law_size", "_law_number", "_law_found"]
noncomputable def g__law_pick : G Fl := (gSeq (gIfS (gT2 gtA (gFz (gOp2 ixD (gSlot 0) (oC (.int 0)))) (oC (.int 1)))
  (gSeq (gAsg (.nm 3) (gFz (gOp2 modD (gFz (gOp2 ixD (gSlot 0) (oC (.int 0)))) (gSlot 1))))
  (gSeq (gStore 0 (oC (.int 0)) (gOp2 fdivD (gFz (gOp2 ixD (gSlot 0) (oC (.int 0)))) (gSlot 1)))
  (gRet (Nd.gName 3))))
  gNext)
  (gSeq (gStore 0 (oC (.int 2)) (gOp2 addD (gFz (gOp2 ixD (gSlot 0) (oC (.int 2)))) (oC (.int 1))))
  (gSeq (gAsg (.nm 2) (gFz (gOp2 modD (gFz (gOp2 powD (gFz (gOp2 addD (gFz (gOp2 ixD (gSlot 0) (oC (.int 1)))) (gFz (gOp2 mulD (oC (.int 15485867)) (gFz (gOp2 ixD (gSlot 0) (oC (.int 2)))))))) (oC (.int 5)))) (oC (.int 2147483647)))))
  (gSeq (gAsg (.nm 3) (gFz (gOp2 fdivD (gFz (gOp2 modD (gFz (gOp2 powD (gFz (gOp2 addD (gSlot 2) (gFz (gOp2 mulD (oC (.int 7919)) (gFz (gOp2 ixD (gSlot 0) (oC (.int 2)))))))) (oC (.int 3)))) (oC (.int 2147483629)))) (oC (.int 32)))))
  (gRet (gOp2 modD (gSlot 3) (gSlot 1)))))))
noncomputable def fn__law_pick : Fn := fnOf N__law_pick.length [true, true] g__law_pick
abbrev N__law_one : List Str := ["_law_deck_here", "_law_some"]
noncomputable def g__law_one : G Fl := (gRet (gOp2 ixD (gSlot 1) (gFz (gCallF fn__law_pick (gAs [(gLent 0), (gArg (gVal (gFz (gOpN lenD (gOs [(gSlot 1)])))))])))))
noncomputable def fn__law_one : Fn := fnOf N__law_one.length [true, true] g__law_one
abbrev N__law_net : List Str := ["_law_deck_here", "_law_most", "_law_hands", "_law_ties", "_law_k", "_law_one_here", "_law_other"]
noncomputable def b1__law_net : G Fl := (gIfS (gAnd (gT2 ltA (gFz (gCallF fn__law_pick (gAs [(gLent 0), (gArg (gC (.int 5)))]))) (oC (.int 3))) (gT2 ltA (gFz (gOpN lenD (gOs [(gSlot 3)]))) (oC (.int 16))))
  (gDrop (gApp 3 (gTup [(Nd.gName 5), (Nd.gName 6), (gVal (gFz (gOp2 addD (oC (.int 1)) (gFz (gCallF fn__law_pick (gAs [(gLent 0), (gArg (gVal (gFz (gCallF fn__law_one (gAs [(gLent 0), (gArg (gVal (gFz (gLst [(gC (.int 3)), (gC (.int 10)), (gC (.int 100))]))))])))))]))))))])))
  gNext)
theorem b1__law_net_at (ρ : Nd.Env) : b1__law_net ρ = (gIfS (gAnd (gT2 ltA (gFz (gCallF fn__law_pick (gAs [(gLent 0), (gArg (gC (.int 5)))]))) (oC (.int 3))) (gT2 ltA (gFz (gOpN lenD (gOs [(gSlot 3)]))) (oC (.int 16))))
  (gDrop (gApp 3 (gTup [(Nd.gName 5), (Nd.gName 6), (gVal (gFz (gOp2 addD (oC (.int 1)) (gFz (gCallF fn__law_pick (gAs [(gLent 0), (gArg (gVal (gFz (gCallF fn__law_one (gAs [(gLent 0), (gArg (gVal (gFz (gLst [(gC (.int 3)), (gC (.int 10)), (gC (.int 100))]))))])))))]))))))])))
  gNext) ρ := rfl
noncomputable def b2__law_net : G Fl := (gFor (gItems (gFz (gSl (gSlot 2) (gPart (gFz (gOp2 addD (gSlot 4) (oC (.int 1))))) (G.ret none)))) (.nm 6)
  b1__law_net)
theorem b2__law_net_at (ρ : Nd.Env) : b2__law_net ρ = (gFor (gItems (gFz (gSl (gSlot 2) (gPart (gFz (gOp2 addD (gSlot 4) (oC (.int 1))))) (G.ret none)))) (.nm 6)
  b1__law_net) ρ := rfl
noncomputable def g__law_net : G Fl := (gSeq (gAsg (.nm 2) (gFz (gSl (gFz (gLst [(gC (.str "ann")), (gC (.str "bo")), (gC (.str "cy")), (gC (.str "dee")), (gC (.str "ed")), (gC (.str "flo")), (gC (.str "gus")), (gC (.str "hal"))])) (G.ret none) (gPart (gFz (gOp2 addD (oC (.int 1)) (gFz (gCallF fn__law_pick (gAs [(gLent 0), (gArg (Nd.gName 1))])))))))))
  (gSeq (gSet 3 (gLst []))
  (gSeq (gFor (gEnumA (gSlot 2)) (.tu [(.nm 4), (.nm 5)])
  b2__law_net)
  (gRet (gTup [(gVal (gFz (gOpN tupleD (gOs [(gSlot 2)])))), (gVal (gFz (gOpN tupleD (gOs [(gSlot 3)]))))])))))
noncomputable def fn__law_net : Fn := fnOf N__law_net.length [true, true] g__law_net
abbrev N_by_weight : List Str := ["net"]
noncomputable def g_by_weight : G Fl := (gRet (gSortK (kTup (kCons (kNeg (kIx ((2 : Nat) : Int) kName)) (kCons (kIx ((0 : Nat) : Int) kName) (kCons (kIx ((1 : Nat) : Int) kName) kNil)))) (gFz (gOp2 ixD (gSlot 0) (oC (.int 1))))))
noncomputable def fn_by_weight : Fn := fnOf N_by_weight.length [true] g_by_weight
abbrev N__law_sort : List Str := ["_law_thing"]
noncomputable def g__law_sort : G Fl := (gSeq (gIfS (gTru (gAsk (isTy .bool) (gSlot 0)))
  (gRet (gC (.str "truth")))
  gNext)
  (gSeq (gIfS (gTru (gAsk (isTy .int) (gSlot 0)))
  (gRet (gC (.str "number")))
  gNext)
  (gSeq (gIfS (gTru (gAsk (isTy .tuple) (gSlot 0)))
  (gRet (gC (.str "tuple")))
  gNext)
  (gRet (gIf (gTru (gAsk (isTy .list) (gSlot 0))) (gC (.str "list")) (gC (.str "other")))))))
noncomputable def fn__law_sort : Fn := fnOf N__law_sort.length [true] g__law_sort
abbrev N__law_same : List Str := ["_law_told", "_law_due", "_law_k", "_law_part"]
noncomputable def t1__law_same (rec : Fn) : G Bool := (Nd.gNot (gTru (gCallF rec (gAs [(gArg (Nd.gName 3)), (gArg (gVal (gFz (gOp2 ixD (gSlot 1) (gSlot 2)))))]))))
theorem t1__law_same_at (rec : Fn) (ρ : Nd.Env) : t1__law_same rec ρ = (Nd.gNot (gTru (gCallF rec (gAs [(gArg (Nd.gName 3)), (gArg (gVal (gFz (gOp2 ixD (gSlot 1) (gSlot 2)))))])))) ρ := rfl
noncomputable def e2__law_same (rec : Fn) : G Op := (gFz (Nd.gName 2))
theorem e2__law_same_at (rec : Fn) (ρ : Nd.Env) : e2__law_same rec ρ = (gFz (Nd.gName 2)) ρ := rfl
noncomputable def g__law_same (rec : Fn) : G Fl := (gSeq (gIfS (gT2 neD (gFz (gCallF fn__law_sort (gAs [(gLent 0)]))) (gFz (gCallF fn__law_sort (gAs [(gArg (Nd.gName 1))]))))
  (gRet (gC (.bool false)))
  gNext)
  (gSeq (gIfS (Nd.gNot (gTru (gAsk (fun d => isTy .tuple d || isTy .list d) (gSlot 0))))
  (gRet (gOp2 (cmpC eqD) (gSlot 0) (gSlot 1)))
  gNext)
  (gSeq (gIfS (gT2 neD (gFz (gOpN lenD (gOs [(gSlot 0)]))) (gFz (gOpN lenD (gOs [(gSlot 1)]))))
  (gRet (gC (.bool false)))
  gNext)
  (gRet (gOp2 (cmpC eqD) (gFz (gComp (gEnumS 0) (.tu [(.nm 2), (.nm 3)]) [2, 3] (t1__law_same rec) (e2__law_same rec))) (gFz (gLst [])))))))
noncomputable def fn__law_same : Nat → Fn
  | 0 => fun _ => .bad
  | k0 + 1 => fnOf N__law_same.length [true, true] (g__law_same (fn__law_same k0))
abbrev N_neighbours : List Str := ["net", "hand", "found", "tie"]
noncomputable def t1_neighbours : G Bool := (gT2 eqD (gFz (gOp2 ixD (gSlot 3) (oC (.int 0)))) (gSlot 1))
theorem t1_neighbours_at (ρ : Nd.Env) : t1_neighbours ρ = (gT2 eqD (gFz (gOp2 ixD (gSlot 3) (oC (.int 0)))) (gSlot 1)) ρ := rfl
noncomputable def e2_neighbours : G Op := (gFz (gOp2 ixD (gSlot 3) (oC (.int 1))))
theorem e2_neighbours_at (ρ : Nd.Env) : e2_neighbours ρ = (gFz (gOp2 ixD (gSlot 3) (oC (.int 1)))) ρ := rfl
noncomputable def t3_neighbours : G Bool := (gT2 eqD (gFz (gOp2 ixD (gSlot 3) (oC (.int 1)))) (gSlot 1))
theorem t3_neighbours_at (ρ : Nd.Env) : t3_neighbours ρ = (gT2 eqD (gFz (gOp2 ixD (gSlot 3) (oC (.int 1)))) (gSlot 1)) ρ := rfl
noncomputable def e4_neighbours : G Op := (gFz (gOp2 ixD (gSlot 3) (oC (.int 0))))
theorem e4_neighbours_at (ρ : Nd.Env) : e4_neighbours ρ = (gFz (gOp2 ixD (gSlot 3) (oC (.int 0)))) ρ := rfl
noncomputable def g_neighbours : G Fl := (gSeq (gAsg (.nm 2) (gFz (gOp2 addD (gFz (gComp (gItems (gFz (gOp2 ixD (gSlot 0) (oC (.int 1))))) (.nm 3) [3] t1_neighbours e2_neighbours)) (gFz (gComp (gItems (gFz (gOp2 ixD (gSlot 0) (oC (.int 1))))) (.nm 3) [3] t3_neighbours e4_neighbours)))))
  (gRet (gOpN sortDD (gOs [(gSlot 2)]))))
noncomputable def fn_neighbours : Fn := fnOf N_neighbours.length [true, true] g_neighbours
abbrev N__law_order : List Str := ["_law_net_here", "_law_left", "_law_found", "_law_first", "_law_tie"]
noncomputable def b1__law_order : G Fl := (gIfS (gT2 gtA (gFz (gOp2 ixD (gSlot 4) (oC (.int 2)))) (gFz (gOp2 ixD (gSlot 3) (oC (.int 2)))))
  (gSet 3 (Nd.gName 4))
  gNext)
theorem b1__law_order_at (ρ : Nd.Env) : b1__law_order ρ = (gIfS (gT2 gtA (gFz (gOp2 ixD (gSlot 4) (oC (.int 2)))) (gFz (gOp2 ixD (gSlot 3) (oC (.int 2)))))
  (gSet 3 (Nd.gName 4))
  gNext) ρ := rfl
noncomputable def b2__law_order : G Fl := (gSeq (gAsg (.nm 3) (gFz (gOp2 ixD (gSlot 1) (oC (.int 0)))))
  (gSeq (gFor (gItems (gSlot 1)) (.nm 4)
  b1__law_order)
  (gSeq (gDrop (gApp 2 (Nd.gName 3)))
  (gDrop (gRem 1 (gSlot 3))))))
theorem b2__law_order_at (ρ : Nd.Env) : b2__law_order ρ = (gSeq (gAsg (.nm 3) (gFz (gOp2 ixD (gSlot 1) (oC (.int 0)))))
  (gSeq (gFor (gItems (gSlot 1)) (.nm 4)
  b1__law_order)
  (gSeq (gDrop (gApp 2 (Nd.gName 3)))
  (gDrop (gRem 1 (gSlot 3)))))) ρ := rfl
noncomputable def t3__law_order : G Bool := (gT2 neD (gSlot 1) (gFz (gLst [])))
theorem t3__law_order_at (ρ : Nd.Env) : t3__law_order ρ = (gT2 neD (gSlot 1) (gFz (gLst []))) ρ := rfl
noncomputable def g__law_order : G Fl := (gSeq (gSet 1 (gOpN listD (gOs [(gFz (gOp2 ixD (gSlot 0) (oC (.int 1))))])))
  (gSeq (gSet 2 (gLst []))
  (gSeq (gWhile (fun ρ => 17) t3__law_order
  b2__law_order)
  (gRet (Nd.gName 2)))))
noncomputable def fn__law_order : Fn := fnOf N__law_order.length [true] g__law_order
abbrev N__law_near : List Str := ["_law_net_here", "_law_hand", "_law_found", "_law_one_here", "_law_other", "_law_weight"]
noncomputable def b1__law_near : G Fl := (gIfS (gT2 inD (gSlot 1) (gFz (gTup [(Nd.gName 3), (Nd.gName 4)])))
  (gDrop (gApp 2 (gIf (gT2 eqD (gSlot 1) (gSlot 3)) (Nd.gName 4) (Nd.gName 3))))
  gNext)
theorem b1__law_near_at (ρ : Nd.Env) : b1__law_near ρ = (gIfS (gT2 inD (gSlot 1) (gFz (gTup [(Nd.gName 3), (Nd.gName 4)])))
  (gDrop (gApp 2 (gIf (gT2 eqD (gSlot 1) (gSlot 3)) (Nd.gName 4) (Nd.gName 3))))
  gNext) ρ := rfl
noncomputable def g__law_near : G Fl := (gSeq (gSet 2 (gLst []))
  (gSeq (gFor (gItems (gFz (gOp2 ixD (gSlot 0) (oC (.int 1))))) (.tu [(.nm 3), (.nm 4), (.nm 5)])
  b1__law_near)
  (gRet (gOpN sortDD (gOs [(gSlot 2)])))))
noncomputable def fn__law_near : Fn := fnOf N__law_near.length [true, true] g__law_near
abbrev N_law : List Str := ["_law_script", "_law_cell", "_law_deck_here", "_law_net_here", "_law_turn", "_law_told", "_law_hand", "_law_rows"]
noncomputable def b1_law : G Fl := (gSeq (gSet 7 (gCallF fn_neighbours (gAs [(gArg (Nd.gName 3)), (gArg (Nd.gName 6))])))
  (gSeq (gIfS (Nd.gNot (gTru (gCallF (fn__law_same 4) (gAs [(gLent 7), (gArg (gVal (gFz (gCallF fn__law_near (gAs [(gArg (Nd.gName 3)), (gArg (Nd.gName 6))])))))]))))
  (gRet (gC (.bool false)))
  gNext)
  (gDrop (gApp 7 (gC (.str "zz"))))))
theorem b1_law_at (ρ : Nd.Env) : b1_law ρ = (gSeq (gSet 7 (gCallF fn_neighbours (gAs [(gArg (Nd.gName 3)), (gArg (Nd.gName 6))])))
  (gSeq (gIfS (Nd.gNot (gTru (gCallF (fn__law_same 4) (gAs [(gLent 7), (gArg (gVal (gFz (gCallF fn__law_near (gAs [(gArg (Nd.gName 3)), (gArg (Nd.gName 6))])))))]))))
  (gRet (gC (.bool false)))
  gNext)
  (gDrop (gApp 7 (gC (.str "zz")))))) ρ := rfl
noncomputable def b2_law : G Fl := (gSeq (gSet 5 (gCallF fn_by_weight (gAs [(gArg (Nd.gName 3))])))
  (gSeq (gIfS (Nd.gNot (gTru (gCallF (fn__law_same 4) (gAs [(gLent 5), (gArg (gVal (gFz (gCallF fn__law_order (gAs [(gArg (Nd.gName 3))])))))]))))
  (gRet (gC (.bool false)))
  gNext)
  (gSeq (gDrop (gApp 5 (gC (.int 1))))
  (gFor (gItems (gFz (gOp2 ixD (gSlot 3) (oC (.int 0))))) (.nm 6)
  b1_law))))
theorem b2_law_at (ρ : Nd.Env) : b2_law ρ = (gSeq (gSet 5 (gCallF fn_by_weight (gAs [(gArg (Nd.gName 3))])))
  (gSeq (gIfS (Nd.gNot (gTru (gCallF (fn__law_same 4) (gAs [(gLent 5), (gArg (gVal (gFz (gCallF fn__law_order (gAs [(gArg (Nd.gName 3))])))))]))))
  (gRet (gC (.bool false)))
  gNext)
  (gSeq (gDrop (gApp 5 (gC (.int 1))))
  (gFor (gItems (gFz (gOp2 ixD (gSlot 3) (oC (.int 0))))) (.nm 6)
  b1_law)))) ρ := rfl
noncomputable def b3_law : G Fl := (gSeq (gSet 2 (gCallF fn__law_deck (gAs [(gArg (Nd.gName 1)), (gArg (gC (.int 2)))])))
  (gSeq (gAsg (.nm 3) (gFz (gCallF fn__law_net (gAs [(gLent 2), (gArg (gC (.int 8)))]))))
  (gFor (gRng1 (gOs [(oC (.int 2))])) (.nm 4)
  b2_law)))
theorem b3_law_at (ρ : Nd.Env) : b3_law ρ = (gSeq (gSet 2 (gCallF fn__law_deck (gAs [(gArg (Nd.gName 1)), (gArg (gC (.int 2)))])))
  (gSeq (gAsg (.nm 3) (gFz (gCallF fn__law_net (gAs [(gLent 2), (gArg (gC (.int 8)))]))))
  (gFor (gRng1 (gOs [(oC (.int 2))])) (.nm 4)
  b2_law))) ρ := rfl
noncomputable def g_law : G Fl := (gSeq (gFor (gItems (gFz (gSl (gFz (gOp2 addD (gFz (gLst [(gC (.int 0))])) (gSlot 0))) (G.ret none) (gPart (oC (.int 12)))))) (.nm 1)
  b3_law)
  (gRet (gC (.bool true))))
noncomputable def fn_law : Fn := fnOf N_law.length [true] g_law
end Lw


namespace Lw
open PySem L2 Nd
/-! ### the deck -/
def dk (a b c : Int) : C := mkL [.int a, .int b, .int c]
def Dk (m : Int) (d : C) : Prop := ∃ a b c : Int, d = dk a b c ∧ 0 ≤ a ∧ 0 ≤ b ∧ b < 2147483579 ∧ 0 ≤ c ∧ c ≤ m
theorem Dk.mono {m m' : Int} {d : C} (h : Dk m d) (hm : m ≤ m') : Dk m' d := by
  obtain ⟨a, b, c, e, h1, h2, h3, h4, h5⟩ := h
  exact ⟨a, b, c, e, h1, h2, h3, h4, by omega⟩
theorem pick1 {a b c n : Int} (ha : 1 < a) (hn : 0 < n) (hn2 : n < 1073741824) : fn__law_pick [dk a b c, .val (.int n)] = .ok (.val (.int (a % n))) [dk (a / n) b c, .val (.int n)] := by
  unfold fn__law_pick g__law_pick dk
  rw [fnOf_eq]
  simp [ha, hn, hn2, atI, ixN]
theorem pick2 {a b c n : Int} (ha : ¬ 1 < a) (hb : 0 ≤ b ∧ b < 2147483579) (hc : 0 ≤ c ∧ c < 1000000) (hn : 0 < n) : fn__law_pick [dk a b c, .val (.int n)] = .ok (.val (.int ((((b + 15485867 * (c + 1)) ^ 5 % 2147483647 + 7919 * (c + 1)) ^ 3 % 2147483629 / 32) % n))) [dk a b (c + 1), .val (.int n)] := by
  have h1 : (b + 15485867 * (c + 1)).natAbs < 18446744073709551616 := by omega
  have h2 : ((b + 15485867 * (c + 1)) ^ 5 % 2147483647 + 7919 * (c + 1)).natAbs < 18446744073709551616 := by
    have p := Int.emod_nonneg ((b + 15485867 * (c + 1)) ^ 5) (by decide : (2147483647 : Int) ≠ 0)
    have q := Int.emod_lt_of_pos ((b + 15485867 * (c + 1)) ^ 5) (by decide : (0 : Int) < 2147483647)
    revert p q
    generalize (b + 15485867 * (c + 1)) ^ 5 % 2147483647 = z
    intro p q
    omega
  unfold fn__law_pick g__law_pick dk
  rw [fnOf_eq]
  simp [ha, hn, h1, h2, atI, ixN]
theorem pick_ok {m n : Int} {d : C} (h : Dk m d) (hm : m < 1000000) (hn : 0 < n) (hn2 : n < 1073741824) : ∃ (r : Int) (d' : C), fn__law_pick [d, .val (.int n)] = .ok (.val (.int r)) [d', .val (.int n)] ∧ Dk (m + 1) d' ∧ 0 ≤ r ∧ r < n := by
  obtain ⟨a, b, c, rfl, h1, h2, h3, h4, h5⟩ := h
  by_cases ha : 1 < a
  · exact ⟨_, _, pick1 ha hn hn2, ⟨a / n, b, c, rfl, Int.ediv_nonneg h1 (by omega), h2, h3, h4, by omega⟩, Int.emod_nonneg _ (by omega), Int.emod_lt_of_pos _ hn⟩
  · exact ⟨_, _, pick2 ha ⟨h2, h3⟩ ⟨h4, by omega⟩ hn, ⟨a, b, c + 1, rfl, h1, h2, h3, by omega, by omega⟩, Int.emod_nonneg _ (by omega), Int.emod_lt_of_pos _ hn⟩
theorem atI_mem {ds : List PyData} {r : Int} (h0 : 0 ≤ r) (h1 : r < ds.length) : ∃ x, atI ds r = some x ∧ x ∈ ds := by
  unfold atI ixN
  have hl : r.toNat < ds.length := by omega
  refine ⟨ds[r.toNat], ?_, List.getElem_mem hl⟩
  rw [if_pos h0, if_pos h1]
  exact List.getElem?_eq_getElem hl
theorem one_ok {m : Int} {d c : C} {ds : List PyData} (h : Dk m d) (hm : m < 1000000) (hc : shal c = some (.list ds)) (hn : ds ≠ []) (hl : ds.length < 1000000) : ∃ (x : PyData) (d' : C), fn__law_one [d, c] = .ok (.val x) [d', c] ∧ Dk (m + 1) d' ∧ x ∈ ds := by
  have hp : 0 < ds.length := List.length_pos_iff.mpr hn
  obtain ⟨r, d', e, hd, h0, h1⟩ := pick_ok h hm (n := (ds.length : Int)) (by omega) (by omega)
  obtain ⟨x, ex, hx⟩ := atI_mem h0 h1
  refine ⟨x, d', ?_, hd, hx⟩
  unfold fn__law_one g__law_one
  rw [fnOf_eq]
  simp [hc, e, ex]
theorem deck_ok (cell : Int) {t : Int} (ht : 0 ≤ t) : ∃ d, fn__law_deck [.val (.int cell), .val (.int t)] = .ok d [.val (.int cell), .val (.int t)] ∧ Dk t d := by
  have p := Int.emod_nonneg cell (by decide : (2147483579 : Int) ≠ 0)
  have q := Int.emod_lt_of_pos cell (by decide : (0 : Int) < 2147483579)
  by_cases h : 1000000000000000000 ≤ cell
  · refine ⟨dk (cell - 1000000000000000000) (cell % 2147483579) t, ?_, ⟨_, _, _, rfl, by omega, p, q, ht, by omega⟩⟩
    unfold fn__law_deck g__law_deck dk
    rw [fnOf_eq]
    simp [h]
  · refine ⟨dk 0 (cell % 2147483579) t, ?_, ⟨_, _, _, rfl, by omega, p, q, ht, by omega⟩⟩
    unfold fn__law_deck g__law_deck dk
    rw [fnOf_eq]
    simp [h]
theorem sizeL : (1000000 : Nat) ≤ sizeLine := by decide
theorem cutD_le {α : Type} (xs : List α) (lo hi : Option Int) : (cutD xs lo hi).length ≤ xs.length := by
  unfold cutD
  simp only [List.length_take, List.length_drop]
  omega
theorem cutD_mem {α : Type} {xs : List α} {lo hi : Option Int} {x : α} (h : x ∈ cutD xs lo hi) : x ∈ xs := by
  unfold cutD at h
  exact List.mem_of_mem_drop (List.mem_of_mem_take h)
theorem sIx_nat' (n d : Nat) {r : Int} (h0 : 0 ≤ r) : HT.sIx n d (some r) = min r.toNat n := by
  show (if r < 0 then _ else _) = _
  rw [if_neg (by omega)]
/-- what stands ahead of r, what stands behind: together no longer -/
theorem cut2 {α : Type} (xs : List α) {r : Int} (h0 : 0 ≤ r) : (cutD xs none (some r)).length + (cutD xs (some (r + 1)) none).length ≤ xs.length := by
  unfold cutD
  simp only [List.length_take, List.length_drop, sIx_nat' _ _ h0, sIx_nat' _ _ (show 0 ≤ r + 1 by omega), HT.sIx_none]
  omega
theorem cut2' {α : Type} (xs : List α) {r : Int} (h0 : 0 ≤ r) : (cutD xs none (some r)).length + (cutD xs (some r) none).length ≤ xs.length := by
  unfold cutD
  simp only [List.length_take, List.length_drop, sIx_nat' _ _ h0, HT.sIx_none]
  omega
theorem cut1 {α : Type} (xs : List α) {r : Int} (h0 : 0 ≤ r) : (cutD xs (some r) (some (r + 1))).length ≤ 1 := by
  unfold cutD
  simp only [List.length_take, List.length_drop, sIx_nat' _ _ h0, sIx_nat' _ _ (show 0 ≤ r + 1 by omega)]
  omega
theorem eqv_int {i j : Int} : PyData.eqv (.int i) (.int j) = decide (i = j) := by
  simp only [PyData.eqv]
  by_cases h : i = j <;> simp [h]
theorem eqD_int {i j : Int} : eqD (.int i) (.int j) = some (decide (i = j)) := by
  simp [eqD, PyData.depth, eqv_int]
end Lw

namespace Lw
open PySem L2 Nd
/-! ### drawn nets -/
abbrev Tie := Str × Str × Int
def tieD (t : Tie) : PyData := .tuple [.str t.1, .str t.2.1, .int t.2.2]
def netD (hs : List Str) (ts : List Tie) : PyData := .tuple [.tuple (hs.map .str), .tuple (ts.map tieD)]
def names : List Str := ["ann", "bo", "cy", "dee", "ed", "flo", "gus", "hal"]
def pairs : List Str → List (Str × Str)
  | [] => []
  | a :: r => r.map (fun b => (a, b)) ++ pairs r
def ends2 (t : Tie) : Str × Str := (t.1, t.2.1)
structure NetOk (most : Nat) (hs : List Str) (ts : List Tie) : Prop where
  pre : ∃ j, hs = names.take j ∧ 1 ≤ j ∧ j ≤ most
  sub : (ts.map ends2).Sublist (pairs hs)
  wt : ∀ t ∈ ts, 1 ≤ t.2.2 ∧ t.2.2 ≤ 100
  few : ts.length ≤ 16
theorem cutD_take {α : Type} (xs : List α) {r : Int} (h0 : 0 ≤ r) : cutD xs none (some r) = xs.take r.toNat := by
  unfold cutD
  rw [sIx_nat' _ _ h0, HT.sIx_none, List.drop_zero, Nat.sub_zero]
  rcases Nat.le_total r.toNat xs.length with h | h
  · rw [Nat.min_eq_left h]
  · rw [Nat.min_eq_right h, List.take_length, List.take_of_length_le h]
theorem cutD_drop {α : Type} (xs : List α) {r : Int} (h0 : 0 ≤ r) : cutD xs (some r) none = xs.drop r.toNat := by
  unfold cutD
  rw [sIx_nat' _ _ h0, HT.sIx_none]
  rcases Nat.le_total r.toNat xs.length with h | h
  · rw [Nat.min_eq_left h, List.take_of_length_le (by simp)]
  · rw [Nat.min_eq_right h, List.drop_length, List.drop_of_length_le h]; simp
/-- the inner loop -/
theorem net_in {M : Int} {hd kd : C} (a : Str) : ∀ (os : List Str) {m : Int} {d : C} {ts : List Tie} {x : Option C}, Dk m d → m + 5 * os.length < 900000 → ts.length ≤ 16 →
    ∃ (d' : C) (new : List Tie) (x' : Option C), forL none (.nm 6) b1__law_net (os.map .str) [some d, some (.val (.int M)), some hd, some (mkL (ts.map tieD)), some kd, some (.val (.str a)), x]
      = .ok .next [some d', some (.val (.int M)), some hd, some (mkL ((ts ++ new).map tieD)), some kd, some (.val (.str a)), x'] ∧ Dk (m + 5 * os.length) d' ∧ (new.map ends2).Sublist (os.map fun b => (a, b)) ∧ (∀ t ∈ new, 1 ≤ t.2.2 ∧ t.2.2 ≤ 100) ∧ (ts ++ new).length ≤ 16
  | [], m, d, ts, x, h, hm, hl => ⟨d, [], x, by simp [forL_nil], by simpa using h, by simp, by simp, by simpa using hl⟩
  | o :: os, m, d, ts, x, h, hm, hl => by
    simp only [List.length_cons, List.map_cons] at hm ⊢
    obtain ⟨r, d1, f1, hd1, r0, r1⟩ := pick_ok h (by omega) (n := 5) (by omega) (by omega)
    have szl := sizeL
    by_cases hc : r < 3 ∧ ts.length < 16
    · obtain ⟨z, d2, f2, hd2, hz⟩ := one_ok hd1 (by omega) (c := .val (.list [.int 3, .int 10, .int 100])) rfl (by simp) (by simp)
      obtain ⟨q, rfl, q0, q1⟩ : ∃ q : Int, z = .int q ∧ 3 ≤ q ∧ q ≤ 100 := by
        simp only [List.mem_cons, List.not_mem_nil, or_false] at hz
        rcases hz with rfl | rfl | rfl <;> exact ⟨_, rfl, by decide, by decide⟩
      obtain ⟨v, d3, f3, hd3, v0, v1⟩ := pick_ok hd2 (by omega) (n := q) (by omega) (by omega)
      obtain ⟨d', new, x', e, k1, k2, k3, k4⟩ := net_in (M := M) (hd := hd) (kd := kd) a os (ts := ts ++ [(a, o, 1 + v)]) (x := some (.val (.str o))) hd3 (by omega) (by simp; omega)
      refine ⟨d', (a, o, 1 + v) :: new, x', ?_, k1.mono (by omega), ?_, ?_, by simpa using k4⟩
      · rw [forL_cons]
        have a1 : ts.length < sizeLine := by omega
        have a2 : (ts.length : Int) < 16 := by omega
        simp only [List.map_append, List.map_cons, List.map_nil] at e
        simp [b1__law_net_at, f1, f2, f3, hc.1, a1, a2]
        simpa [tieD] using e
      · simpa [ends2] using k2
      · intro t ht
        rcases List.mem_cons.mp ht with q | q
        · subst q; exact ⟨by show 1 ≤ 1 + v; omega, by show 1 + v ≤ 100; omega⟩
        · exact k3 t q
    · obtain ⟨d', new, x', e, k1, k2, k3, k4⟩ := net_in (M := M) (hd := hd) (kd := kd) a os (ts := ts) (x := some (.val (.str o))) hd1 (by omega) hl
      refine ⟨d', new, x', ?_, k1.mono (by omega), ?_, k3, k4⟩
      · rw [forL_cons]
        by_cases h3 : r < 3
        · have a2 : ¬ (ts.length : Int) < 16 := by omega
          simp [b1__law_net_at, f1, h3, a2]
          simpa using e
        · simp [b1__law_net_at, f1, h3]
          simpa using e
      · exact k2.trans (List.sublist_cons_self _ _)
/-- the outer loop -/
theorem net_out {M : Int} (hs : List Str) : ∀ (rest pre : List Str) {m : Int} {d : C} {ts : List Tie} {x4 x5 x6 : Option C}, hs = pre ++ rest → hs.length ≤ 8 → Dk m d → m + 40 * rest.length < 900000 → ts.length ≤ 16 →
    ∃ (d' : C) (new : List Tie) (x4' x5' x6' : Option C), forL none (.tu [.nm 4, .nm 5]) b2__law_net (((rest.map PyData.str).zipIdx pre.length).map fun p => .tuple [.int p.2, p.1]) [some d, some (.val (.int M)), some (.val (.list (hs.map .str))), some (mkL (ts.map tieD)), x4, x5, x6]
      = .ok .next [some d', some (.val (.int M)), some (.val (.list (hs.map .str))), some (mkL ((ts ++ new).map tieD)), x4', x5', x6'] ∧ Dk (m + 40 * rest.length) d' ∧ (new.map ends2).Sublist (pairs rest) ∧ (∀ t ∈ new, 1 ≤ t.2.2 ∧ t.2.2 ≤ 100) ∧ (ts ++ new).length ≤ 16
  | [], pre, m, d, ts, x4, x5, x6, hh, h8, h, hm, hl => ⟨d, [], x4, x5, x6, by simp [forL_nil], by simpa using h, by simp [pairs], by simp, by simpa using hl⟩
  | a :: rest, pre, m, d, ts, x4, x5, x6, hh, h8, h, hm, hl => by
    simp only [List.length_cons, List.map_cons, List.zipIdx_cons] at hm ⊢
    have hr : rest.length ≤ 8 := by rw [hh] at h8; simp at h8; omega
    have hdrop : hs.drop (pre.length + 1) = rest := by rw [hh]; simp
    obtain ⟨d1, n1, x', f1, hd1, s1, w1, l1⟩ := net_in (M := M) (hd := .val (.list (hs.map .str))) (kd := .val (.int pre.length)) a rest (x := x6) h (by omega) hl
    obtain ⟨d2, n2, y4, y5, y6, f2, hd2, s2, w2, l2⟩ := net_out (M := M) hs rest (pre ++ [a]) (ts := ts ++ n1) (x4 := some (.val (.int pre.length))) (x5 := some (.val (.str a))) (x6 := x') (by rw [hh]; simp) h8 hd1 (by omega) l1
    refine ⟨d2, n1 ++ n2, y4, y5, y6, ?_, hd2.mono (by omega), ?_, ?_, by simpa using l2⟩
    · rw [forL_cons]
      have c1 : cutD (hs.map PyData.str) (some ((pre.length : Int) + 1)) none = rest.map .str := by
        rw [cutD_drop _ (by omega), ← List.map_drop, show ((pre.length : Int) + 1).toNat = pre.length + 1 by omega, hdrop]
      simp [b2__law_net_at, c1]
      rw [f1]
      simp only [List.length_append, List.length_cons, List.length_nil] at f2
      simpa using f2
    · simp only [pairs, List.map_append]
      exact s1.append s2
    · intro t ht
      exact (List.mem_append.mp ht).elim (w1 t) (w2 t)
theorem net_ok {m : Int} {d : C} {M : Nat} (h : Dk m d) (hm : m < 800000) (h1 : 1 ≤ M) (h8 : M ≤ 8) :
    ∃ (hs : List Str) (ts : List Tie) (d' : C), fn__law_net [d, .val (.int M)] = .ok (.val (netD hs ts)) [d', .val (.int M)] ∧ Dk (m + 400) d' ∧ NetOk M hs ts := by
  obtain ⟨r, d1, f1, hd1, r0, r1⟩ := pick_ok h (by omega) (n := (M : Int)) (by omega) (by omega)
  have hlen : (names.take (1 + r).toNat).length ≤ 8 := by simp [names]; omega
  obtain ⟨d2, new, y4, y5, y6, f2, hd2, s2, w2, l2⟩ := net_out (M := (M : Int)) (names.take (1 + r).toNat) (names.take (1 + r).toNat) [] (ts := []) (x4 := none) (x5 := none) (x6 := none) rfl hlen hd1 (by omega) (by simp)
  refine ⟨names.take (1 + r).toNat, new, d2, ?_, hd2.mono (by omega), ⟨⟨(1 + r).toNat, rfl, by omega, by omega⟩, s2, w2, by simpa using l2⟩⟩
  have c1 : cutD ([.str "ann", .str "bo", .str "cy", .str "dee", .str "ed", .str "flo", .str "gus", .str "hal"] : List PyData) none (some (1 + r)) = (names.take (1 + r).toNat).map .str := by
    rw [cutD_take _ (by omega), List.map_take]; rfl
  unfold fn__law_net g__law_net
  rw [fnOf_eq]
  have szl := sizeL
  have a1 : szOk ((names.take (1 + r).toNat).map PyData.str) = true := by
    unfold szOk
    rw [List.length_map]
    exact decide_eq_true (by omega)
  simp only [List.length_nil, List.map_nil, List.nil_append] at f2
  simp [f1, c1, enumJ, a1, -List.map_take, -List.length_take]
  unfold enumP
  rw [f2]
  simp [netD]
end Lw

namespace Lw
open PySem L2 Nd
/-! ### texts compared, lists of texts -/
theorem eqv_str {x y : Str} : PyData.eqv (.str x) (.str y) = decide (x = y) := by
  simp only [PyData.eqv]
  by_cases h : x = y <;> simp [h]
theorem eqD_str {x y : Str} : eqD (.str x) (.str y) = some (decide (x = y)) := by simp [eqD, PyData.depth, eqv_str]
theorem depthAll_strs (xs : List Str) : PyData.depthAll (xs.map .str) = 0 := by
  induction xs with
  | nil => rfl
  | cons x r ih => simp [PyData.depthAll, PyData.depth, ih]
theorem any_strs (xs : List Str) (s : Str) : ((xs.map PyData.str).any fun z => PyData.eqv z (.str s)) = decide (s ∈ xs) := by
  induction xs with
  | nil => rfl
  | cons x r ih =>
    rw [List.map_cons, List.any_cons, ih, eqv_str]
    by_cases h : x = s
    · simp [h]
    · have h' : ¬ s = x := fun e => h e.symm
      simp [h, h']
theorem neD_str {x : PyData} {h : Str} (hd : x.depth ≤ 64) : neD x (.str h) = some (!PyData.eqv x (.str h)) := by
  simp only [neD, eqD]
  have e0 : PyData.depth (.str h) = 0 := by simp [PyData.depth]
  rw [if_pos (decide_eq_true ⟨hd, by omega⟩)]
  rfl
theorem neD_int {i j : Int} : neD (.int i) (.int j) = some (!decide (i = j)) := by simp [neD, eqD_int]
theorem inD_strs (xs : List Str) (s : Str) : inD (.str s) (.list (xs.map .str)) = some (decide (s ∈ xs)) := by
  simp only [inD, depthAll_strs, any_strs]
  simp [PyData.depth]
theorem inD_two (s a b : Str) : inD (.str s) (.tuple [.str a, .str b]) = some (decide (a = s) || decide (b = s)) := by
  simp [inD, PyData.depth, PyData.depthAll, eqv_str]
theorem sortOk_strs (xs : List Str) : sortOk (xs.map .str) = true := by
  unfold sortOk alikeB sortB
  simp only [Bool.and_eq_true, Bool.or_eq_true, List.all_eq_true, decide_eq_true_eq, List.mem_map, forall_exists_index, and_imp, forall_apply_eq_imp_iff₂]
  exact ⟨fun _ _ _ _ => by simp [PySem.W.alike], .inr fun _ _ => rfl, fun _ _ => by simp [PyData.depth]⟩
theorem sortL_strs (xs : List Str) : sortL (xs.map .str) = (sortS xs).map .str := by
  unfold sortL sortS
  rw [List.map_mergeSort (r := leS) (s := PySem.W.dataLe false fun d => d)]
  intro a _ b _
  show leS a b = !PySem.W.dataLt (.str b) (.str a)
  rw [PySem.W.dataLt_str, PySem.W.not_lt_str, Bool.eq_iff_iff, leS_iff, decide_eq_true_iff]
theorem sorted_strs {xs : List Str} (h : xs.length < 64) : sortDD [.list (xs.map .str)] = some (mkL ((sortS xs).map .str)) := by
  unfold sortDD seqD
  simp only [Option.bind_some]
  rw [if_pos (sortOk_strs xs), sortL_strs]
theorem sortS_perm {xs ys : List Str} (h : xs.Perm ys) : sortS xs = sortS ys := by
  have p : (sortS xs).Perm (sortS ys) := (List.mergeSort_perm xs leS).trans (h.trans (List.mergeSort_perm ys leS).symm)
  exact p.eq_of_pairwise (le := fun a b => leS a b = true) (fun a b _ _ x y => leS_antisymm x y) (List.pairwise_mergeSort leS_trans leS_total xs) (List.pairwise_mergeSort leS_trans leS_total ys)
theorem mem_sortS {xs : List Str} {s : Str} : s ∈ sortS xs ↔ s ∈ xs := (List.mergeSort_perm xs leS).mem_iff
theorem length_sortS (xs : List Str) : (sortS xs).length = xs.length := (List.mergeSort_perm xs leS).length_eq
/-! ### neighbours -/
def nbrL (ts : List Tie) (h : Str) : List Str := (ts.filter fun t => decide (t.1 = h)).map (·.2.1) ++ (ts.filter fun t => decide (t.2.1 = h)).map (·.1)
def nbrP (ts : List Tie) (h : Str) : List Str := sortS (nbrL ts h)
theorem nbr_c1 {net : C} {h : Str} {x2 : Option C} : ∀ (ts : List Tie), compL none (.nm 3) [3] t1_neighbours e2_neighbours (ts.map tieD) [some net, some (.val (.str h)), x2, none] = .ok ((ts.filter fun t => decide (t.1 = h)).map fun t => .str t.2.1) [some net, some (.val (.str h)), x2, none]
  | [] => by simp [compL_nil]
  | t :: ts => by
    rw [List.map_cons, compL_cons]
    by_cases e : t.1 = h
    · simp [t1_neighbours_at, e2_neighbours_at, tieD, atI, ixN, eqD_str, e, wipeE, nbr_c1 ts]
    · simp [t1_neighbours_at, e2_neighbours_at, tieD, atI, ixN, eqD_str, e, wipeE, nbr_c1 ts]
theorem nbr_c2 {net : C} {h : Str} {x2 : Option C} : ∀ (ts : List Tie), compL none (.nm 3) [3] t3_neighbours e4_neighbours (ts.map tieD) [some net, some (.val (.str h)), x2, none] = .ok ((ts.filter fun t => decide (t.2.1 = h)).map fun t => .str t.1) [some net, some (.val (.str h)), x2, none]
  | [] => by simp [compL_nil]
  | t :: ts => by
    rw [List.map_cons, compL_cons]
    by_cases e : t.2.1 = h
    · simp [t3_neighbours_at, e4_neighbours_at, tieD, atI, ixN, eqD_str, e, wipeE, nbr_c2 ts]
    · simp [t3_neighbours_at, e4_neighbours_at, tieD, atI, ixN, eqD_str, e, wipeE, nbr_c2 ts]
theorem nbr_ok {hs : List Str} {ts : List Tie} {h : Str} (hf : ts.length ≤ 16) : fn_neighbours [.val (netD hs ts), .val (.str h)] = .ok (mkL ((nbrP ts h).map .str)) [.val (netD hs ts), .val (.str h)] := by
  have szl := sizeL
  have l1 := List.length_filter_le (fun t : Tie => decide (t.1 = h)) ts
  have l2 := List.length_filter_le (fun t : Tie => decide (t.2.1 = h)) ts
  have a1 : (ts.filter fun t => decide (t.1 = h)).length + (ts.filter fun t => decide (t.2.1 = h)).length ≤ sizeLine := by omega
  have a2 : (nbrL ts h).length < 64 := by simp [nbrL]; omega
  have e0 : (ts.filter fun t => decide (t.1 = h)).map (fun t => PyData.str t.2.1) ++ (ts.filter fun t => decide (t.2.1 = h)).map (fun t => PyData.str t.1) = (nbrL ts h).map .str := by simp [nbrL]; rfl
  have c1 := nbr_c1 (net := .val (netD hs ts)) (h := h) (x2 := none) ts
  have c2 := nbr_c2 (net := .val (netD hs ts)) (h := h) (x2 := none) ts
  unfold netD at c1 c2
  unfold fn_neighbours g_neighbours netD
  rw [fnOf_eq]
  simp [atI, ixN, plainAt, wipeE, restore, c1, c2, a1]
  rw [e0, sorted_strs a2]
  simp [nbrP]
/-! ### the law's own -/
def nearL (ts : List Tie) (h : Str) : List Str := ts.filterMap fun t => if h = t.1 then some t.2.1 else if h = t.2.1 then some t.1 else none
theorem near_loop {net : C} {h : Str} : ∀ (ts : List Tie) {fs : List Str} {x3 x4 x5 : Option C}, fs.length + ts.length < 1000 → ∃ y3 y4 y5 : Option C, forL none (.tu [.nm 3, .nm 4, .nm 5]) b1__law_near (ts.map tieD) [some net, some (.val (.str h)), some (mkL (fs.map .str)), x3, x4, x5]
    = .ok .next [some net, some (.val (.str h)), some (mkL ((fs ++ nearL ts h).map .str)), y3, y4, y5]
  | [], fs, x3, x4, x5, hl => ⟨x3, x4, x5, by simp [forL_nil, nearL]⟩
  | t :: ts, fs, x3, x4, x5, hl => by
    have szl := sizeL
    simp only [List.length_cons] at hl
    have a1 : fs.length < sizeLine := by omega
    have step : ∀ (new : List Str), new.length ≤ 1 → nearL (t :: ts) h = new ++ nearL ts h → b1__law_near [some net, some (.val (.str h)), some (mkL (fs.map .str)), some (.val (.str t.1)), some (.val (.str t.2.1)), some (.val (.int t.2.2))] = .ok .next [some net, some (.val (.str h)), some (mkL ((fs ++ new).map .str)), some (.val (.str t.1)), some (.val (.str t.2.1)), some (.val (.int t.2.2))] →
        ∃ y3 y4 y5 : Option C, forL none (.tu [.nm 3, .nm 4, .nm 5]) b1__law_near ((t :: ts).map tieD) [some net, some (.val (.str h)), some (mkL (fs.map .str)), x3, x4, x5] = .ok .next [some net, some (.val (.str h)), some (mkL ((fs ++ nearL (t :: ts) h).map .str)), y3, y4, y5] := fun new hn en eb => by
      obtain ⟨y3, y4, y5, e⟩ := near_loop (net := net) (h := h) ts (fs := fs ++ new) (x3 := some (.val (.str t.1))) (x4 := some (.val (.str t.2.1))) (x5 := some (.val (.int t.2.2))) (by simp; omega)
      refine ⟨y3, y4, y5, ?_⟩
      rw [List.map_cons, forL_cons]
      simp only [tieD, asg_tu, asgs_cons, asgs_nil, asg_nm]
      simp [-List.map_append]
      rw [eb, lp_next, e, en, List.append_assoc]
    by_cases e1 : h = t.1
    · refine step [t.2.1] (by simp) (by simp [nearL, e1]) ?_
      rw [b1__law_near_at]
      simp [inD_two, eqD_str, ← e1, a1]
    · by_cases e2 : h = t.2.1
      · refine step [t.1] (by simp) (by simp [nearL, e1, ← e2]) ?_
        rw [b1__law_near_at]
        simp [inD_two, eqD_str, e1, ← e2, a1]
      · refine step [] (by simp) (by simp [nearL, e1, e2]) ?_
        have e1' : ¬ t.1 = h := fun e => e1 e.symm
        have e2' : ¬ t.2.1 = h := fun e => e2 e.symm
        rw [b1__law_near_at]
        simp [inD_two, e1', e2']
theorem near_ok {hs : List Str} {ts : List Tie} {h : Str} (hf : ts.length ≤ 16) : fn__law_near [.val (netD hs ts), .val (.str h)] = .ok (mkL ((sortS (nearL ts h)).map .str)) [.val (netD hs ts), .val (.str h)] := by
  obtain ⟨y3, y4, y5, e⟩ := near_loop (net := .val (netD hs ts)) (h := h) ts (fs := []) (x3 := none) (x4 := none) (x5 := none) (by simp; omega)
  have a2 : (nearL ts h).length < 64 := by
    have := List.length_filterMap_le (fun t : Tie => if h = t.1 then some t.2.1 else if h = t.2.1 then some t.1 else none) ts
    unfold nearL
    omega
  unfold netD at e
  unfold fn__law_near g__law_near netD
  rw [fnOf_eq]
  simp only [List.map_nil, List.nil_append] at e
  simp [atI, ixN, e, sorted_strs a2]
theorem near_perm {h : Str} : ∀ {ts : List Tie}, (∀ t ∈ ts, t.1 ≠ t.2.1) → (nearL ts h).Perm (nbrL ts h)
  | [], _ => by simp [nearL, nbrL]
  | t :: ts, hne => by
    have ih := near_perm (h := h) (ts := ts) fun u hu => hne u (List.mem_cons_of_mem _ hu)
    have n0 := hne t List.mem_cons_self
    by_cases e1 : t.1 = h
    · have e2 : ¬ t.2.1 = h := fun e => n0 (e1.trans e.symm)
      have : nearL (t :: ts) h = t.2.1 :: nearL ts h := by simp [nearL, e1]
      rw [this]
      have : nbrL (t :: ts) h = t.2.1 :: nbrL ts h := by simp [nbrL, e1, e2]
      rw [this]
      exact ih.cons _
    · have e1' : ¬ h = t.1 := fun e => e1 e.symm
      by_cases e2 : t.2.1 = h
      · have : nearL (t :: ts) h = t.1 :: nearL ts h := by simp [nearL, e1', e2]
        rw [this]
        have : nbrL (t :: ts) h = (ts.filter fun t => decide (t.1 = h)).map (·.2.1) ++ t.1 :: (ts.filter fun t => decide (t.2.1 = h)).map (·.1) := by simp [nbrL, e1, e2]
        rw [this]
        exact (ih.cons _).trans List.perm_middle.symm
      · have e2' : ¬ h = t.2.1 := fun e => e2 e.symm
        have : nearL (t :: ts) h = nearL ts h := by simp [nearL, e1', e2']
        rw [this]
        have : nbrL (t :: ts) h = nbrL ts h := by simp [nbrL, e1, e2]
        rw [this]
        exact ih
theorem near_eq {ts : List Tie} {h : Str} (hne : ∀ t ∈ ts, t.1 ≠ t.2.1) : sortS (nearL ts h) = nbrP ts h := sortS_perm (near_perm hne)
theorem pairs_ne : ∀ {hs : List Str}, hs.Nodup → ∀ p ∈ pairs hs, p.1 ≠ p.2 ∧ p.1 ∈ hs ∧ p.2 ∈ hs
  | [], _, p, hp => by simp [pairs] at hp
  | a :: r, hn, p, hp => by
    simp only [pairs, List.mem_append, List.mem_map] at hp
    rcases hp with ⟨b, hb, rfl⟩ | hp
    · exact ⟨fun e => (List.nodup_cons.mp hn).1 (by have q : a = b := e; rw [q]; exact hb), List.mem_cons_self, List.mem_cons_of_mem _ hb⟩
    · obtain ⟨h1, h2, h3⟩ := pairs_ne (List.nodup_cons.mp hn).2 p hp
      exact ⟨h1, List.mem_cons_of_mem _ h2, List.mem_cons_of_mem _ h3⟩
theorem names_nodup : names.Nodup := by decide +kernel
theorem NetOk.nodup {M : Nat} {hs : List Str} {ts : List Tie} (h : NetOk M hs ts) : hs.Nodup := by
  obtain ⟨j, e, _⟩ := h.pre
  rw [e]
  exact names_nodup.sublist (List.take_sublist _ _)
theorem NetOk.ne {M : Nat} {hs : List Str} {ts : List Tie} (h : NetOk M hs ts) : ∀ t ∈ ts, t.1 ≠ t.2.1 := fun t ht =>
  (pairs_ne h.nodup (ends2 t) (h.sub.subset (List.mem_map_of_mem ht))).1
/-! ### rising -/
def sLt (a b : Str) : Prop := a.cps.toList < b.cps.toList
def prLt (p q : Str × Str) : Prop := sLt p.1 q.1 ∨ (p.1 = q.1 ∧ sLt p.2 q.2)
instance (a b : Str) : Decidable (sLt a b) := by unfold sLt; infer_instance
theorem pairs_fst {q : Str × Str} : ∀ {r : List Str}, q ∈ pairs r → q.1 ∈ r
  | [], hq => by simp [pairs] at hq
  | c :: r, hq => by
    simp only [pairs, List.mem_append, List.mem_map] at hq
    rcases hq with ⟨d, hd, rfl⟩ | hq
    · exact List.mem_cons_self
    · exact List.mem_cons_of_mem _ (pairs_fst hq)
theorem pairs_rising : ∀ {hs : List Str}, hs.Pairwise sLt → (pairs hs).Pairwise prLt
  | [], _ => List.Pairwise.nil
  | a :: r, h => by
    obtain ⟨h1, h2⟩ := List.pairwise_cons.mp h
    simp only [pairs]
    rw [List.pairwise_append]
    refine ⟨?_, pairs_rising h2, fun p hp q hq => ?_⟩
    · rw [List.pairwise_map]
      exact h2.imp fun h => .inr ⟨rfl, h⟩
    · obtain ⟨b, hb, rfl⟩ := List.mem_map.mp hp
      exact .inl (h1 _ (pairs_fst hq))
theorem names_rising : names.Pairwise sLt := by decide +kernel
theorem NetOk.hrising {M : Nat} {hs : List Str} {ts : List Tie} (h : NetOk M hs ts) : hs.Pairwise sLt := by
  obtain ⟨j, e, _⟩ := h.pre
  rw [e]
  exact names_rising.sublist (List.take_sublist _ _)
theorem NetOk.rising {M : Nat} {hs : List Str} {ts : List Tie} (h : NetOk M hs ts) : ts.Pairwise fun t u => prLt (ends2 t) (ends2 u) := by
  have := (pairs_rising h.hrising).sublist h.sub
  exact List.pairwise_map.mp this
end Lw

namespace Lw
open PySem L2 Nd
/-! ### the law's comparison: alike is alike -/
theorem sort_ok (x : PyData) : ∃ z : Str, fn__law_sort [.val x] = .ok (.val (.str z)) [.val x] := by
  unfold fn__law_sort g__law_sort
  simp only [fnOf_eq]
  cases x with
  | none => exact ⟨"other", by simp [isTy]⟩
  | bool b => exact ⟨"truth", by simp [isTy]⟩
  | int i => exact ⟨"number", by simp [isTy]⟩
  | str s => exact ⟨"other", by simp [isTy]⟩
  | list ds => exact ⟨"list", by simp [isTy]⟩
  | tuple ds => exact ⟨"tuple", by simp [isTy]⟩
  | dict _ => exact ⟨"other", by simp [isTy]⟩
/-- nothing but lists and tuples of at most a million items, to depth k -/
def Nice : Nat → PyData → Prop
  | 0, .list _ => False
  | 0, .tuple _ => False
  | _, .dict _ => False
  | k + 1, .list ds => ds.length ≤ 1000000 ∧ ∀ x ∈ ds, Nice k x
  | k + 1, .tuple ds => ds.length ≤ 1000000 ∧ ∀ x ∈ ds, Nice k x
  | _, _ => True
theorem same_comp {rec : Fn} {x y : Option C} {full : List PyData} : ∀ (ds pre : List PyData), full = pre ++ ds → y = some (.val (.list full)) ∨ y = some (.val (.tuple full)) → (∀ d ∈ ds, rec [.val d, .val d] = .ok (.val (.bool true)) [.val d, .val d]) →
    compL none (.tu [.nm 2, .nm 3]) [2, 3] (t1__law_same rec) (e2__law_same rec) ((ds.zipIdx pre.length).map fun p => .tuple [.int p.2, p.1]) [x, y, none, none] = .ok [] [x, y, none, none]
  | [], pre, hf, hy, hr => by simp [compL_nil]
  | d :: ds, pre, hf, hy, hr => by
    have ih := same_comp (rec := rec) (x := x) (y := y) (full := full) ds (pre ++ [d]) (by rw [hf]; simp) hy fun q hq => hr q (List.mem_cons_of_mem _ hq)
    have h1 := hr d List.mem_cons_self
    have hlt : pre.length < full.length := by rw [hf]; simp
    have hat : atI full (pre.length : Int) = some d := by
      unfold atI ixN
      rw [if_pos (by omega), if_pos (by omega)]
      show full[(pre.length : Int).toNat]? = _
      rw [Int.toNat_natCast, hf, List.getElem?_append_right (Nat.le_refl _)]
      simp
    simp only [List.length_append, List.length_cons, List.length_nil] at ih
    rw [List.zipIdx_cons, List.map_cons, compL_cons]
    rcases hy with rfl | rfl
    · simp [t1__law_same_at, hat, h1, wipeE]
      simpa using ih
    · simp [t1__law_same_at, hat, h1, wipeE]
      simpa using ih
theorem eqv_refl_flat {x : PyData} (h1 : ∀ ds, x ≠ .list ds) (h2 : ∀ ds, x ≠ .tuple ds) (h3 : ∀ ds, x ≠ .dict ds) : PyData.eqv x x = true := by
  cases x with
  | none => rfl
  | bool b => simp [PyData.eqv]
  | int i => simp [PyData.eqv]
  | str s => simp [PyData.eqv]
  | list ds => exact absurd rfl (h1 ds)
  | tuple ds => exact absurd rfl (h2 ds)
  | dict ds => exact absurd rfl (h3 ds)
theorem same_ok : ∀ (K : Nat) {x : PyData} {k : Nat}, Nice k x → k < K → fn__law_same K [.val x, .val x] = .ok (.val (.bool true)) [.val x, .val x]
  | 0, x, k, h, hk => nomatch hk
  | K + 1, x, k, h, hk => by
    show fnOf _ _ (g__law_same (fn__law_same K)) _ = _
    unfold g__law_same
    rw [fnOf_eq]
    obtain ⟨z, hz⟩ := sort_ok x
    have e4 : PyData.depth (.str z) ≤ 64 := by simp [PyData.depth]
    have e5 : eqD (.list []) (.list []) = some true := by simp [eqD, PyData.depth, PyData.depthAll, PyData.eqv, PyData.eqvAll]
    have szl := sizeL
    have cmp : ∀ {ds : List PyData}, (x = .list ds ∨ x = .tuple ds) → ds.length ≤ 1000000 ∧ (∃ j, k = j + 1 ∧ ∀ y ∈ ds, Nice j y) → szOk ds = true ∧ compL none (.tu [.nm 2, .nm 3]) [2, 3] (t1__law_same (fn__law_same K)) (e2__law_same (fn__law_same K)) (enumP ds) [some (.val x), some (.val x), none, none] = .ok [] [some (.val x), some (.val x), none, none] := fun {ds} hx hd => by
      obtain ⟨hl, j, rfl, hj⟩ := hd
      refine ⟨decide_eq_true (by omega), ?_⟩
      exact same_comp ds [] rfl (by rcases hx with q | q <;> simp [q]) fun d hd => same_ok K (hj d hd) (by omega)
    cases x with
    | list ds =>
      have hd : ds.length ≤ 1000000 ∧ (∃ j, k = j + 1 ∧ ∀ y ∈ ds, Nice j y) := by
        cases k with
        | zero => simp [Nice] at h
        | succ j => simp only [Nice] at h; exact ⟨h.1, j, rfl, h.2⟩
      obtain ⟨a, b⟩ := cmp (.inl rfl) hd
      simp [hz, neD_str e4, eqv_str, isTy, neD_int, enumJ, a, plainAt, wipeE, restore, b, e5, mkL]
    | tuple ds =>
      have hd : ds.length ≤ 1000000 ∧ (∃ j, k = j + 1 ∧ ∀ y ∈ ds, Nice j y) := by
        cases k with
        | zero => simp [Nice] at h
        | succ j => simp only [Nice] at h; exact ⟨h.1, j, rfl, h.2⟩
      obtain ⟨a, b⟩ := cmp (.inr rfl) hd
      simp [hz, neD_str e4, eqv_str, isTy, neD_int, enumJ, a, plainAt, wipeE, restore, b, e5, mkL]
    | dict ds => cases k <;> simp [Nice] at h
    | none => simp [hz, neD_str e4, eqv_str, isTy, eqD, PyData.depth, eqv_refl_flat]
    | bool q => simp [hz, neD_str e4, eqv_str, isTy, eqD, PyData.depth, eqv_refl_flat]
    | int q => simp [hz, neD_str e4, eqv_str, isTy, eqD, PyData.depth, eqv_refl_flat]
    | str q => simp [hz, neD_str e4, eqv_str, isTy, eqD, PyData.depth, eqv_refl_flat]
theorem same_compS {rec : Fn} {own : List PyData} {y : Option C} {full : List PyData} : ∀ (ds pre : List PyData), full = pre ++ ds → y = some (.val (.list full)) ∨ y = some (.val (.tuple full)) → (∀ d ∈ ds, rec [.val d, .val d] = .ok (.val (.bool true)) [.val d, .val d]) →
    compL (some (0, mkL own)) (.tu [.nm 2, .nm 3]) [2, 3] (t1__law_same rec) (e2__law_same rec) ((ds.zipIdx pre.length).map fun p => .tuple [.int p.2, p.1]) [some (mkL own), y, none, none] = .ok [] [some (mkL own), y, none, none]
  | [], pre, hf, hy, hr => compS_nil rfl
  | d :: ds, pre, hf, hy, hr => by
    have ih := same_compS (rec := rec) (own := own) (y := y) (full := full) ds (pre ++ [d]) (by rw [hf]; simp) hy fun q hq => hr q (List.mem_cons_of_mem _ hq)
    have h1 := hr d List.mem_cons_self
    have hlt : pre.length < full.length := by rw [hf]; simp
    have hat : atI full (pre.length : Int) = some d := by
      unfold atI ixN
      rw [if_pos (by omega), if_pos (by omega)]
      show full[(pre.length : Int).toNat]? = _
      rw [Int.toNat_natCast, hf, List.getElem?_append_right (Nat.le_refl _)]
      simp
    simp only [List.length_append, List.length_cons, List.length_nil] at ih
    rw [List.zipIdx_cons, List.map_cons, compS_cons rfl]
    rcases hy with rfl | rfl
    · simp [t1__law_same_at, hat, h1, wipeE]
      simpa using ih
    · simp [t1__law_same_at, hat, h1, wipeE]
      simpa using ih
/-- the first one a list of one's own -/
theorem same_okL (K : Nat) {ds : List PyData} {k : Nat} (h : Nice k (.list ds)) (hk : k ≤ K) : fn__law_same (K + 1) [mkL ds, .val (.list ds)] = .ok (.val (.bool true)) [mkL ds, .val (.list ds)] := by
  show fnOf _ _ (g__law_same (fn__law_same K)) _ = _
  unfold g__law_same
  rw [fnOf_eq]
  have hz : fn__law_sort [mkL ds] = .ok (.val (.str "list")) [mkL ds] := by
    unfold fn__law_sort g__law_sort
    rw [fnOf_eq]
    simp [isTy]
  have hz2 : fn__law_sort [.val (.list ds)] = .ok (.val (.str "list")) [.val (.list ds)] := by
    unfold fn__law_sort g__law_sort
    rw [fnOf_eq]
    simp [isTy]
  have e4 : PyData.depth (.str "list") ≤ 64 := by simp [PyData.depth]
  have e5 : eqD (.list []) (.list []) = some true := by simp [eqD, PyData.depth, PyData.depthAll, PyData.eqv, PyData.eqvAll]
  have szl := sizeL
  obtain ⟨hl, j, rfl, hj⟩ : ds.length ≤ 1000000 ∧ (∃ j, k = j + 1 ∧ ∀ y ∈ ds, Nice j y) := by
    cases k with
    | zero => simp [Nice] at h
    | succ j => simp only [Nice] at h; exact ⟨h.1, j, rfl, h.2⟩
  have a : szOk ds = true := decide_eq_true (by omega)
  have b : compL (some (0, mkL ds)) (.tu [.nm 2, .nm 3]) [2, 3] (t1__law_same (fn__law_same K)) (e2__law_same (fn__law_same K)) (enumP ds) [some (mkL ds), some (.val (.list ds)), none, none] = .ok [] [some (mkL ds), some (.val (.list ds)), none, none] :=
    same_compS ds [] rfl (.inl rfl) fun d hd => same_ok K (hj d hd) (by omega)
  simp [hz, hz2, neD_str e4, eqv_str, isTy, neD_int, enumJ, a, plainAt, wipeE, restore, b, e5]
end Lw

namespace Lw
open PySem L2 Nd
/-! ### the order of ties -/
theorem str_ext {a b : Str} (h : a.cps.toList = b.cps.toList) : a = b := by
  cases a; cases b
  simp only at h
  congr 1
  exact Array.ext' h
theorem sLt_irrefl (a : Str) : ¬ sLt a a := List.lt_irrefl _
theorem sLt_trans {a b c : Str} (h : sLt a b) (k : sLt b c) : sLt a c := List.lt_trans h k
theorem sLt_asymm {a b : Str} (h : sLt a b) : ¬ sLt b a := fun k => sLt_irrefl _ (sLt_trans h k)
theorem sLt_tri (a b : Str) : sLt a b ∨ a = b ∨ sLt b a := by
  by_cases h : a.cps.toList < b.cps.toList
  · exact .inl h
  · by_cases k : b.cps.toList < a.cps.toList
    · exact .inr (.inr k)
    · exact .inr (.inl (str_ext (List.le_antisymm (List.not_lt.mp k) (List.not_lt.mp h))))
theorem prLt_irrefl (p : Str × Str) : ¬ prLt p p := fun h => h.elim (sLt_irrefl _) fun k => sLt_irrefl _ k.2
theorem prLt_trans {p q r : Str × Str} (h : prLt p q) (k : prLt q r) : prLt p r := by
  rcases h with h | ⟨e, h⟩ <;> rcases k with k | ⟨e', k⟩
  · exact .inl (sLt_trans h k)
  · exact .inl (e' ▸ h)
  · exact .inl (e ▸ k)
  · exact .inr ⟨e.trans e', sLt_trans h k⟩
theorem prLt_tri (p q : Str × Str) : prLt p q ∨ p = q ∨ prLt q p := by
  rcases sLt_tri p.1 q.1 with h | h | h
  · exact .inl (.inl h)
  · rcases sLt_tri p.2 q.2 with k | k | k
    · exact .inl (.inr ⟨h, k⟩)
    · exact .inr (.inl (Prod.ext h k))
    · exact .inr (.inr (.inr ⟨h.symm, k⟩))
  · exact .inr (.inr (.inl h))
/-- ahead in the order -/
def keyLt (t u : Tie) : Prop := u.2.2 < t.2.2 ∨ (t.2.2 = u.2.2 ∧ prLt (ends2 t) (ends2 u))
theorem tie_ext {t u : Tie} (h : ends2 t = ends2 u) (k : t.2.2 = u.2.2) : t = u := by
  obtain ⟨a, b, w⟩ := t
  obtain ⟨a', b', w'⟩ := u
  simp only [ends2, Prod.mk.injEq] at h k
  rw [h.1, h.2, k]
theorem keyLt_irrefl (t : Tie) : ¬ keyLt t t := fun h => h.elim (fun k => Int.lt_irrefl _ k) fun k => prLt_irrefl _ k.2
theorem keyLt_trans {t u v : Tie} (h : keyLt t u) (k : keyLt u v) : keyLt t v := by
  rcases h with h | ⟨e, h⟩ <;> rcases k with k | ⟨e', k⟩
  · exact .inl (by omega)
  · exact .inl (by omega)
  · exact .inl (by omega)
  · exact .inr ⟨e.trans e', prLt_trans h k⟩
theorem keyLt_tri (t u : Tie) : keyLt t u ∨ t = u ∨ keyLt u t := by
  rcases Int.lt_trichotomy t.2.2 u.2.2 with h | h | h
  · exact .inr (.inr (.inl h))
  · rcases prLt_tri (ends2 t) (ends2 u) with k | k | k
    · exact .inl (.inr ⟨h, k⟩)
    · exact .inr (.inl (tie_ext k h))
    · exact .inr (.inr (.inr ⟨h.symm, k⟩))
  · exact .inl (.inl h)
instance (p q : Str × Str) : Decidable (prLt p q) := by unfold prLt sLt; infer_instance
instance (t u : Tie) : Decidable (keyLt t u) := by unfold keyLt; infer_instance
/-- the order of ties -/
def keyLe (t u : Tie) : Bool := !decide (keyLt u t)
theorem keyLe_iff {t u : Tie} : keyLe t u = true ↔ keyLt t u ∨ t = u := by
  unfold keyLe
  rw [Bool.not_eq_true', decide_eq_false_iff_not]
  constructor
  · intro h
    rcases keyLt_tri t u with k | k | k
    · exact .inl k
    · exact .inr k
    · exact absurd k h
  · rintro (h | h) k
    · exact keyLt_irrefl _ (keyLt_trans h k)
    · subst h; exact keyLt_irrefl _ k
theorem keyLe_trans (a b c : Tie) (h : keyLe a b = true) (k : keyLe b c = true) : keyLe a c = true := by
  rw [keyLe_iff] at *
  rcases h with h | h <;> rcases k with k | k
  · exact .inl (keyLt_trans h k)
  · subst k; exact .inl h
  · subst h; exact .inl k
  · subst h; exact .inr k
theorem keyLe_total (a b : Tie) : (keyLe a b || keyLe b a) = true := by
  rw [Bool.or_eq_true, keyLe_iff, keyLe_iff]
  rcases keyLt_tri a b with h | h | h
  · exact .inl (.inl h)
  · exact .inl (.inr h)
  · exact .inr (.inl h)
theorem keyLe_antisymm {a b : Tie} (h : keyLe a b = true) (k : keyLe b a = true) : a = b := by
  rw [keyLe_iff] at *
  rcases h with h | h
  · rcases k with k | k
    · exact absurd (keyLt_trans h k) (keyLt_irrefl _)
    · exact k.symm
  · exact h
def order (ts : List Tie) : List Tie := ts.mergeSort keyLe
theorem order_perm (ts : List Tie) : (order ts).Perm ts := List.mergeSort_perm ts keyLe
theorem order_sorted (ts : List Tie) : (order ts).Pairwise fun a b => keyLe a b = true := List.pairwise_mergeSort keyLe_trans keyLe_total ts
theorem order_unique {ts us : List Tie} (h : us.Perm ts) (k : us.Pairwise fun a b => keyLe a b = true) : order ts = us :=
  ((order_perm ts).trans h.symm).eq_of_pairwise (le := fun a b => keyLe a b = true) (fun a b _ _ x y => keyLe_antisymm x y) (order_sorted ts) k
/-! ### the program's key -/
def keyD (t : Tie) : PyData := .tuple [.int (-t.2.2), .str t.1, .str t.2.1]
theorem dlt_str {a b : Str} : PySem.W.dataLt (.str a) (.str b) = decide (sLt a b) := by rw [PySem.W.dataLt_str]; rfl
theorem dlt_key (t u : Tie) : PySem.W.dataLt (keyD t) (keyD u) = decide (keyLt t u) := by
  unfold keyD
  have a1 : PySem.W.alike (.int (-t.2.2)) (.int (-u.2.2)) = true := by simp [PySem.W.alike]
  have a2 : ∀ {x y : Str}, PySem.W.alike (.str x) (.str y) = true := by simp [PySem.W.alike]
  have e0 : PyProof.Rows.lexLt PyProof.Rows.itemOrd (PySem.W.keyToksAll []) (PySem.W.keyToksAll []) = false := PyProof.Rows.lex_irrefl _
  rw [PySem.W.dataLt_tuple, PySem.W.dataLt_cons a1, PySem.W.dataLt_cons a2, PySem.W.dataLt_cons a2, e0, PySem.W.dataLt_int, dlt_str, dlt_str, eqv_int, eqv_str, eqv_str]
  rw [Bool.eq_iff_iff]
  by_cases h1 : t.2.2 = u.2.2
  · have g1 : -t.2.2 = -u.2.2 := by omega
    by_cases h2 : t.1 = u.1
    · by_cases h3 : t.2.1 = u.2.1
      · simp [keyLt, prLt, ends2, g1, h1, h2, h3, sLt_irrefl]
      · simp [keyLt, prLt, ends2, g1, h1, h2, h3, sLt_irrefl]
    · simp [keyLt, prLt, ends2, g1, h1, h2]
  · have g1 : ¬ -t.2.2 = -u.2.2 := by omega
    simp only [g1, decide_false, Bool.false_eq_true, if_false, decide_eq_true_eq, keyLt, h1, false_and, or_false]
    omega
theorem order_tieD (ts : List Tie) (f : PyData → Option PyData) (hf : ∀ t, f (tieD t) = some (keyD t)) : (ts.map tieD).mergeSort (PySem.W.dataLe false (kOf f)) = (order ts).map tieD := by
  unfold order
  rw [List.map_mergeSort (r := keyLe) (s := PySem.W.dataLe false (kOf f))]
  intro a _ b _
  show keyLe a b = !PySem.W.dataLt (kOf f (tieD b)) (kOf f (tieD a))
  have e : ∀ t, kOf f (tieD t) = keyD t := fun t => by unfold kOf; rw [hf]; rfl
  rw [e, e, dlt_key]
  rfl
theorem alike_key (t u : Tie) : PySem.W.alike (keyD t) (keyD u) = true := by simp [keyD, PySem.W.alike, PySem.W.alikeAll]
theorem sortOk_key (ts : List Tie) : sortOk (ts.map keyD) = true := by
  unfold sortOk alikeB sortB
  simp only [Bool.and_eq_true, Bool.or_eq_true, List.all_eq_true, decide_eq_true_eq, List.mem_map, forall_exists_index, and_imp, forall_apply_eq_imp_iff₂]
  exact ⟨fun _ _ _ _ => alike_key _ _, .inl fun _ _ => rfl, fun _ _ => by simp [keyD, PyData.depth, PyData.depthAll]⟩
theorem byw_ok {hs : List Str} {ts : List Tie} : fn_by_weight [.val (netD hs ts)] = .ok (mkL ((order ts).map tieD)) [.val (netD hs ts)] := by
  have hk : ∀ t : Tie, kTup (kCons (kNeg (kIx ((2 : Nat) : Int) kName)) (kCons (kIx ((0 : Nat) : Int) kName) (kCons (kIx ((1 : Nat) : Int) kName) kNil))) (tieD t) = some (keyD t) := fun t => by
    simp [kTup, kCons, kNeg, kIx, kName, kNil, tieD, atI, ixN, keyD]
  have e1 : sortKD (kTup (kCons (kNeg (kIx ((2 : Nat) : Int) kName)) (kCons (kIx ((0 : Nat) : Int) kName) (kCons (kIx ((1 : Nat) : Int) kName) kNil)))) (.tuple (ts.map tieD)) = some (mkL ((order ts).map tieD)) := by
    unfold sortKD seqD
    simp only [Option.bind_some]
    rw [if_pos, order_tieD ts _ hk]
    simp only [Bool.and_eq_true, List.all_eq_true, List.mem_map, forall_exists_index, and_imp, forall_apply_eq_imp_iff₂]
    refine ⟨fun t _ => by rw [hk]; rfl, ?_, fun t _ => by simp [tieD, Nd.flatB, Nd.flatBs]⟩
    have : (ts.map tieD).map (kOf (kTup (kCons (kNeg (kIx ((2 : Nat) : Int) kName)) (kCons (kIx ((0 : Nat) : Int) kName) (kCons (kIx ((1 : Nat) : Int) kName) kNil))))) = ts.map keyD := by
      rw [List.map_map]
      apply List.map_congr_left
      intro t _
      show kOf _ (tieD t) = keyD t
      unfold kOf
      rw [hk]
      rfl
    rw [this]
    exact sortOk_key ts
  unfold fn_by_weight g_by_weight netD
  rw [fnOf_eq]
  simp [atI, ixN]
  have e2 : sortKD (kTup (kCons (kNeg (kIx 2 kName)) (kCons (kIx 0 kName) (kCons (kIx 1 kName) kNil)))) (.tuple (ts.map tieD)) = some (mkL ((order ts).map tieD)) := e1
  rw [e2]
  simp
end Lw

namespace Lw
open PySem L2 Nd
/-! ### the law's order -/
def fm (a : Tie) : List Tie → Tie
  | [] => a
  | t :: r => fm (if a.2.2 < t.2.2 then t else a) r
theorem fm_ok : ∀ (r : List Tie) (a : Tie), (∀ t ∈ r, prLt (ends2 a) (ends2 t)) → r.Pairwise (fun t u => prLt (ends2 t) (ends2 u)) → fm a r ∈ a :: r ∧ ∀ t ∈ a :: r, keyLe (fm a r) t = true
  | [], a, _, _ => ⟨by simp [fm], fun t ht => by
    simp only [List.mem_singleton] at ht
    subst ht
    exact keyLe_iff.mpr (.inr rfl)⟩
  | t :: r, a, ha, hp => by
    obtain ⟨h1, h2⟩ := List.pairwise_cons.mp hp
    simp only [fm]
    by_cases hw : a.2.2 < t.2.2
    · rw [if_pos hw]
      obtain ⟨k1, k2⟩ := fm_ok r t h1 h2
      refine ⟨List.mem_cons_of_mem _ k1, fun x hx => ?_⟩
      rcases List.mem_cons.mp hx with e | hx
      · subst e
        exact keyLe_trans _ _ _ (k2 t List.mem_cons_self) (keyLe_iff.mpr (.inl (.inl hw)))
      · exact k2 x hx
    · rw [if_neg hw]
      obtain ⟨k1, k2⟩ := fm_ok r a (fun x hx => ha x (List.mem_cons_of_mem _ hx)) h2
      refine ⟨?_, fun x hx => ?_⟩
      · rcases List.mem_cons.mp k1 with e | k1
        · rw [e]; exact List.mem_cons_self
        · exact List.mem_cons_of_mem _ (List.mem_cons_of_mem _ k1)
      · rcases List.mem_cons.mp hx with e | hx
        · subst e; exact k2 x List.mem_cons_self
        · rcases List.mem_cons.mp hx with e | hx
          · subst e
            refine keyLe_trans _ _ _ (k2 a List.mem_cons_self) (keyLe_iff.mpr (.inl ?_))
            by_cases hq : a.2.2 = x.2.2
            · exact .inr ⟨hq, ha x List.mem_cons_self⟩
            · exact .inl (by omega)
          · exact k2 x (List.mem_cons_of_mem _ hx)
theorem eqv_tie (t u : Tie) : PyData.eqv (tieD t) (tieD u) = decide (t = u) := by
  obtain ⟨a, b, w⟩ := t
  obtain ⟨a', b', w'⟩ := u
  rw [Bool.eq_iff_iff]
  simp [tieD, PyData.eqv, PyData.eqvAll]
theorem place_tie (m : Tie) : ∀ (ts : List Tie), m ∈ ts → ∃ j, SeqAt.dataPlace (ts.map tieD) (tieD m) = some j ∧ (ts.map tieD).eraseIdx j = (ts.erase m).map tieD
  | [], h => nomatch h
  | t :: ts, h => by
    unfold SeqAt.dataPlace
    rw [List.map_cons, List.findIdx?_cons]
    by_cases e : t = m
    · subst e
      exact ⟨0, by simp [eqv_tie], by simp⟩
    · have hm : m ∈ ts := (List.mem_cons.mp h).resolve_left fun z => e z.symm
      obtain ⟨j, h1, h2⟩ := place_tie m ts hm
      unfold SeqAt.dataPlace at h1
      refine ⟨j + 1, by simp [eqv_tie, e, h1], ?_⟩
      rw [List.eraseIdx_cons_succ, h2, List.erase_cons_tail (by simpa using e)]
      rfl
theorem remOk_ties (ts : List Tie) (m : Tie) : remOk (ts.map tieD) (tieD m) = true := by
  unfold remOk
  have h1 : ∀ t, (tieD t).plain = true := fun t => by simp [tieD, PyData.plain, PyData.plainAll]
  have h2 : PyData.plainAll (ts.map tieD) = true := by
    induction ts with
    | nil => simp [PyData.plainAll]
    | cons t ts ih => simp [PyData.plainAll, h1, ih]
  rw [h1, h2]
  simp [tieD, PyData.depth, PyData.depthAll]
theorem rem_tie {ts : List Tie} {m : Tie} (h : m ∈ ts) : remD (ts.map tieD) (tieD m) = some ((ts.erase m).map tieD) := by
  obtain ⟨j, h1, h2⟩ := place_tie m ts h
  unfold remD
  rw [if_pos (remOk_ties ts m), h1]
  simp [h2]
/-- the inner loop -/
theorem ord_in {net : Option C} {left : List Tie} {found : Option C} (r : List Tie) (a : Tie) (x4 : Option C) :
    ∃ y4, forL (some (1, mkL (left.map tieD))) (.nm 4) b1__law_order (r.map tieD) [net, some (mkL (left.map tieD)), found, some (.val (tieD a)), x4] = .ok .next [net, some (mkL (left.map tieD)), found, some (.val (tieD (fm a r))), y4] := by
  induction r generalizing a x4 with
  | nil => exact ⟨x4, forS_nil rfl⟩
  | cons t r ih =>
    obtain ⟨y4, e⟩ := ih (if a.2.2 < t.2.2 then t else a) (some (.val (tieD t)))
    refine ⟨y4, ?_⟩
    rw [List.map_cons, forS_cons rfl]
    by_cases hw : a.2.2 < t.2.2
    · rw [if_pos hw] at e
      simp [b1__law_order_at, tieD, atI, ixN, gtA, ltA, hw, fm] at e ⊢
      exact e
    · rw [if_neg hw] at e
      simp [b1__law_order_at, tieD, atI, ixN, gtA, ltA, hw, fm] at e ⊢
      exact e
theorem depth_ties (us : List Tie) : PyData.depthAll (us.map tieD) ≤ 1 := by
  induction us with
  | nil => simp [PyData.depthAll]
  | cons u us ih =>
    have h1 : (tieD u).depth = 1 := by simp [tieD, PyData.depth, PyData.depthAll]
    simp only [List.map_cons, PyData.depthAll, h1]
    omega
structure OI (ts : List Tie) (net : Option C) (n : Nat) (left found : List Tie) : Prop where
  len : left.length = n
  ris : left.Pairwise fun t u => prLt (ends2 t) (ends2 u)
  perm : (found ++ left).Perm ts
  srt : found.Pairwise fun a b => keyLe a b = true
  ahead : ∀ a ∈ found, ∀ b ∈ left, keyLe a b = true
theorem lorder_ok {hs : List Str} {ts : List Tie} (hr : ts.Pairwise fun t u => prLt (ends2 t) (ends2 u)) (hl : ts.length ≤ 16) : fn__law_order [.val (netD hs ts)] = .ok (mkL ((order ts).map tieD)) [.val (netD hs ts)] := by
  have szl := sizeL
  have w := whl_inv (t := t3__law_order) (gb := b2__law_order)
    (I := fun n ρ => ∃ left found x3 x4, ρ = [some (.val (netD hs ts)), some (mkL (left.map tieD)), some (mkL (found.map tieD)), x3, x4] ∧ OI ts (some (.val (netD hs ts))) n left found)
    (J := fun ρ => ∃ x3 x4, ρ = [some (.val (netD hs ts)), some (mkL []), some (mkL ((order ts).map tieD)), x3, x4])
    (fun n ρ ⟨left, found, x3, x4, e, o⟩ => by
      subst e
      cases left with
      | nil =>
        left
        refine ⟨_, ?_, x3, x4, rfl⟩
        have : order ts = found := order_unique (by simpa using o.perm) o.srt
        rw [this]
        simp [t3__law_order_at, neD, eqD, PyData.depth, PyData.depthAll, PyData.eqv, PyData.eqvAll]
      | cons t r =>
        right
        obtain ⟨p1, p2⟩ := List.pairwise_cons.mp o.ris
        obtain ⟨m1, m2⟩ := fm_ok r t p1 p2
        have hlen : found.length + (t :: r).length = ts.length := by rw [← List.length_append]; exact o.perm.length_eq
        have d1 := depth_ties (t :: r)
        obtain ⟨y4, e⟩ := ord_in (net := some (.val (netD hs ts))) (left := t :: r) (found := some (mkL (found.map tieD))) (t :: r) t x4
        have ef : fm t (t :: r) = fm t r := by simp [fm]
        rw [ef] at e
        refine ⟨[some (.val (netD hs ts)), some (mkL ((t :: r).map tieD)), some (mkL (found.map tieD)), x3, x4], .next, [some (.val (netD hs ts)), some (mkL (((t :: r).erase (fm t r)).map tieD)), some (mkL ((found ++ [fm t r]).map tieD)), some (.val (tieD (fm t r))), y4], n - 1, ?_, ?_, .inl rfl, ?_, ⟨(t :: r).erase (fm t r), found ++ [fm t r], _, _, rfl, ?_⟩⟩
        · have d2 : PyData.depth (.list ((t :: r).map tieD)) ≤ 64 := by simp only [PyData.depth]; omega
          have d3 : PyData.depth (.list []) ≤ 64 := by simp [PyData.depth, PyData.depthAll]
          have e1 : neD (.list ((t :: r).map tieD)) (.list []) = some true := by
            simp only [neD, eqD]
            rw [if_pos (decide_eq_true ⟨d2, d3⟩)]
            simp [PyData.eqv, PyData.eqvAll]
          rw [t3__law_order_at]
          simp [-List.map_cons, e1]
        · have hlt : found.length < sizeLine := by have := hlen; simp at this; omega
          have e3 : (t :: r).map tieD = tieD t :: r.map tieD := rfl
          have e4 : atI ((t :: r).map tieD) 0 = some (tieD t) := by simp [atI, ixN]
          rw [b2__law_order_at]
          simp [-List.map_cons, e4, e, hlt, rem_tie m1]
          rfl
        · have := o.len; simp at this; omega
        · have hm := o.perm
          refine ⟨by have := o.len; rw [List.length_erase_of_mem m1]; simp at this ⊢; omega, o.ris.sublist List.erase_sublist, ?_, ?_, ?_⟩
          · rw [List.append_assoc]
            exact (List.Perm.append_left _ (List.perm_cons_erase m1).symm).trans o.perm
          · rw [List.pairwise_append]
            refine ⟨o.srt, List.pairwise_singleton _ _, fun a ha b hb => ?_⟩
            rw [List.mem_singleton.mp hb]
            exact o.ahead a ha _ m1
          · intro a ha b hb
            have hb' := List.mem_of_mem_erase hb
            rcases List.mem_append.mp ha with ha | ha
            · exact o.ahead a ha b hb'
            · rw [List.mem_singleton.mp ha]
              exact m2 b hb')
    17 ts.length [some (.val (netD hs ts)), some (mkL (ts.map tieD)), some (mkL []), none, none] (by omega) ⟨ts, [], none, none, rfl, rfl, hr, by simp, List.Pairwise.nil, fun _ h => nomatch h⟩
  obtain ⟨ρ', e, x3, x4, rfl⟩ := w
  unfold fn__law_order g__law_order
  rw [fnOf_eq]
  unfold netD at e ⊢
  simp [atI, ixN, e]
/-! ### the law -/
theorem nice_ties (ts : List Tie) (hl : ts.length ≤ 16) : Nice 2 (.list (ts.map tieD)) := by
  simp only [Nice, List.length_map]
  refine ⟨by omega, fun x hx => ?_⟩
  obtain ⟨t, _, rfl⟩ := List.mem_map.mp hx
  simp only [tieD, Nice]
  refine ⟨by simp, fun q hq => ?_⟩
  simp only [List.mem_cons, List.not_mem_nil, or_false] at hq
  rcases hq with rfl | rfl | rfl <;> simp [Nice]
theorem nice_strs (xs : List Str) (hl : xs.length ≤ 1000) : Nice 1 (.list (xs.map .str)) := by
  simp only [Nice, List.length_map]
  refine ⟨by omega, fun x hx => ?_⟩
  obtain ⟨t, _, rfl⟩ := List.mem_map.mp hx
  simp [Nice]
theorem nbrP_len (ts : List Tie) (h : Str) : (nbrP ts h).length ≤ 2 * ts.length := by
  unfold nbrP
  rw [length_sortS]
  unfold nbrL
  have l1 := List.length_filter_le (fun t : Tie => decide (t.1 = h)) ts
  have l2 := List.length_filter_le (fun t : Tie => decide (t.2.1 = h)) ts
  simp only [List.length_append, List.length_map]
  omega
theorem b1_ok {x y z k w r : Option C} {hs : List Str} {ts : List Tie} (hf : ts.length ≤ 16) (hne : ∀ t ∈ ts, t.1 ≠ t.2.1) (h : Str) :
    ∃ r' , b1_law [x, y, z, some (.val (netD hs ts)), k, w, some (.val (.str h)), r] = .ok .next [x, y, z, some (.val (netD hs ts)), k, w, some (.val (.str h)), r'] := by
  have szl := sizeL
  have e1 := nbr_ok (hs := hs) (h := h) hf
  have e2 := near_ok (hs := hs) (h := h) hf
  rw [near_eq hne] at e2
  have hl := nbrP_len ts h
  have e3 := same_okL 3 (nice_strs (nbrP ts h) (by omega)) (by omega)
  have hlt : (nbrP ts h).length < sizeLine := by omega
  refine ⟨some (mkL ((nbrP ts h).map .str ++ [.str "zz"])), ?_⟩
  rw [b1_law_at]
  simp [e1, e2, e3, hlt]
theorem b2_ok {x y z k w g r : Option C} {hs : List Str} {ts : List Tie} (hf : ts.length ≤ 16) (hne : ∀ t ∈ ts, t.1 ≠ t.2.1) (hr : ts.Pairwise fun t u => prLt (ends2 t) (ends2 u)) :
    ∃ w' g' r' , b2_law [x, y, z, some (.val (netD hs ts)), k, w, g, r] = .ok .next [x, y, z, some (.val (netD hs ts)), k, w', g', r'] := by
  have szl := sizeL
  have e1 := byw_ok (hs := hs) (ts := ts)
  have e2 := lorder_ok (hs := hs) hr hf
  have hlen : (order ts).length = ts.length := (order_perm ts).length_eq
  have e3 := same_okL 3 (nice_ties (order ts) (by omega)) (by omega)
  have hlt : (order ts).length < sizeLine := by omega
  obtain ⟨ρ', e4, g', r'', rfl, _⟩ := for_inv (p := .nm 6) (gb := b1_law) (I := fun ds ρ => ∃ g r, ρ = [x, y, z, some (.val (netD hs ts)), k, some (mkL ((order ts).map tieD ++ [.int 1])), g, r] ∧ ∀ d ∈ ds, ∃ h, d = .str h)
    (fun d ds ρ ⟨g, r, e, hd⟩ => by
      subst e
      obtain ⟨h, rfl⟩ := hd d List.mem_cons_self
      obtain ⟨r', e5⟩ := b1_ok (x := x) (y := y) (z := z) (k := k) (w := some (mkL ((order ts).map tieD ++ [.int 1]))) (r := r) hf hne h
      exact ⟨_, .next, _, rfl, e5, .inl rfl, _, _, rfl, fun q hq => hd q (List.mem_cons_of_mem _ hq)⟩)
    (hs.map .str) [x, y, z, some (.val (netD hs ts)), k, some (mkL ((order ts).map tieD ++ [.int 1])), g, r] ⟨g, r, rfl, fun d hd => by obtain ⟨q, _, rfl⟩ := List.mem_map.mp hd; exact ⟨q, rfl⟩⟩
  refine ⟨some (mkL ((order ts).map tieD ++ [.int 1])), g', r'', ?_⟩
  rw [b2_law_at]
  have e6 : atI [PyData.tuple (hs.map .str), .tuple (ts.map tieD)] 0 = some (.tuple (hs.map .str)) := by simp [atI, ixN]
  simp [e1, e2, e3, hlt]
  unfold netD at e4 ⊢
  simp [e6, e4]
theorem b3_ok {x d n k w g r : Option C} (c : Int) : ∃ d' n' k' w' g' r', b3_law [x, some (.val (.int c)), d, n, k, w, g, r] = .ok .next [x, some (.val (.int c)), d', n', k', w', g', r'] := by
  obtain ⟨d0, f0, hd0⟩ := deck_ok c (t := 2) (by omega)
  obtain ⟨hs, ts, d1, f1, hd1, N⟩ := net_ok hd0 (by omega) (M := 8) (by omega) (by omega)
  have hr := N.rising
  obtain ⟨ρ', e4, k', w', g', r', rfl⟩ := for_inv (p := .nm 4) (gb := b2_law) (I := fun ds ρ => ∃ k w g r, ρ = [x, some (.val (.int c)), some d1, some (.val (netD hs ts)), k, w, g, r])
    (fun q ds ρ ⟨k, w, g, r, e⟩ => by
      subst e
      obtain ⟨w', g', r', e5⟩ := b2_ok (x := x) (y := some (.val (.int c))) (z := some d1) (k := some (.val q)) (w := w) (g := g) (r := r) N.few N.ne hr
      exact ⟨_, .next, _, rfl, e5, .inl rfl, _, _, _, _, rfl⟩)
    (rng 2 0) [x, some (.val (.int c)), some d1, some (.val (netD hs ts)), k, w, g, r] ⟨_, _, _, _, rfl⟩
  refine ⟨some d1, some (.val (netD hs ts)), k', w', g', r', ?_⟩
  have c8 : ((8 : Nat) : Int) = 8 := rfl
  rw [c8] at f1
  rw [b3_law_at]
  simp [f0, f1, rng1, e4]
theorem good (ns : List Int) (hn : ns.length ≤ 63) : ∃ cs, fn_law [.val (.list (ns.map .int))] = .ok (.val (.bool true)) cs := by
  have e0 : cutD (.int 0 :: ns.map PyData.int) none (some 12) = ((0 :: ns).take 12).map .int := by
    rw [cutD_take _ (by omega), List.map_take]; rfl
  obtain ⟨ρ', e, y1, y2, y3, y4, y5, y6, y7, rfl, _⟩ := for_inv (p := .nm 1) (gb := b3_law) (I := fun ds ρ => ∃ a b c d e f g, ρ = [some (.val (.list (ns.map .int))), a, b, c, d, e, f, g] ∧ ∀ q ∈ ds, ∃ i : Int, q = .int i)
    (fun q ds ρ ⟨a, b, c, d, e, f, g, er, hq⟩ => by
      subst er
      obtain ⟨i, rfl⟩ := hq q List.mem_cons_self
      obtain ⟨d', n', k', w', g', r', e5⟩ := b3_ok (x := some (.val (.list (ns.map .int)))) (d := b) (n := c) (k := d) (w := e) (g := f) (r := g) i
      exact ⟨_, .next, _, rfl, e5, .inl rfl, _, _, _, _, _, _, _, rfl, fun z hz => hq z (List.mem_cons_of_mem _ hz)⟩)
    (((0 :: ns).take 12).map .int) [some (.val (.list (ns.map .int))), none, none, none, none, none, none, none] ⟨_, _, _, _, _, _, _, rfl, fun q hq => by obtain ⟨z, _, rfl⟩ := List.mem_map.mp hq; exact ⟨z, rfl⟩⟩
  have szl := sizeL
  have a1 : 1 + ns.length ≤ sizeLine := by omega
  refine ⟨[.val (.list (ns.map .int))], ?_⟩
  unfold fn_law g_law
  rw [fnOf_eq]
  simp [a1, e0, -List.map_take, -List.take_succ_cons]
  rw [e]
  simp
end Lw

namespace Lw
open PySem L2 Nd
instance tfI : TF := ⟨[((("by_weight" : Str), none), (("by_weight" : Str) ++ ".<locals>.") ++ "<lambda>")]⟩
def top (i : Nat) : Stmt := PySem.Challenge.pw_nearpair_k02_neighbours_and_the_order_of.main.body.getD i (.Pass ⟨0, 0, 0, 0⟩)
abbrev st__law_deck : Stmt := top 4
abbrev ps__law_deck : List Str := ["_law_cell", "_law_turn"]
theorem sc__law_deck : FnScope N__law_deck ps__law_deck (defScope st__law_deck) := ⟨rfl, rfl, rfl, by decide +kernel, rfl, by decide +kernel, by decide +kernel⟩
abbrev st__law_pick : Stmt := top 5
abbrev ps__law_pick : List Str := ["_law_deck_here", "_law_size"]
theorem sc__law_pick : FnScope N__law_pick ps__law_pick (defScope st__law_pick) := ⟨rfl, rfl, rfl, by decide +kernel, rfl, by decide +kernel, by decide +kernel⟩
abbrev st__law_one : Stmt := top 6
abbrev ps__law_one : List Str := ["_law_deck_here", "_law_some"]
theorem sc__law_one : FnScope N__law_one ps__law_one (defScope st__law_one) := ⟨rfl, rfl, rfl, by decide +kernel, rfl, by decide +kernel, by decide +kernel⟩
abbrev st__law_net : Stmt := top 9
abbrev ps__law_net : List Str := ["_law_deck_here", "_law_most"]
theorem sc__law_net : FnScope N__law_net ps__law_net (defScope st__law_net) := ⟨rfl, rfl, rfl, by decide +kernel, rfl, by decide +kernel, by decide +kernel⟩
abbrev st_by_weight : Stmt := top 2
abbrev ps_by_weight : List Str := ["net"]
theorem sc_by_weight : FnScope N_by_weight ps_by_weight (defScope st_by_weight) := ⟨rfl, rfl, rfl, by decide +kernel, rfl, by decide +kernel, by decide +kernel⟩
abbrev st__law_sort : Stmt := top 7
abbrev ps__law_sort : List Str := ["_law_thing"]
theorem sc__law_sort : FnScope N__law_sort ps__law_sort (defScope st__law_sort) := ⟨rfl, rfl, rfl, by decide +kernel, rfl, by decide +kernel, by decide +kernel⟩
abbrev st__law_same : Stmt := top 8
abbrev ps__law_same : List Str := ["_law_told", "_law_due"]
theorem sc__law_same : FnScope N__law_same ps__law_same (defScope st__law_same) := ⟨rfl, rfl, rfl, by decide +kernel, rfl, by decide +kernel, by decide +kernel⟩
abbrev st_neighbours : Stmt := top 1
abbrev ps_neighbours : List Str := ["net", "hand"]
theorem sc_neighbours : FnScope N_neighbours ps_neighbours (defScope st_neighbours) := ⟨rfl, rfl, rfl, by decide +kernel, rfl, by decide +kernel, by decide +kernel⟩
abbrev st__law_order : Stmt := top 11
abbrev ps__law_order : List Str := ["_law_net_here"]
theorem sc__law_order : FnScope N__law_order ps__law_order (defScope st__law_order) := ⟨rfl, rfl, rfl, by decide +kernel, rfl, by decide +kernel, by decide +kernel⟩
abbrev st__law_near : Stmt := top 10
abbrev ps__law_near : List Str := ["_law_net_here", "_law_hand"]
theorem sc__law_near : FnScope N__law_near ps__law_near (defScope st__law_near) := ⟨rfl, rfl, rfl, by decide +kernel, rfl, by decide +kernel, by decide +kernel⟩
abbrev st_law : Stmt := top 12
abbrev ps_law : List Str := ["_law_script"]
theorem sc_law : FnScope N_law ps_law (defScope st_law) := ⟨rfl, rfl, rfl, by decide +kernel, rfl, by decide +kernel, by decide +kernel⟩
structure Txt (K : Frag) (mg : Str → Option Value) : Prop where
  d__law_deck : DefAt K mg "_law_deck" st__law_deck ps__law_deck
  d__law_pick : DefAt K mg "_law_pick" st__law_pick ps__law_pick
  d__law_one : DefAt K mg "_law_one" st__law_one ps__law_one
  d__law_net : DefAt K mg "_law_net" st__law_net ps__law_net
  d_by_weight : DefAt K mg "by_weight" st_by_weight ps_by_weight
  d__law_sort : DefAt K mg "_law_sort" st__law_sort ps__law_sort
  d__law_same : DefAt K mg "_law_same" st__law_same ps__law_same
  d_neighbours : DefAt K mg "neighbours" st_neighbours ps_neighbours
  d__law_order : DefAt K mg "_law_order" st__law_order ps__law_order
  d__law_near : DefAt K mg "_law_near" st__law_near ps__law_near
  d_law : DefAt K mg "law" st_law ps_law
  b_bool : mg "bool" = none
  b_enumerate : mg "enumerate" = none
  b_int : mg "int" = none
  b_isinstance : mg "isinstance" = none
  b_len : mg "len" = none
  b_list : mg "list" = none
  b_range : mg "range" = none
  b_sorted : mg "sorted" = none
  b_tuple : mg "tuple" = none
structure TxtL [TF] (K : Frag) (mg : Str → Option Value) (base : Heap) : Prop where
  l_by_weight : Lm K mg base "by_weight" ((("by_weight" : Str) ++ ".<locals>.") ++ "<lambda>")
section
variable {Pg : Program} {w : World} {K : Frag} {mg : Str → Option Value} {base : Heap}
theorem hP__law_deck : ∀ i : Nat, ([true, true] : List Bool)[i]? = some true → i ∈ ([0, 1] : List Nat) := hP_of (by decide)
theorem cal__law_deck [TF] (T : Txt K mg) : Cal Pg w K mg base "_law_deck" 2 1 fn__law_deck :=
  T.d__law_deck.cal (k := 0) sc__law_deck [0, 1] [true, true] (g := g__law_deck) (by decide) rfl hP__law_deck fun f cdv hc hf A outer s H E hr => by
    have tk := takes_of (X := cxOf (L2.CX Pg w) Pg w K mg base N__law_deck "_law_deck" (defScope st__law_deck) f cdv A outer s H E) rfl rfl rfl rfl
    exact (s_cons (s_if (t_cmp o_geA (o_name 0) (o_of (e_bin o_pow o_int o_int)) (nomark _))
  (s_one (s_ret (e_lst (es_cons (e_val (o_of (e_bin o_sub (o_name 0) (o_of (e_bin o_pow o_int o_int))))) (es_cons (e_val (o_of (e_bin o_mod (o_name 0) o_int))) (es_cons (e_name 1) es_nil))))))
  s_nil)
  (s_one (s_ret (e_lst (es_cons e_int (es_cons (e_val (o_of (e_bin o_mod (o_name 0) o_int))) (es_cons (e_name 1) es_nil)))))))
theorem hP__law_pick : ∀ i : Nat, ([true, true] : List Bool)[i]? = some true → i ∈ ([0, 1] : List Nat) := hP_of (by decide)
theorem cal__law_pick [TF] (T : Txt K mg) : Cal Pg w K mg base "_law_pick" 2 1 fn__law_pick :=
  T.d__law_pick.cal (k := 0) sc__law_pick [0, 1] [true, true] (g := g__law_pick) (by decide) rfl hP__law_pick fun f cdv hc hf A outer s H E hr => by
    have tk := takes_of (X := cxOf (L2.CX Pg w) Pg w K mg base N__law_pick "_law_pick" (defScope st__law_pick) f cdv A outer s H E) rfl rfl rfl rfl
    exact (s_cons (s_if (t_cmp o_gtA (o_of (e_ix (o_name 0) o_int (fun _ _ => rfl))) o_int (nomark _))
  (s_cons (s_asg (by decide) (o_of (e_bin o_mod (o_of (e_ix (o_name 0) o_int (fun _ _ => rfl))) (o_name 1))) (g_name sc__law_pick.nd rfl (by first | exact Or.inl rfl | exact Or.inr rfl)))
  (s_cons (s_store 0 (e_bin o_fdiv (o_of (e_ix (o_name 0) o_int (fun _ _ => rfl))) (o_name 1)) o_int)
  (s_one (s_ret (e_name 3)))))
  s_nil)
  (s_cons (s_store 0 (e_bin o_add (o_of (e_ix (o_name 0) o_int (fun _ _ => rfl))) o_int) o_int)
  (s_cons (s_asg (by decide) (o_of (e_bin o_mod (o_of (e_bin o_pow (o_of (e_bin o_add (o_of (e_ix (o_name 0) o_int (fun _ _ => rfl))) (o_of (e_bin o_mul o_int (o_of (e_ix (o_name 0) o_int (fun _ _ => rfl))))))) o_int)) o_int)) (g_name sc__law_pick.nd rfl (by first | exact Or.inl rfl | exact Or.inr rfl)))
  (s_cons (s_asg (by decide) (o_of (e_bin o_fdiv (o_of (e_bin o_mod (o_of (e_bin o_pow (o_of (e_bin o_add (o_name 2) (o_of (e_bin o_mul o_int (o_of (e_ix (o_name 0) o_int (fun _ _ => rfl))))))) o_int)) o_int)) o_int)) (g_name sc__law_pick.nd rfl (by first | exact Or.inl rfl | exact Or.inr rfl)))
  (s_one (s_ret (e_bin o_mod (o_name 3) (o_name 1))))))))
theorem hP__law_one : ∀ i : Nat, ([true, true] : List Bool)[i]? = some true → i ∈ ([0, 1] : List Nat) := hP_of (by decide)
theorem cal__law_one [TF] (T : Txt K mg) : Cal Pg w K mg base "_law_one" 2 2 fn__law_one :=
  T.d__law_one.cal (k := 1) sc__law_one [0, 1] [true, true] (g := g__law_one) (by decide) rfl hP__law_one fun f cdv hc hf A outer s H E hr => by
    have tk := takes_of (X := cxOf (L2.CX Pg w) Pg w K mg base N__law_one "_law_one" (defScope st__law_one) f cdv A outer s H E) rfl rfl rfl rfl
    exact (s_one (s_ret (e_ix (o_name 1) (o_of (e_call (cal__law_pick T) (hr.mono (by decide)) tk (by rfl) (as_lent 0 (as_val (e_val (o_of (e_callB c_len (by rfl) T.b_len PySem.boot_len (os_cons (o_name 1) os_nil)))) as_nil)))) (fun _ _ => rfl))))
theorem hP__law_net : ∀ i : Nat, ([true, true] : List Bool)[i]? = some true → i ∈ ([0, 1] : List Nat) := hP_of (by decide)
theorem cal__law_net [TF] (T : Txt K mg) : Cal Pg w K mg base "_law_net" 2 3 fn__law_net :=
  T.d__law_net.cal (k := 2) sc__law_net [0, 1] [true, true] (g := g__law_net) (by decide) rfl hP__law_net fun f cdv hc hf A outer s H E hr => by
    have tk := takes_of (X := cxOf (L2.CX Pg w) Pg w K mg base N__law_net "_law_net" (defScope st__law_net) f cdv A outer s H E) rfl rfl rfl rfl
    exact (s_cons (s_asg (by decide) (o_of (e_sl (o_of (e_lst (es_cons (e_str (by decide +kernel)) (es_cons (e_str (by decide +kernel)) (es_cons (e_str (by decide +kernel)) (es_cons (e_str (by decide +kernel)) (es_cons (e_str (by decide +kernel)) (es_cons (e_str (by decide +kernel)) (es_cons (e_str (by decide +kernel)) (es_cons (e_str (by decide +kernel)) es_nil)))))))))) p_none (p_some (o_of (e_bin o_add o_int (o_of (e_call (cal__law_pick T) (hr.mono (by decide)) tk (by rfl) (as_lent 0 (as_val (e_name 1) as_nil))))))))) (g_name sc__law_net.nd rfl (by first | exact Or.inl rfl | exact Or.inr rfl)))
  (s_cons (s_set (i := 3) (by decide) sc__law_net.nd rfl (by first | exact Or.inl rfl | exact Or.inr rfl) (e_lst es_nil))
  (s_cons (s_for (P' := [0, 1]) (by decide) (by decide) (src_enumA (T := fun s => srcIn s [0, 1]) trivial) (passes_of rfl) rfl (i_enumA (by rfl) T.b_enumerate (o_name 2)) (g_tup rfl rfl rfl (gs_cons (g_name sc__law_net.nd rfl (by first | exact Or.inl rfl | exact Or.inr rfl)) (gs_cons (g_name sc__law_net.nd rfl (by first | exact Or.inl rfl | exact Or.inr rfl)) gs_nil)))
  (s_one (s_for (P' := [0, 1]) (by decide) (by decide) (src_fz (T := fun s => srcIn s [0, 1]) trivial) (passes_of rfl) rfl (i_op (o_of (e_sl (o_name 2) (p_some (o_of (e_bin o_add (o_name 4) o_int))) p_none))) (g_name sc__law_net.nd rfl (by first | exact Or.inl rfl | exact Or.inr rfl))
  (s_one (s_if ((w_and (t_cmp o_ltA (o_of (e_call (cal__law_pick T) (hr.mono (by decide)) tk (by rfl) (as_lent 0 (as_val e_int as_nil)))) o_int (nomark _)) (w_and1 (t_cmp o_ltA (o_of (e_callB c_len (by rfl) T.b_len PySem.boot_len (os_cons (o_name 3) os_nil))) o_int (nomark _))))).pt
  (s_one (s_app 3 (e_tup (es_cons (e_name 5) (es_cons (e_name 6) (es_cons (e_val (o_of (e_bin o_add o_int (o_of (e_call (cal__law_pick T) (hr.mono (by decide)) tk (by rfl) (as_lent 0 (as_val (e_val (o_of (e_call (cal__law_one T) (hr.mono (by decide)) tk (by rfl) (as_lent 0 (as_val (e_val (o_of (e_lst (es_cons e_int (es_cons e_int (es_cons e_int es_nil)))))) as_nil))))) as_nil))))))) es_nil))))))
  s_nil)))))
  (s_one (s_ret (e_tup (es_cons (e_val (o_of (e_callTy c_tuple (by rfl) T.b_tuple (by decide +kernel) (os_cons (o_name 2) os_nil)))) (es_cons (e_val (o_of (e_callTy c_tuple (by rfl) T.b_tuple (by decide +kernel) (os_cons (o_name 3) os_nil)))) es_nil))))))))
theorem hP_by_weight : ∀ i : Nat, ([true] : List Bool)[i]? = some true → i ∈ ([0] : List Nat) := hP_of (by decide)
theorem cal_by_weight (T : Txt K mg) (TL : TxtL K mg base) : Cal Pg w K mg base "by_weight" 1 1 fn_by_weight :=
  T.d_by_weight.cal (k := 0) sc_by_weight [0] [true] (g := g_by_weight) (by decide) rfl hP_by_weight fun f cdv hc hf A outer s H E hr => by
    have tk := takes_of (X := cxOf (L2.CX Pg w) Pg w K mg base N_by_weight "by_weight" (defScope st_by_weight) f cdv A outer s H E) rfl rfl rfl rfl
    exact (s_one (s_ret (e_sortK (a := "tie") (TL.l_by_weight f cdv hf hc) hr (by rfl) T.b_sorted (by exact ⟨rfl, rfl, rfl, by decide +kernel, rfl, fun _ _ _ _ _ _ => rfl⟩) (by with_unfolding_all rfl) (fun _ _ _ _ _ => (x_tup (xs_cons (x_neg (x_item (i := 2) (by decide) (x_name rfl rfl) (fun _ _ => rfl))) (xs_cons (x_item (i := 0) (by decide) (x_name rfl rfl) (fun _ _ => rfl)) (xs_cons (x_item (i := 1) (by decide) (x_name rfl rfl) (fun _ _ => rfl)) xs_nil))))) (o_of (e_ix (o_name 0) o_int (fun _ _ => rfl))))))
theorem hP__law_sort : ∀ i : Nat, ([true] : List Bool)[i]? = some true → i ∈ ([0] : List Nat) := hP_of (by decide)
theorem cal__law_sort [TF] (T : Txt K mg) : Cal Pg w K mg base "_law_sort" 1 1 fn__law_sort :=
  T.d__law_sort.cal (k := 0) sc__law_sort [0] [true] (g := g__law_sort) (by decide) rfl hP__law_sort fun f cdv hc hf A outer s H E hr => by
    have tk := takes_of (X := cxOf (L2.CX Pg w) Pg w K mg base N__law_sort "_law_sort" (defScope st__law_sort) f cdv A outer s H E) rfl rfl rfl rfl
    exact (s_cons (s_if (t_val (e_isi .bool (by rfl) T.b_isinstance (o_name 0) (pe_tyN (by rfl) T.b_bool (by decide +kernel))))
  (s_one (s_ret (e_str (by decide +kernel))))
  s_nil)
  (s_cons (s_if (t_val (e_isi .int (by rfl) T.b_isinstance (o_name 0) (pe_tyN (by rfl) T.b_int (by decide +kernel))))
  (s_one (s_ret (e_str (by decide +kernel))))
  s_nil)
  (s_cons (s_if (t_val (e_isi .tuple (by rfl) T.b_isinstance (o_name 0) (pe_tyN (by rfl) T.b_tuple (by decide +kernel))))
  (s_one (s_ret (e_str (by decide +kernel))))
  s_nil)
  (s_one (s_ret (e_if (t_val (e_isi .list (by rfl) T.b_isinstance (o_name 0) (pe_tyN (by rfl) T.b_list (by decide +kernel)))) (e_str (by decide +kernel)) (e_str (by decide +kernel))))))))
theorem hP__law_same : ∀ i : Nat, ([true, true] : List Bool)[i]? = some true → i ∈ ([0, 1] : List Nat) := hP_of (by decide)
theorem cal__law_same_n [TF] (T : Txt K mg) : ∀ k0, Cal Pg w K mg base "_law_same" 2 (1 + k0) (fn__law_same k0)
  | 0 => T.d__law_same.none
  | k0 + 1 => by
    have Hrec := cal__law_same_n T k0
    exact T.d__law_same.cal (k := 1 + k0) sc__law_same [0, 1] [true, true] (g := g__law_same (fn__law_same k0)) (by decide) rfl hP__law_same fun f cdv hc hf A outer s H E hr => by
      have tk := takes_of (X := cxOf (L2.CX Pg w) Pg w K mg base N__law_same "_law_same" (defScope st__law_same) f cdv A outer s H E) rfl rfl rfl rfl
      exact (s_cons (s_if (t_cmp (o_ne hr.u65) (o_of (e_call (cal__law_sort T) (hr.mono (by omega)) tk (by rfl) (as_lent 0 as_nil))) (o_of (e_call (cal__law_sort T) (hr.mono (by omega)) tk (by rfl) (as_val (e_name 1) as_nil))) (nomark _))
  (s_one (s_ret e_bl))
  s_nil)
  (s_cons (s_if (t_not (t_val (e_isi2 .tuple .list (by rfl) T.b_isinstance (o_name 0) (pe_tyN (by rfl) T.b_tuple (by decide +kernel)) (pe_tyN (by rfl) T.b_list (by decide +kernel)))))
  (s_one (s_ret (e_cmp (o_eq hr.u65) (o_name 0) (o_name 1) (nomark _))))
  s_nil)
  (s_cons (s_if (t_cmp (o_ne hr.u65) (o_of (e_callB c_len (by rfl) T.b_len PySem.boot_len (os_cons (o_name 0) os_nil))) (o_of (e_callB c_len (by rfl) T.b_len PySem.boot_len (os_cons (o_name 1) os_nil))) (nomark _))
  (s_one (s_ret e_bl))
  s_nil)
  (s_one (s_ret (e_cmp (o_eq hr.u65) (o_of (e_comp (own := [("_law_k", 2), ("_law_part", 3)]) rfl sc__law_same.nd (i_enumS 0 (by rfl) T.b_enumerate) (blkOk_by (own := [("_law_k", 2), ("_law_part", 3)]) (N := N__law_same) (sc := defScope st__law_same) (by decide +kernel)) (fun _ _ _ _ _ => (g_tup rfl rfl rfl (gs_cons (g_name sc__law_same.nd rfl (by first | exact Or.inl rfl | exact Or.inr rfl)) (gs_cons (g_name sc__law_same.nd rfl (by first | exact Or.inl rfl | exact Or.inr rfl)) gs_nil)))) (fun _ _ _ _ _ => (ts_one (t_not (t_val (e_call Hrec hr takes0 (by rfl) (as_val (e_name 3) (as_val (e_val (o_of (e_ix (o_name 1) (o_name 2) (fun _ _ => rfl)))) as_nil))))))) (fun _ _ _ _ _ => (o_of (e_name 2))) (by decide) (src_enumS (T := fun s => srcOut s [2, 3]) trivial (fun _ => (by decide : 0 ∉ [2, 3]))))) (o_of (e_lst es_nil)) (nomark _)))))))
theorem cal__law_same [TF] (T : Txt K mg) : Cal Pg w K mg base "_law_same" 2 5 (fn__law_same 4) := cal__law_same_n T 4
theorem hP_neighbours : ∀ i : Nat, ([true, true] : List Bool)[i]? = some true → i ∈ ([0, 1] : List Nat) := hP_of (by decide)
theorem cal_neighbours [TF] (T : Txt K mg) : Cal Pg w K mg base "neighbours" 2 1 fn_neighbours :=
  T.d_neighbours.cal (k := 0) sc_neighbours [0, 1] [true, true] (g := g_neighbours) (by decide) rfl hP_neighbours fun f cdv hc hf A outer s H E hr => by
    have tk := takes_of (X := cxOf (L2.CX Pg w) Pg w K mg base N_neighbours "neighbours" (defScope st_neighbours) f cdv A outer s H E) rfl rfl rfl rfl
    exact (s_cons (s_asg (by decide) (o_of (e_bin o_add (o_of (e_comp (own := [("tie", 3)]) rfl sc_neighbours.nd (i_op (o_of (e_ix (o_name 0) o_int (fun _ _ => rfl)))) (blkOk_by (own := [("tie", 3)]) (N := N_neighbours) (sc := defScope st_neighbours) (by decide +kernel)) (fun _ _ _ _ _ => (g_name sc_neighbours.nd rfl (by first | exact Or.inl rfl | exact Or.inr rfl))) (fun _ _ _ _ _ => (ts_one (t_cmp (o_eq hr.u65) (o_of (e_ix (o_name 3) o_int (fun _ _ => rfl))) (o_name 1) (nomark _)))) (fun _ _ _ _ _ => (o_of (e_ix (o_name 3) o_int (fun _ _ => rfl)))) (by decide) (src_fz (T := fun s => srcOut s [3]) trivial))) (o_of (e_comp (own := [("tie", 3)]) rfl sc_neighbours.nd (i_op (o_of (e_ix (o_name 0) o_int (fun _ _ => rfl)))) (blkOk_by (own := [("tie", 3)]) (N := N_neighbours) (sc := defScope st_neighbours) (by decide +kernel)) (fun _ _ _ _ _ => (g_name sc_neighbours.nd rfl (by first | exact Or.inl rfl | exact Or.inr rfl))) (fun _ _ _ _ _ => (ts_one (t_cmp (o_eq hr.u65) (o_of (e_ix (o_name 3) o_int (fun _ _ => rfl))) (o_name 1) (nomark _)))) (fun _ _ _ _ _ => (o_of (e_ix (o_name 3) o_int (fun _ _ => rfl)))) (by decide) (src_fz (T := fun s => srcOut s [3]) trivial))))) (g_name sc_neighbours.nd rfl (by first | exact Or.inl rfl | exact Or.inr rfl)))
  (s_one (s_ret (e_callB (c_sortDD hr.u65) (by rfl) T.b_sorted (by decide +kernel) (os_cons (o_name 2) os_nil)))))
theorem hP__law_order : ∀ i : Nat, ([true] : List Bool)[i]? = some true → i ∈ ([0] : List Nat) := hP_of (by decide)
theorem cal__law_order [TF] (T : Txt K mg) : Cal Pg w K mg base "_law_order" 1 1 fn__law_order :=
  T.d__law_order.cal (k := 0) sc__law_order [0] [true] (g := g__law_order) (by decide) rfl hP__law_order fun f cdv hc hf A outer s H E hr => by
    have tk := takes_of (X := cxOf (L2.CX Pg w) Pg w K mg base N__law_order "_law_order" (defScope st__law_order) f cdv A outer s H E) rfl rfl rfl rfl
    exact (s_cons (s_set (i := 1) (by decide) sc__law_order.nd rfl (by first | exact Or.inl rfl | exact Or.inr rfl) (e_callTy c_list (by rfl) T.b_list (by decide +kernel) (os_cons (o_of (e_ix (o_name 0) o_int (fun _ _ => rfl))) os_nil)))
  (s_cons (s_set (i := 2) (by decide) sc__law_order.nd rfl (by first | exact Or.inl rfl | exact Or.inr rfl) (e_lst es_nil))
  (s_cons (s_while (fun ρ => 17) (passes_of rfl) (t_cmp (o_ne hr.u65) (o_name 1) (o_of (e_lst es_nil)) (nomark _))
  (s_cons (s_asg (by decide) (o_of (e_ix (o_name 1) o_int (fun _ _ => rfl))) (g_name sc__law_order.nd rfl (by first | exact Or.inl rfl | exact Or.inr rfl)))
  (s_cons (s_for (P' := [0, 1]) (by decide) (by decide) (src_slot (T := fun s => srcIn s [0, 1]) trivial (fun _ => (by decide : 1 ∈ [0, 1]))) (passes_of rfl) rfl (i_op (o_name 1)) (g_name sc__law_order.nd rfl (by first | exact Or.inl rfl | exact Or.inr rfl))
  (s_one (s_if (t_cmp o_gtA (o_of (e_ix (o_name 4) o_int (fun _ _ => rfl))) (o_of (e_ix (o_name 3) o_int (fun _ _ => rfl))) (nomark _))
  (s_one (s_set (i := 3) (by decide) sc__law_order.nd rfl (by first | exact Or.inl rfl | exact Or.inr rfl) (e_name 4)))
  s_nil)))
  (s_cons (s_app 2 (e_name 3))
  (s_one (s_rem 1 hr.u65 (o_name 3)))))))
  (s_one (s_ret (e_name 2))))))
theorem hP__law_near : ∀ i : Nat, ([true, true] : List Bool)[i]? = some true → i ∈ ([0, 1] : List Nat) := hP_of (by decide)
theorem cal__law_near [TF] (T : Txt K mg) : Cal Pg w K mg base "_law_near" 2 1 fn__law_near :=
  T.d__law_near.cal (k := 0) sc__law_near [0, 1] [true, true] (g := g__law_near) (by decide) rfl hP__law_near fun f cdv hc hf A outer s H E hr => by
    have tk := takes_of (X := cxOf (L2.CX Pg w) Pg w K mg base N__law_near "_law_near" (defScope st__law_near) f cdv A outer s H E) rfl rfl rfl rfl
    exact (s_cons (s_set (i := 2) (by decide) sc__law_near.nd rfl (by first | exact Or.inl rfl | exact Or.inr rfl) (e_lst es_nil))
  (s_cons (s_for (P' := [0, 1]) (by decide) (by decide) (src_fz (T := fun s => srcIn s [0, 1]) trivial) (passes_of rfl) rfl (i_op (o_of (e_ix (o_name 0) o_int (fun _ _ => rfl)))) (g_tup rfl rfl rfl (gs_cons (g_name sc__law_near.nd rfl (by first | exact Or.inl rfl | exact Or.inr rfl)) (gs_cons (g_name sc__law_near.nd rfl (by first | exact Or.inl rfl | exact Or.inr rfl)) (gs_cons (g_name sc__law_near.nd rfl (by first | exact Or.inl rfl | exact Or.inr rfl)) gs_nil))))
  (s_one (s_if (t_cmp (o_in hr.u65) (o_name 1) (o_of (e_tup (es_cons (e_name 3) (es_cons (e_name 4) es_nil)))) (by with_unfolding_all rfl))
  (s_one (s_app 2 (e_if (t_cmp (o_eq hr.u65) (o_name 1) (o_name 3) (nomark _)) (e_name 4) (e_name 3))))
  s_nil)))
  (s_one (s_ret (e_callB (c_sortDD hr.u65) (by rfl) T.b_sorted (by decide +kernel) (os_cons (o_name 2) os_nil))))))
theorem hP_law : ∀ i : Nat, ([true] : List Bool)[i]? = some true → i ∈ ([0] : List Nat) := hP_of (by decide)
theorem ok_law {f : Addr} {fd : FuncData} (F : Fun K "law" "law" st_law f fd) (hf : mg "law" = some (.ref f)) (T : Txt K mg) (TL : TxtL K mg base) : FnOk Pg w K mg base (L2.CX Pg w) 6 f fd ps_law (SpOf K mg 1 fn_law) :=
  fn_ok (k := 5) F sc_law [0] [true] (g := g_law) (by decide) rfl hP_law fun cdv hc A outer s H E hr => by
    have tk := takes_of (X := cxOf (L2.CX Pg w) Pg w K mg base N_law "law" (defScope st_law) f cdv A outer s H E) rfl rfl rfl rfl
    exact (s_cons (s_for (P' := [0]) (by decide) (by decide) (src_fz (T := fun s => srcIn s [0]) trivial) (passes_of rfl) rfl (i_op (o_of (e_sl (o_of (e_bin o_add (o_of (e_lst (es_cons e_int es_nil))) (o_name 0))) p_none (p_some o_int)))) (g_name sc_law.nd rfl (by first | exact Or.inl rfl | exact Or.inr rfl))
  (s_cons (s_set (i := 2) (by decide) sc_law.nd rfl (by first | exact Or.inl rfl | exact Or.inr rfl) (e_call (cal__law_deck T) (hr.mono (by decide)) tk (by rfl) (as_val (e_name 1) (as_val e_int as_nil))))
  (s_cons (s_asg (by decide) (o_of (e_call (cal__law_net T) (hr.mono (by decide)) tk (by rfl) (as_lent 2 (as_val e_int as_nil)))) (g_name sc_law.nd rfl (by first | exact Or.inl rfl | exact Or.inr rfl)))
  (s_one (s_for (P' := [0]) (by decide) (by decide) (src_rng1 (T := fun s => srcIn s [0]) trivial) (passes_of rfl) rfl (i_range1 (by rfl) T.b_range (os_cons o_int os_nil)) (g_name sc_law.nd rfl (by first | exact Or.inl rfl | exact Or.inr rfl))
  (s_cons (s_set (i := 5) (by decide) sc_law.nd rfl (by first | exact Or.inl rfl | exact Or.inr rfl) (e_call (cal_by_weight T TL) (hr.mono (by decide)) tk (by rfl) (as_val (e_name 3) as_nil)))
  (s_cons (s_if (t_not (t_val (e_call (cal__law_same T) (hr.mono (by decide)) tk (by rfl) (as_lent 5 (as_val (e_val (o_of (e_call (cal__law_order T) (hr.mono (by decide)) tk (by rfl) (as_val (e_name 3) as_nil)))) as_nil)))))
  (s_one (s_ret e_bl))
  s_nil)
  (s_cons (s_app 5 e_int)
  (s_one (s_for (P' := [0]) (by decide) (by decide) (src_fz (T := fun s => srcIn s [0]) trivial) (passes_of rfl) rfl (i_op (o_of (e_ix (o_name 3) o_int (fun _ _ => rfl)))) (g_name sc_law.nd rfl (by first | exact Or.inl rfl | exact Or.inr rfl))
  (s_cons (s_set (i := 7) (by decide) sc_law.nd rfl (by first | exact Or.inl rfl | exact Or.inr rfl) (e_call (cal_neighbours T) (hr.mono (by decide)) tk (by rfl) (as_val (e_name 3) (as_val (e_name 6) as_nil))))
  (s_cons (s_if (t_not (t_val (e_call (cal__law_same T) (hr.mono (by decide)) tk (by rfl) (as_lent 7 (as_val (e_val (o_of (e_call (cal__law_near T) (hr.mono (by decide)) tk (by rfl) (as_val (e_name 3) (as_val (e_name 6) as_nil))))) as_nil)))))
  (s_one (s_ret e_bl))
  s_nil)
  (s_one (s_app 7 (e_str (by decide +kernel))))))))))))))))
  (s_one (s_ret e_bl)))
end
def fns : List He.DefD := [dd "_law_deck" st__law_deck, dd "_law_pick" st__law_pick, dd "_law_one" st__law_one, dd "_law_net" st__law_net, dd "by_weight" st_by_weight, dd "_law_sort" st__law_sort, dd "_law_same" st__law_same, dd "neighbours" st_neighbours, dd "_law_order" st__law_order, dd "_law_near" st__law_near, dd "law" st_law]
def fas : List He.Fa := [.glo "_law_deck", .glo "_law_pick", .glo "_law_one", .glo "_law_net", .glo "by_weight", .glo "_law_sort", .glo "_law_same", .glo "neighbours", .glo "_law_order", .glo "_law_near", .glo "law", .free "bool", .free "enumerate", .free "int", .free "isinstance", .free "len", .free "list", .free "range", .free "sorted", .free "tuple"]
open PySem.Spec PyProof.Rows in
theorem txt {K : Frag} {h : Heap} {mg : Str → Option Value} (X : K.In h) (G : h.Ns mainGlobals mg) (c : He.SaysD fas fns K) : Txt K mg :=
  ⟨defAt X G c 0 0 rfl rfl (fun _ _ _ _ _ _ us hl => match us, hl with | [_, _], _ => rfl),
   defAt X G c 1 1 rfl rfl (fun _ _ _ _ _ _ us hl => match us, hl with | [_, _], _ => rfl),
   defAt X G c 2 2 rfl rfl (fun _ _ _ _ _ _ us hl => match us, hl with | [_, _], _ => rfl),
   defAt X G c 3 3 rfl rfl (fun _ _ _ _ _ _ us hl => match us, hl with | [_, _], _ => rfl),
   defAt X G c 4 4 rfl rfl (fun _ _ _ _ _ _ us hl => match us, hl with | [_], _ => rfl),
   defAt X G c 5 5 rfl rfl (fun _ _ _ _ _ _ us hl => match us, hl with | [_], _ => rfl),
   defAt X G c 6 6 rfl rfl (fun _ _ _ _ _ _ us hl => match us, hl with | [_, _], _ => rfl),
   defAt X G c 7 7 rfl rfl (fun _ _ _ _ _ _ us hl => match us, hl with | [_, _], _ => rfl),
   defAt X G c 8 8 rfl rfl (fun _ _ _ _ _ _ us hl => match us, hl with | [_], _ => rfl),
   defAt X G c 9 9 rfl rfl (fun _ _ _ _ _ _ us hl => match us, hl with | [_, _], _ => rfl),
   defAt X G c 10 10 rfl rfl (fun _ _ _ _ _ _ us hl => match us, hl with | [_], _ => rfl),
   He.free_ok X G (c.fact 11 (f := .free "bool") rfl),
   He.free_ok X G (c.fact 12 (f := .free "enumerate") rfl),
   He.free_ok X G (c.fact 13 (f := .free "int") rfl),
   He.free_ok X G (c.fact 14 (f := .free "isinstance") rfl),
   He.free_ok X G (c.fact 15 (f := .free "len") rfl),
   He.free_ok X G (c.fact 16 (f := .free "list") rfl),
   He.free_ok X G (c.fact 17 (f := .free "range") rfl),
   He.free_ok X G (c.fact 18 (f := .free "sorted") rfl),
   He.free_ok X G (c.fact 19 (f := .free "tuple") rfl)⟩
def exB (K : Frag) : Bool := decide ((TF.tf.map fun p => (He.cT K p.1).2).Nodup)
theorem txtL {K : Frag} {h base : Heap} {mg : Str → Option Value} {w : World} (X : K.In h) (G : h.Ns mainGlobals mg) (c : He.SaysX fas fns [] (TF.tf.map (·.1)) exB w h K) (TB : ∀ p ∈ TF.tf, LamX.TabB base mg (He.cT K p.1).1 (He.cT K p.1).2) : TxtL K mg base :=
  ⟨lm_of (He.glo_ok X G (c.t.d.fact 4 (f := .glo "by_weight") rfl)) (codeFd c.t.d 4 rfl) (by decide +kernel) (of_decide_eq_true c.more) TB⟩
abbrev Rr : PySem.W.OpenRow := PySem.W.OpenLaw.row PySem.Challenge.rw_nearpair_k02_neighbours_and_the_order_of
abbrev hk : PySem.W.Hook := He.hookX 4 fas fns [] (TF.tf.map (·.1)) exB
def ob (s : PySem.W.SharedT) : He.AlX := He.obsX 4 fas fns [] (TF.tf.map (·.1)) exB (HandSHeadRun.getT s)
theorem ob_eq (s : PySem.W.SharedT) : ob s = hk.obs s.abs := He.obsX_eq (HandSHeadRun.getT_eq s)
theorem run (w : World) : HandSHeadRun.RunEq Rr (PySem.W.view Rr.prog [12]) hk ob 4000 ["neighbours", "by_weight", "_law_deck", "_law_pick", "_law_one", "_law_sort", "_law_same", "_law_net", "_law_near", "_law_order"] w := by
  intro os
  kernel_rfl
open PySem.Spec PyProof.Rows in
theorem facts (good : ∀ ns : List Int, ns.length ≤ 63 → ∃ cs, fn_law [.val (.list (ns.map .int))] = .ok (.val (.bool true)) cs) {P : Program} {w : World} {K : Frag} {h : Heap} {mg : Str → Option Value} {f : Addr} (X : K.In h) (G : h.Ns mainGlobals mg) (hfa : mg ("law" : Str) = some (.ref f)) (c : He.SaysX fas fns [] (TF.tf.map (·.1)) exB w h K) :
    ∃ fd : FuncData, (∀ (s : Shared) (v : Value), BindsTo s fd ⟨[v], []⟩ [("_law_script", v)]) ∧ ∀ base : Heap, K.In base → base.Ns mainGlobals mg → (∀ p ∈ TF.tf, LamX.TabB base mg (He.cT K p.1).1 (He.cT K p.1).2) → FnOk P w K mg base (L2.CX P w) 6 f fd ["_law_script"] (spLaw K) := by
  obtain ⟨fd, F⟩ := c.t.d.def_ 10 (d := dd "law" st_law) rfl
  have e := hfa.symm.trans (He.glo_ok X G (c.t.d.fact 10 (f := .glo "law") rfl))
  have e2 : f = He.ga K "law" := by
    have := Option.some.inj e
    injection this
  subst e2
  have b := FunD.bindsA (ps := ["_law_script"]) F fun _ _ _ _ _ _ us hl => match us, hl with | [_], _ => rfl
  exact ⟨fd, fun s v => b s [v] rfl, fun base _ _ TB => law_imp (ok_law (fun_of F) hfa (txt X G c.t.d) (txtL X G c TB)) good⟩
end Lw
open PySem PySem.W PySem.Calls PyProof.Rows in
set_option maxHeartbeats 0 in
theorem holds_of (good : ∀ ns : List Int, ns.length ≤ 63 → ∃ cs, Lw.fn_law [.val (.list (ns.map .int))] = .ok (.val (.bool true)) cs) : PySem.Challenge.rw_nearpair_k02_neighbours_and_the_order_of.Holds := by
  w_on; o_law
  refine HandSHeadRun.head_any (r := OpenLaw.row PySem.Challenge.rw_nearpair_k02_neighbours_and_the_order_of) (q := view (OpenLaw.row PySem.Challenge.rw_nearpair_k02_neighbours_and_the_order_of).prog [12]) (H := Lw.hk) (ob := Lw.ob) (M := 4000) (loose := ["neighbours", "by_weight", "_law_deck", "_law_pick", "_law_one", "_law_sort", "_law_same", "_law_net", "_law_near", "_law_order"]) (d := HandSHeadRun.topDef (OpenLaw.row PySem.Challenge.rw_nearpair_k02_neighbours_and_the_order_of).prog 12) (kwd := []) Lw.ob_eq
    (by kernel_rfl) (fun s => by kernel_rfl) Lw.run (by kernel_rfl) (by kernel_rfl) (by kernel_rfl) (by rfl) (by first | assumption | decide +kernel) (by decide +kernel) ⟨rfl, rfl, rfl, rfl, rfl, by decide +kernel⟩ ?hw ?hc
  case hw => w_witness2
  case hc =>
    refine Nd.walkW (l := PySem.Challenge.rw_nearpair_k02_neighbours_and_the_order_of) (k := 6) (x := "_law_script") rfl (by kernel_rfl) ⟨rfl, by decide, by decide⟩ ?F
    intro w mg fa h Y G hmg0
    obtain ⟨K, KX, c⟩ := Y
    have hmg : mg ("law" : PySem.Str) = some (.ref fa) := by
      have e : (HandSHeadRun.topDef (OpenLaw.row PySem.Challenge.rw_nearpair_k02_neighbours_and_the_order_of).prog 12).name = ("law" : PySem.Str) := by kernel_rfl
      rw [← e]
      exact hmg0
    obtain ⟨fd, hb, hF⟩ := Lw.facts good (P := (PySem.Challenge.rw_nearpair_k02_neighbours_and_the_order_of).prog) (w := w) KX G hmg c
    refine ⟨K, fd, KX, fun p hp => ⟨c.empty _ (List.mem_map.mpr ⟨p, hp, rfl⟩), c.out _ (List.mem_map.mpr ⟨p, hp, rfl⟩), PySem.W.codeHd_of_K KX (c.hd _ (List.mem_map.mpr ⟨p, hp, rfl⟩))⟩, hb, hF⟩

theorem PySem.Challenge.cw_nearpair_k02_neighbours_and_the_order_of_holds : PySem.Challenge.rw_nearpair_k02_neighbours_and_the_order_of.Holds :=
  holds_of Lw.good
#print axioms PySem.Challenge.cw_nearpair_k02_neighbours_and_the_order_of_holds
